/- The finds of one context: the implementation's filter, the sums over a filtered list, and estimates of vessels. -/
import Derived.Test.YtjfppdgomnjnmaaFndD
namespace Go.Proofs.Ytjfppdgomnjnmaa.Fnd
open Go Go.Proofs.Ytjfppdgomnjnmaa.Ab Go.Proofs.Ytjfppdgomnjnmaa.Il
attribute [local irreducible] wpO wpC wpDr wpQ wpG wpE stepA seqQ blkQ Ret ev
set_option maxRecDepth 10000
set_option maxHeartbeats 4000000
set_option linter.unusedSimpArgs false
set_option linter.unusedVariables false

def ac39 : AC := (.seq (.reg [⟨(some 4), none, (.mv (.c (.bool false)))⟩]) (.seq (.reg [⟨(some 5), none, (.mv (.t 0))⟩, ⟨(some 6), none, (.call 30 [(.t 5)])⟩, ⟨(some 7), none, (.mv (.t 6))⟩, ⟨(some 8), (some (7, true)), (.mv (.t 1))⟩, ⟨(some 9), (some (7, true)), (.call 44 [(.t 8), (.c (.int .i64 1)), (.c (.int .i64 999))])⟩, ⟨(some 10), none, (.pick (.t 7) (.t 9) (.c (.bool false)))⟩, ⟨(some 4), none, (.mv (.t 10))⟩]) .ret))
def ro39 : List AOp := [(.mv (.t 4))]
theorem fun39 : Fun Try.prog 39 11 ac39 ro39 := ⟨Try.f39, _, Try.func39, by kernel_rfl, rfl, rfl, by kernel_rfl, by kernel_rfl, by decide⟩
def ac41 : AC := (.seq (.reg [⟨(some 3), none, (.box 1 false (.t 1))⟩, ⟨(some 4), none, (.mv (.c .nilS))⟩, ⟨(some 5), none, (.mv (.c (.bool false)))⟩]) (.seq (.seq (.reg [⟨(some 6), none, (.mv (.t 0))⟩, ⟨(some 7), none, (.call 12 [(.t 6)])⟩, ⟨(some 8), none, (.un .not (.t 7))⟩, ⟨(some 9), none, (.mv (.t 8))⟩, ⟨(some 10), (some (9, false)), (.ld false 1 (.t 3))⟩, ⟨(some 11), (some (9, false)), (.call 49 [(.t 10)])⟩, ⟨(some 12), (some (9, false)), (.un .not (.t 11))⟩, ⟨(some 13), none, (.pick (.t 9) (.c (.bool true)) (.t 12))⟩]) (.cond (.t 13) (.seq (.reg [⟨(some 4), none, (.mv (.c .nilS))⟩, ⟨(some 5), none, (.mv (.c (.bool false)))⟩]) .ret) .skip)) (.seq (.reg [⟨(some 14), none, (.mv (.t 0))⟩, ⟨(some 15), none, (.call 55 [(.t 14)])⟩, ⟨(some 16), none, (.mkf 56 [(.t 3)])⟩, ⟨(some 17), none, (.call 54 [(.t 15), (.t 16)])⟩, ⟨(some 4), none, (.mv (.t 17))⟩, ⟨(some 5), none, (.mv (.c (.bool true)))⟩]) .ret)))
def ro41 : List AOp := [(.mv (.t 4)), (.mv (.t 5))]
theorem fun41 : Fun Try.prog 41 18 ac41 ro41 := ⟨Try.f41, _, Try.func41, by kernel_rfl, rfl, rfl, by kernel_rfl, by kernel_rfl, by decide⟩
def ac54 : AC := (.seq (.reg [⟨(some 4), none, (.mv (.c .nilS))⟩]) (.seq (.reg [⟨(some 8), none, (.mv (.t 0))⟩, ⟨(some 9), none, (.mv (.t 1))⟩, ⟨(some 10), none, (.call 60 [(.t 8), (.t 9)])⟩, ⟨(some 5), none, (.mv (.t 10))⟩]) (.seq (.seq (.reg [⟨(some 11), none, (.mv (.t 5))⟩, ⟨(some 12), none, (.bin .eql (.t 11) (.c (.int .i64 (-1))))⟩]) (.cond (.t 12) (.seq (.reg [⟨(some 13), none, (.mv (.t 0))⟩, ⟨(some 4), none, (.mv (.t 13))⟩]) .ret) .skip)) (.seq (.seq (.reg [⟨(some 14), none, (.mv (.t 5))⟩, ⟨(some 15), none, (.bin .add (.t 14) (.c (.int .i64 1)))⟩, ⟨(some 6), none, (.mv (.t 15))⟩]) (.blk 0 (.loop (.seq (.seq (.reg [⟨(some 16), none, (.mv (.t 6))⟩, ⟨(some 17), none, (.mv (.t 0))⟩, ⟨(some 18), none, (.len (.t 17))⟩, ⟨(some 19), none, (.bin .lss (.t 16) (.t 18))⟩]) (.cond (.t 19) .skip (.exit 0))) (.seq (.blk 1 (.seq (.reg [⟨(some 22), none, (.mv (.t 0))⟩, ⟨(some 23), none, (.mv (.t 6))⟩, ⟨(some 24), none, (.ia 5 (.t 22) (.t 23))⟩, ⟨(some 25), none, (.ld true 5 (.t 24))⟩, ⟨(some 7), none, (.alloc [(.int .i64 0), (.str ⟨#[]⟩), (.int .i64 0), (.int .i64 0), (.int .i64 0)])⟩, ⟨none, none, (.st 5 (.t 7) (.t 25))⟩]) (.seq (.reg [⟨(some 26), none, (.mv (.t 1))⟩, ⟨(some 27), none, (.ld true 5 (.t 7))⟩, ⟨(some 28), none, (.callv (.t 26) [(.t 27)])⟩, ⟨(some 29), none, (.un .not (.t 28))⟩]) (.cond (.t 29) (.seq (.reg [⟨(some 30), none, (.mv (.t 0))⟩, ⟨(some 31), none, (.mv (.t 5))⟩, ⟨(some 32), none, (.ld true 5 (.t 7))⟩, ⟨(some 33), none, (.ia 5 (.t 30) (.t 31))⟩, ⟨none, none, (.st 5 (.t 33) (.t 32))⟩]) (.reg [⟨(some 34), none, (.mv (.t 5))⟩, ⟨(some 35), none, (.bin .add (.t 34) (.c (.int .i64 1)))⟩, ⟨(some 5), none, (.mv (.t 35))⟩])) .skip)))) (.reg [⟨(some 20), none, (.mv (.t 6))⟩, ⟨(some 21), none, (.bin .add (.t 20) (.c (.int .i64 1)))⟩, ⟨(some 6), none, (.mv (.t 21))⟩])))))) (.seq (.reg [⟨(some 36), none, (.mv (.t 0))⟩, ⟨(some 37), none, (.mv (.t 5))⟩, ⟨(some 38), none, (.slc 5 (.t 36) (some (.t 37)) none)⟩, ⟨none, none, (.clr 5 [(.int .i64 0), (.str ⟨#[]⟩), (.int .i64 0), (.int .i64 0), (.int .i64 0)] (.t 38))⟩]) (.seq (.reg [⟨(some 39), none, (.mv (.t 0))⟩, ⟨(some 40), none, (.mv (.t 5))⟩, ⟨(some 41), none, (.slc 5 (.t 39) none (some (.t 40)))⟩, ⟨(some 4), none, (.mv (.t 41))⟩]) .ret))))))
def ro54 : List AOp := [(.mv (.t 4))]
theorem fun54 : Fun Try.prog 54 42 ac54 ro54 := ⟨Try.f54, _, Try.func54, by kernel_rfl, rfl, rfl, by kernel_rfl, by kernel_rfl, by decide⟩
def ac55 : AC := (.seq (.reg [⟨(some 2), none, (.mv (.c .nilS))⟩]) (.seq (.seq (.reg [⟨(some 3), none, (.mv (.t 0))⟩, ⟨(some 4), none, (.nil2 false false (.t 3) (.c .nilS))⟩]) (.cond (.t 4) (.seq (.reg [⟨(some 2), none, (.mv (.c .nilS))⟩]) .ret) .skip)) (.seq (.reg [⟨(some 5), none, (.bsl 5 [(.int .i64 0), (.str ⟨#[]⟩), (.int .i64 0), (.int .i64 0), (.int .i64 0)] 0 [])⟩, ⟨(some 6), none, (.mv (.t 0))⟩, ⟨(some 7), none, (.app 5 48 [(.int .i64 0), (.str ⟨#[]⟩), (.int .i64 0), (.int .i64 0), (.int .i64 0)] (.t 5) (.t 6))⟩, ⟨(some 2), none, (.mv (.t 7))⟩]) .ret)))
def ro55 : List AOp := [(.mv (.t 2))]
theorem fun55 : Fun Try.prog 55 8 ac55 ro55 := ⟨Try.f55, _, Try.func55, by kernel_rfl, rfl, rfl, by kernel_rfl, by kernel_rfl, by decide⟩
def ac56 : AC := (.seq (.reg [⟨(some 2), none, (.box 5 true (.t 0))⟩, ⟨(some 3), none, (.mv (.c (.bool false)))⟩]) (.seq (.reg [⟨(some 4), none, (.fa 0 (.t 2))⟩, ⟨(some 5), none, (.ld false 1 (.t 4))⟩, ⟨(some 6), none, (.ld false 1 (.t 1))⟩, ⟨(some 7), none, (.bin .neq (.t 5) (.t 6))⟩, ⟨(some 3), none, (.mv (.t 7))⟩]) .ret))
def ro56 : List AOp := [(.mv (.t 3))]
theorem fun56 : Fun Try.prog 56 8 ac56 ro56 := ⟨Try.f56, _, Try.func56, by kernel_rfl, rfl, rfl, by kernel_rfl, by kernel_rfl, by decide⟩
def ac60 : AC := (.seq (.reg [⟨(some 4), none, (.mv (.c (.int .i64 0)))⟩]) (.seq (.seq (.reg [⟨(some 6), none, (.mv (.t 0))⟩, ⟨(some 7), none, (.len (.t 6))⟩, ⟨(some 8), none, (.mv (.c (.int .i64 0)))⟩]) (.blk 0 (.loop (.seq (.reg [⟨(some 9), none, (.bin .lss (.t 8) (.t 7))⟩]) (.seq (.cond (.t 9) .skip (.exit 0)) (.seq (.blk 1 (.seq (.reg [⟨(some 10), none, (.mv (.t 8))⟩, ⟨(some 5), none, (.mv (.t 10))⟩]) (.seq (.reg [⟨(some 11), none, (.mv (.t 1))⟩, ⟨(some 12), none, (.mv (.t 0))⟩, ⟨(some 13), none, (.mv (.t 5))⟩, ⟨(some 14), none, (.ia 5 (.t 12) (.t 13))⟩, ⟨(some 15), none, (.ld true 5 (.t 14))⟩, ⟨(some 16), none, (.callv (.t 11) [(.t 15)])⟩]) (.cond (.t 16) (.seq (.reg [⟨(some 17), none, (.mv (.t 5))⟩, ⟨(some 4), none, (.mv (.t 17))⟩]) .ret) .skip)))) (.reg [⟨(some 18), none, (.bin .add (.t 8) (.c (.int .i64 1)))⟩, ⟨(some 8), none, (.mv (.t 18))⟩]))))))) (.seq (.reg [⟨(some 4), none, (.mv (.c (.int .i64 (-1))))⟩]) .ret)))
def ro60 : List AOp := [(.mv (.t 4))]
theorem fun60 : Fun Try.prog 60 19 ac60 ro60 := ⟨Try.f60, _, Try.func60, by kernel_rfl, rfl, rfl, by kernel_rfl, by kernel_rfl, by decide⟩

section
variable {T : Nat → AV} {H : Nat → Option Ab.Rows} {nr : Nat} {x : AX}
theorem o_clr {sz r off len : Nat} {z : List AV} {rows : Ab.Rows} (h1 : gT T x = .sl r sz off len) (h2 : H r = some rows) (h3 : off + len ≤ rows.length) :
    Ab.ev (gT T) H nr (.clr sz z x) = some (.tup [], [(r, some (rows.take off ++ List.replicate len z ++ rows.drop (off + (List.replicate len z).length)))], 0) := by
  unfold Ab.ev; simp only [h1, h2]; rw [if_pos ⟨trivial, h3⟩]
theorem dr_cap {f b n : Nat} {v : AV} (hb : H b = some [[v]]) (hv : ∀ n, dr H (n + 1) v = v) : dr H (n + 3) (.fn f [.pt b 0 0]) = .fn f [.vp [v]] := by
  simp only [dr, hb, List.map_cons, List.map_nil, List.getElem?_cons_zero, List.drop_zero, hv]
end

theorem cv_arg {H : Nat → Option Ab.Rows} {b : Nat} {c : Int} (x : Fd) (hb : H b = some [[.int .i64 c]]) : ([AV.agg (fRow x)] ++ [AV.pt b 0 0]).map (dr H 6) = [.agg (fRow x), .vp [.int .i64 c]] := by
  simp [dr, hb, fRow]
theorem okFd (ws : List Fd) : okRows 5 (ws.map fRow) = true := okRows_map fRow_len ws
theorem con55 (ws : List Fd) (hlen : ws.length ≤ 1048576) : Con Try.prog 55 true [.vw true (ws.map fRow)] (.sl 0 5 0 ws.length) [ws.map fRow] := by
  cases ws with
  | nil =>
    refine con_of_wp mixed fun55 (by simp) [0] (plain_map fRow_plain []) ?_
    unfold ac55 ro55
    simp only [zipT]
    repeat (first | refine wG_app0 rfl rfl rfl (rows_vw rfl (okFd [])) ?_ | (first
    | refine wC_a rfl ?_
    | refine q_s rfl ?_
    | refine q_b rfl ?_
    | refine wG_nil ?_
    | refine wG_g rfl ?_
    | refine wG_pure (o_len_vwm rfl) ?_
    | refine wG_pure (o_not_d rfl) ?_
    | refine wG_p rfl (by first | exact rfl | omega) ?_
    | refine wG_pure (o_str2 rfl rfl rfl) ?_
    | refine wG_pure (e_istr rfl rfl (by omega)) ?_
    | refine wG_pure (e_istr0 rfl rfl (by omega)) ?_
    | refine wG_pure (o_not rfl) ?_
    | refine wG_pure (e_ia_vw0 rfl rfl (by omega) rfl) ?_
    | refine wG_pure (e_ia_vwp rfl rfl (by omega) rfl) ?_
    | refine wG_pure (e_ia_vwm rfl rfl (by omega) (by omega) rfl) ?_
    | refine wG_pure (e_ia_vwi rfl rfl (by omega) rfl) ?_
    | refine wG_pure (e_ia_vwn rfl rfl (by omega) (by omega) rfl) ?_
    | refine wG_n rfl rfl ?_
    | refine wG_u rfl rfl ?_
    | refine wG_new (o_mks rfl rfl (by omega) (by decide)) ?_))
    exact ret_sl (.inr rfl) (retV_mv rfl) rfl
  | cons w ws =>
    refine con_of_wp mixed fun55 (by simp) [1] (plain_map fRow_plain (w :: ws)) ?_
    unfold ac55 ro55
    simp only [zipT]
    have hle : 0 + ((w :: ws).map fRow).length ≤ 4294967296 := by simp at hlen ⊢; omega
    repeat (first | refine wG_app rfl rfl rfl (rows_vw rfl (okFd (w :: ws))) (by simp) hle (by decide) ?_ | (first
    | refine wC_a rfl ?_
    | refine q_s rfl ?_
    | refine q_b rfl ?_
    | refine wG_nil ?_
    | refine wG_g rfl ?_
    | refine wG_pure (o_len_vwm rfl) ?_
    | refine wG_pure (o_not_d rfl) ?_
    | refine wG_p rfl (by first | exact rfl | omega) ?_
    | refine wG_pure (o_str2 rfl rfl rfl) ?_
    | refine wG_pure (e_istr rfl rfl (by omega)) ?_
    | refine wG_pure (e_istr0 rfl rfl (by omega)) ?_
    | refine wG_pure (o_not rfl) ?_
    | refine wG_pure (e_ia_vw0 rfl rfl (by omega) rfl) ?_
    | refine wG_pure (e_ia_vwp rfl rfl (by omega) rfl) ?_
    | refine wG_pure (e_ia_vwm rfl rfl (by omega) (by omega) rfl) ?_
    | refine wG_pure (e_ia_vwi rfl rfl (by omega) rfl) ?_
    | refine wG_pure (e_ia_vwn rfl rfl (by omega) (by omega) rfl) ?_
    | refine wG_n rfl rfl ?_
    | refine wG_u rfl rfl ?_
    | refine wG_new (o_mks rfl rfl (by omega) (by decide)) ?_))
    have e : 0 + ((w :: ws).map fRow).length = (w :: ws).length := by simp
    rw [e]
    exact ret_sl (.inr rfl) (retV_mv rfl) rfl
theorem con56 (f : Fd) (c : Int) : Con Try.prog 56 true [.agg (fRow f), .vp [.int .i64 c]] (.bool (decide (f.c ≠ c))) [] := by
  refine con_of_wp mixed fun56 (by simp) [] plain_nil ?_
  unfold ac56 ro56
  simp only [zipT]
  repeat (first
    | refine wC_a rfl ?_
    | refine q_s rfl ?_
    | refine q_b rfl ?_
    | refine wG_nil ?_
    | refine wG_g rfl ?_
    | refine wG_pure (o_len_vwm rfl) ?_
    | refine wG_pure (o_not_d rfl) ?_
    | refine wG_p rfl (by first | exact rfl | omega) ?_
    | refine wG_pure (o_str2 rfl rfl rfl) ?_
    | refine wG_pure (e_istr rfl rfl (by omega)) ?_
    | refine wG_pure (e_istr0 rfl rfl (by omega)) ?_
    | refine wG_pure (o_not rfl) ?_
    | refine wG_pure (e_ia_vw0 rfl rfl (by omega) rfl) ?_
    | refine wG_pure (e_ia_vwp rfl rfl (by omega) rfl) ?_
    | refine wG_pure (e_ia_vwm rfl rfl (by omega) (by omega) rfl) ?_
    | refine wG_pure (e_ia_vwi rfl rfl (by omega) rfl) ?_
    | refine wG_pure (e_ia_vwn rfl rfl (by omega) (by omega) rfl) ?_
    | refine wG_n rfl rfl ?_
    | refine wG_u rfl rfl ?_
    | refine wG_new (o_mks rfl rfl (by omega) (by decide)) ?_)
  exact ret_boolE (.inr rfl) ⟨_, retV_mv rfl, rfl⟩
theorem con60 (nn : Bool) (xs : List Fd) (hlen : xs.length ≤ 1048576) (c k : Int) (hk : (k = -1 ∧ ∀ j, j < xs.length → (xs.getD j default).c = c) ∨ ∃ m : Nat, k = m ∧ m < xs.length ∧ (xs.getD m default).c ≠ c ∧ ∀ j, j < m → (xs.getD j default).c = c) :
    Con Try.prog 60 true [.vw nn (xs.map fRow), .fn 56 [.vp [.int .i64 c]]] (.int .i64 k) [] := by
  refine con_of_wp mixed fun60 (by simp) [] plain_nil ?_
  unfold ac60 ro60
  simp only [zipT]
  repeat (first
    | refine wC_a rfl ?_
    | refine q_s rfl ?_
    | refine q_b rfl ?_
    | refine wG_nil ?_
    | refine wG_g rfl ?_
    | refine wG_pure (o_len_vwm rfl) ?_
    | refine wG_pure (o_not_d rfl) ?_
    | refine wG_p rfl (by first | exact rfl | omega) ?_
    | refine wG_pure (o_str2 rfl rfl rfl) ?_
    | refine wG_pure (e_istr rfl rfl (by omega)) ?_
    | refine wG_pure (e_istr0 rfl rfl (by omega)) ?_
    | refine wG_pure (o_not rfl) ?_
    | refine wG_pure (e_ia_vw0 rfl rfl (by omega) rfl) ?_
    | refine wG_pure (e_ia_vwp rfl rfl (by omega) rfl) ?_
    | refine wG_pure (e_ia_vwm rfl rfl (by omega) (by omega) rfl) ?_
    | refine wG_pure (e_ia_vwi rfl rfl (by omega) rfl) ?_
    | refine wG_pure (e_ia_vwn rfl rfl (by omega) (by omega) rfl) ?_
    | refine wG_n rfl rfl ?_
    | refine wG_u rfl rfl ?_
    | refine wG_new (o_mks rfl rfl (by omega) (by decide)) ?_)
  refine wC_loop Nat (fun i => ⟨[(0, .vw nn (xs.map fRow)), (1, .fn 56 [.vp [.int .i64 c]]), (7, .int .i64 (xs.length : Int)), (8, .int .i64 (i : Int))], [], 0⟩) (fun i => i ≤ xs.length ∧ ∀ j, j < i → (xs.getD j default).c = c) (fun i => xs.length - i) 0 ⟨Nat.zero_le _, fun j hj => absurd hj (Nat.not_lt_zero _)⟩ ?_ (fun _ _ => Nat.le_refl _) ?_
  · simp [LeP, leT, leH, lk, AV.ltr, ltrL, Ab.hg, upd, -List.getD_eq_getElem?_getD, -Int.default_eq_zero]
  rintro i ⟨hi, hok⟩
  by_cases hi2 : i < xs.length
  · repeat' (first | refine wG_callv rfl (con56 (xs.getD i default) c) rfl rfl ?_ | (first
    | refine wC_a rfl ?_
    | refine q_s rfl ?_
    | refine q_b rfl ?_
    | refine wG_nil ?_
    | refine wG_g rfl ?_
    | refine wG_pure (o_len_vwm rfl) ?_
    | refine wG_pure (o_not_d rfl) ?_
    | refine wG_p rfl (by first | exact rfl | omega) ?_
    | refine wG_pure (o_str2 rfl rfl rfl) ?_
    | refine wG_pure (e_istr rfl rfl (by omega)) ?_
    | refine wG_pure (e_istr0 rfl rfl (by omega)) ?_
    | refine wG_pure (o_not rfl) ?_
    | refine wG_pure (e_ia_vw0 rfl rfl (by omega) rfl) ?_
    | refine wG_pure (e_ia_vwp rfl rfl (by omega) rfl) ?_
    | refine wG_pure (e_ia_vwm rfl rfl (by omega) (by omega) rfl) ?_
    | refine wG_pure (e_ia_vwi rfl rfl (by omega) rfl) ?_
    | refine wG_pure (e_ia_vwn rfl rfl (by omega) (by omega) rfl) ?_
    | refine wG_n rfl rfl ?_
    | refine wG_u rfl rfl ?_
    | refine wG_new (o_mks rfl rfl (by omega) (by decide)) ?_) | (refine wG_gd rfl (fun hgt => ?_) (fun hgf => ?_) <;> (first | simp only [eq_true hgt, decide_true] | simp only [eq_false hgf, decide_false])) | refine wC_cond_d rfl (fun hg => ?_) (fun hg => ?_))
    any_goals (exfalso; omega)
    · refine ret_intE (.inr rfl) ⟨_, retV_mv rfl, ?_⟩
      rename_i hne
      rcases hk with ⟨h1, h2⟩ | ⟨m, h1, h2, h3, h4⟩
      · exact absurd (h2 i hi2) (by assumption)
      · rw [h1]
        rcases Nat.lt_trichotomy i m with h | h | h
        · exact absurd (h4 i h) (by assumption)
        · rw [h]
        · exact absurd (hok m h) h3
    · refine ⟨i + 1, ⟨by omega, fun j hj => ?_⟩, by omega, by simp [LeP, leT, leH, lk, AV.ltr, ltrL, Ab.hg, upd, -List.getD_eq_getElem?_getD, -Int.default_eq_zero]⟩
      rcases Nat.lt_or_ge j i with hji | hji
      · exact hok j hji
      · obtain rfl : j = i := by omega
        exact Decidable.not_not.1 (by assumption)
  · have hi3 : i = xs.length := by omega
    subst hi3
    repeat' (first | (first
    | refine wC_a rfl ?_
    | refine q_s rfl ?_
    | refine q_b rfl ?_
    | refine wG_nil ?_
    | refine wG_g rfl ?_
    | refine wG_pure (o_len_vwm rfl) ?_
    | refine wG_pure (o_not_d rfl) ?_
    | refine wG_p rfl (by first | exact rfl | omega) ?_
    | refine wG_pure (o_str2 rfl rfl rfl) ?_
    | refine wG_pure (e_istr rfl rfl (by omega)) ?_
    | refine wG_pure (e_istr0 rfl rfl (by omega)) ?_
    | refine wG_pure (o_not rfl) ?_
    | refine wG_pure (e_ia_vw0 rfl rfl (by omega) rfl) ?_
    | refine wG_pure (e_ia_vwp rfl rfl (by omega) rfl) ?_
    | refine wG_pure (e_ia_vwm rfl rfl (by omega) (by omega) rfl) ?_
    | refine wG_pure (e_ia_vwi rfl rfl (by omega) rfl) ?_
    | refine wG_pure (e_ia_vwn rfl rfl (by omega) (by omega) rfl) ?_
    | refine wG_n rfl rfl ?_
    | refine wG_u rfl rfl ?_
    | refine wG_new (o_mks rfl rfl (by omega) (by decide)) ?_) | (refine wG_gd rfl (fun hgt => ?_) (fun hgf => ?_) <;> (first | simp only [eq_true hgt, decide_true] | simp only [eq_false hgf, decide_false])) | refine wC_cond_d rfl (fun hg => ?_) (fun hg => ?_))
    any_goals (exfalso; omega)
    refine ret_intE (.inr rfl) ⟨_, retV_mv rfl, ?_⟩
    rcases hk with ⟨h1, h2⟩ | ⟨m, h1, h2, h3, h4⟩
    · exact h1.symm
    · exact absurd (hok m h2) h3

/-! ### The filter -/
def keep (c : Int) (xs : List Fd) : List Fd := xs.filter fun f => decide (f.c = c)
theorem keep_le (c : Int) (xs : List Fd) : (keep c xs).length ≤ xs.length := List.length_filter_le _ _
theorem take_g {xs : List Fd} {i : Nat} (h : i < xs.length) : xs.take (i + 1) = xs.take i ++ [xs.getD i default] := by
  rw [List.take_succ_eq_append_getElem h]; simp [List.getD_eq_getElem?_getD, List.getElem?_eq_getElem h]
theorem keep_y {c : Int} {xs : List Fd} {i : Nat} (h : i < xs.length) (hc : (xs.getD i default).c = c) : keep c (xs.take (i + 1)) = keep c (xs.take i) ++ [xs.getD i default] := by
  rw [take_g h]; simp only [keep, List.filter_append, List.filter_cons, decide_eq_true hc, if_true, List.filter_nil]
theorem keep_n {c : Int} {xs : List Fd} {i : Nat} (h : i < xs.length) (hc : (xs.getD i default).c ≠ c) : keep c (xs.take (i + 1)) = keep c (xs.take i) := by
  rw [take_g h]; simp only [keep, List.filter_append, List.filter_cons, decide_eq_false hc, Bool.false_eq_true, if_false, List.filter_nil, List.append_nil]
theorem keep_all {c : Int} {xs : List Fd} (h : ∀ j, j < xs.length → (xs.getD j default).c = c) : keep c xs = xs := by
  refine List.filter_eq_self.2 fun f hf => ?_
  obtain ⟨j, hj, rfl⟩ := List.getElem_of_mem hf
  have := h j hj
  simp [List.getD_eq_getElem?_getD, List.getElem?_eq_getElem hj] at this
  simp [this]
theorem keep_pre {c : Int} {xs : List Fd} {m : Nat} (hm : m ≤ xs.length) (h : ∀ j, j < m → (xs.getD j default).c = c) : keep c (xs.take m) = xs.take m := by
  refine keep_all fun j hj => ?_
  have hj' : j < m := by simp at hj; omega
  have := h j hj'
  simpa [List.getD_eq_getElem?_getD, List.getElem?_take, hj'] using this
def zF : List AV := fRow ⟨0, ⟨#[]⟩, 0, 0, 0⟩
theorem row_at {R xs : List Fd} {i : Nat} (h : i < xs.length) (hl : R.length = xs.length) (hd : R.drop i = xs.drop i) : (R.map fRow)[i]? = some (fRow (xs.getD i default)) := by
  have h1 : R[i]? = (R.drop i)[0]? := by simp
  have h2 : xs[i]? = (xs.drop i)[0]? := by simp
  rw [List.getElem?_map, h1, hd, ← h2, List.getElem?_eq_getElem h]
  simp [List.getD_eq_getElem?_getD, List.getElem?_eq_getElem h]
theorem row_any {R : List Fd} {i : Nat} (h : i < R.length) : (R.map fRow)[i]? = some (fRow (R.getD i default)) := by
  simp [List.getElem?_map, List.getElem?_eq_getElem h, List.getD_eq_getElem?_getD]
theorem fill_ltr (xs : List Fd) (c : Int) (nr : Nat) : ∀ row ∈ (keep c xs).map fRow ++ List.replicate (xs.length - (keep c xs).length) zF, ∀ x ∈ row, AV.ltr nr x = true := by
  refine rows_ltr _ _ fun row hr x hx => ?_
  rcases List.mem_append.1 hr with hr | hr
  · obtain ⟨p, _, rfl⟩ := List.mem_map.1 hr
    exact fRow_plain p x hx
  · rw [(List.mem_replicate.1 hr).2] at hx
    exact zF_plain x hx
structure DI (c : Int) (xs : List Fd) (nr : Nat) (x : Nat × Nat × List Fd × Nat) : Prop where
  i1 : x.1 ≤ xs.length
  k1 : x.2.1 < x.1
  l1 : x.2.2.1.length = xs.length
  t1 : x.2.2.1.take x.2.1 = keep c (xs.take x.1)
  d1 : x.2.2.1.drop x.1 = xs.drop x.1
  m1 : nr ≤ x.2.2.2
theorem sh54 (xs : List Fd) (hlen : xs.length ≤ 1048576) (c : Int) {h : List (Nat × Option Ab.Rows)} {nr r b : Nat} (hr : hg h r = some (xs.map fRow)) (hb : hg h b = some [[.int .i64 c]]) (hbr : b ≠ r) (hw : wfH h nr) :
    Sh Try.prog 54 [.sl r 5 0 xs.length, .fn 56 [.pt b 0 0]] h nr (.sl r 5 0 (keep c xs).length) ((r, some ((keep c xs).map fRow ++ List.replicate (xs.length - (keep c xs).length) zF)) :: h) nr := by
  refine sh_of_wp mixed fun54 (by simp) ?_
  unfold ac54 ro54
  simp only [zipT]
  have hrn := (hw r _ hr).1
  have hbn := (hw b _ hb).1
  have hcap : ∀ H n, H b = some [[AV.int .i64 c]] → dr H (n + 3) (.fn 56 [.pt b 0 0]) = .fn 56 [.vp [.int .i64 c]] := fun H n hH => dr_cap hH (fun _ => rfl)
  by_cases hall : ∀ j, j < xs.length → (xs.getD j default).c = c
  · have ci := con60 true xs hlen c (-1) (.inl ⟨rfl, hall⟩)
    have ek := keep_all hall
    repeat (first | refine wG_call ci (ag_sl rfl hr rfl fRow_plain (ag_any (hcap _ 3 hb) ag_nil)) rfl ?_ | (first
    | refine wC_a rfl ?_
    | refine q_s rfl ?_
    | refine q_b rfl ?_
    | refine wG_nil ?_
    | refine wG_g rfl ?_
    | refine wG_pure (o_len_vwm rfl) ?_
    | refine wG_pure (o_not_d rfl) ?_
    | refine wG_p rfl (by first | exact rfl | omega) ?_
    | refine wG_pure (o_str2 rfl rfl rfl) ?_
    | refine wG_pure (e_istr rfl rfl (by omega)) ?_
    | refine wG_pure (e_istr0 rfl rfl (by omega)) ?_
    | refine wG_pure (o_not rfl) ?_
    | refine wG_pure (e_ia_vw0 rfl rfl (by omega) rfl) ?_
    | refine wG_pure (e_ia_vwp rfl rfl (by omega) rfl) ?_
    | refine wG_pure (e_ia_vwm rfl rfl (by omega) (by omega) rfl) ?_
    | refine wG_pure (e_ia_vwi rfl rfl (by omega) rfl) ?_
    | refine wG_pure (e_ia_vwn rfl rfl (by omega) (by omega) rfl) ?_
    | refine wG_n rfl rfl ?_
    | refine wG_u rfl rfl ?_
    | refine wG_new (o_mks rfl rfl (by omega) (by decide)) ?_))
    refine ⟨trivial, _, retVs_1 (retV_mv rfl), ?_, Nat.le_refl _⟩
    rw [ek, Nat.sub_self, List.replicate_zero, List.append_nil]
    refine Le_of ⟨⟨rfl, by simp [AV.ltr, hrn]⟩, trivial⟩ (fun q rows hq => ?_) (wfH_cons hrn (ltrF _ _) hw)
    simp only [hg, upd] at hq ⊢
    split at hq
    · rename_i e; subst e; rw [← hq]; exact hr
    · exact hq
  · obtain ⟨m, hm, hne, hpre⟩ : ∃ m, m < xs.length ∧ (xs.getD m default).c ≠ c ∧ ∀ j, j < m → (xs.getD j default).c = c := by
      have hex : ∃ j, j < xs.length ∧ (xs.getD j default).c ≠ c := by
        refine Classical.byContradiction fun hn => hall fun j hj => ?_
        exact Classical.byContradiction fun hne => hn ⟨j, hj, hne⟩
      obtain ⟨j, hj⟩ := hex
      induction j using Nat.strongRecOn with
      | ind j ih =>
        by_cases hp : ∀ q, q < j → (xs.getD q default).c = c
        · exact ⟨j, hj.1, hj.2, hp⟩
        · obtain ⟨q, hq⟩ := Classical.not_forall.1 hp
          obtain ⟨hq1, hq2⟩ := Classical.not_imp.1 hq
          exact ih q hq1 ⟨by omega, hq2⟩
    have ci := con60 true xs hlen c m (.inr ⟨m, rfl, hm, hne, hpre⟩)
    repeat (first | refine wG_call ci (ag_sl rfl hr rfl fRow_plain (ag_any (hcap _ 3 hb) ag_nil)) rfl ?_ | (first
    | refine wC_a rfl ?_
    | refine q_s rfl ?_
    | refine q_b rfl ?_
    | refine wG_nil ?_
    | refine wG_g rfl ?_
    | refine wG_pure (o_len_vwm rfl) ?_
    | refine wG_pure (o_not_d rfl) ?_
    | refine wG_p rfl (by first | exact rfl | omega) ?_
    | refine wG_pure (o_str2 rfl rfl rfl) ?_
    | refine wG_pure (e_istr rfl rfl (by omega)) ?_
    | refine wG_pure (e_istr0 rfl rfl (by omega)) ?_
    | refine wG_pure (o_not rfl) ?_
    | refine wG_pure (e_ia_vw0 rfl rfl (by omega) rfl) ?_
    | refine wG_pure (e_ia_vwp rfl rfl (by omega) rfl) ?_
    | refine wG_pure (e_ia_vwm rfl rfl (by omega) (by omega) rfl) ?_
    | refine wG_pure (e_ia_vwi rfl rfl (by omega) rfl) ?_
    | refine wG_pure (e_ia_vwn rfl rfl (by omega) (by omega) rfl) ?_
    | refine wG_n rfl rfl ?_
    | refine wG_u rfl rfl ?_
    | refine wG_new (o_mks rfl rfl (by omega) (by decide)) ?_))
    refine wC_loopS (Nat × Nat × List Fd × Nat) (fun x => ⟨[(0, .sl r 5 0 xs.length), (1, .fn 56 [.pt b 0 0]), (5, .int .i64 (x.2.1 : Int)), (6, .int .i64 (x.1 : Int))], (r, some (x.2.2.1.map fRow)) :: h, x.2.2.2⟩) (DI c xs nr) (fun x => xs.length - x.1) (m + 1, m, xs, nr) ⟨by simp only; omega, by simp only; omega, rfl, by simp only; rw [keep_n hm hne, keep_pre (by omega) hpre], rfl, Nat.le_refl _⟩ ?_ (fun x hx => hx.m1) ?_
    · refine Le_of (by simp [leT, lk, AV.ltr, ltrL, hrn, hbn]) (fun q rows hq => ?_) (wfH_cons hrn (ltrF _ _) hw)
      simp only [hg, upd] at hq ⊢
      split at hq
      · rename_i e; subst e; rw [← hq]; exact hr
      · exact hq
    rintro ⟨i, k, R, w⟩ ⟨hi, hk, hl, ht, hd, hmw⟩
    simp only at hi hk hl ht hd hmw ⊢
    by_cases hi2 : i < xs.length
    · have e0 : ∀ n : Nat, 0 + ((n : Int)).toNat = n := fun n => by simp
      have hbw : b ≠ w := by omega
      have hrw : r ≠ w := by omega
      have hrow := row_at hi2 hl hd
      repeat (first
    | refine wC_a rfl ?_
    | refine q_s rfl ?_
    | refine q_b rfl ?_
    | refine wG_nil ?_
    | refine wG_g rfl ?_
    | refine wG_pure (o_len_vwm rfl) ?_
    | refine wG_pure (o_not_d rfl) ?_
    | refine wG_p rfl (by first | exact rfl | omega) ?_
    | refine wG_pure (o_str2 rfl rfl rfl) ?_
    | refine wG_pure (e_istr rfl rfl (by omega)) ?_
    | refine wG_pure (e_istr0 rfl rfl (by omega)) ?_
    | refine wG_pure (o_not rfl) ?_
    | refine wG_pure (e_ia_vw0 rfl rfl (by omega) rfl) ?_
    | refine wG_pure (e_ia_vwp rfl rfl (by omega) rfl) ?_
    | refine wG_pure (e_ia_vwm rfl rfl (by omega) (by omega) rfl) ?_
    | refine wG_pure (e_ia_vwi rfl rfl (by omega) rfl) ?_
    | refine wG_pure (e_ia_vwn rfl rfl (by omega) (by omega) rfl) ?_
    | refine wG_n rfl rfl ?_
    | refine wG_u rfl rfl ?_
    | refine wG_new (o_mks rfl rfl (by omega) (by decide)) ?_)
      refine wC_cond_d rfl (fun hg2 => ?_) (fun hg2 => ?_)
      · have cc := con56 (xs.getD i default) c
        repeat (first | (refine wG_pure (e_ia_sl rfl rfl (by omega) (by omega)) ?_; simp only [e0]) | refine wG_pure (o_ldt_pt rfl hg_here hrow rfl rfl) ?_ | refine wG_pure (o_ldt_pt rfl hg_here rfl rfl rfl) ?_ | refine wG_upd (o_st_agg rfl hg_here rfl rfl rfl rfl rfl) ?_ | refine wG_callv rfl cc (cv_arg _ (hg_skip hbw (hg_skip hbw (hg_skip hbr hb)))) rfl ?_ | (first
    | refine wC_a rfl ?_
    | refine q_s rfl ?_
    | refine q_b rfl ?_
    | refine wG_nil ?_
    | refine wG_g rfl ?_
    | refine wG_pure (o_len_vwm rfl) ?_
    | refine wG_pure (o_not_d rfl) ?_
    | refine wG_p rfl (by first | exact rfl | omega) ?_
    | refine wG_pure (o_str2 rfl rfl rfl) ?_
    | refine wG_pure (e_istr rfl rfl (by omega)) ?_
    | refine wG_pure (e_istr0 rfl rfl (by omega)) ?_
    | refine wG_pure (o_not rfl) ?_
    | refine wG_pure (e_ia_vw0 rfl rfl (by omega) rfl) ?_
    | refine wG_pure (e_ia_vwp rfl rfl (by omega) rfl) ?_
    | refine wG_pure (e_ia_vwm rfl rfl (by omega) (by omega) rfl) ?_
    | refine wG_pure (e_ia_vwi rfl rfl (by omega) rfl) ?_
    | refine wG_pure (e_ia_vwn rfl rfl (by omega) (by omega) rfl) ?_
    | refine wG_n rfl rfl ?_
    | refine wG_u rfl rfl ?_
    | refine wG_new (o_mks rfl rfl (by omega) (by decide)) ?_))
        refine wC_cond_d rfl (fun hk1 => ?_) (fun hk1 => ?_)
        · have hc : (xs.getD i default).c = c := Decidable.not_not.1 hk1
          have hkr := row_any (show k < R.length by omega)
          repeat (first | (refine wG_pure (e_ia_sl rfl rfl (by omega) (by omega)) ?_; simp only [e0]) | refine wG_pure (o_ldt_pt rfl hg_here rfl rfl rfl) ?_ | refine wG_upd (o_st_agg rfl (hg_skip hrw (hg_skip hrw hg_here)) hkr rfl rfl rfl rfl) ?_ | (first
    | refine wC_a rfl ?_
    | refine q_s rfl ?_
    | refine q_b rfl ?_
    | refine wG_nil ?_
    | refine wG_g rfl ?_
    | refine wG_pure (o_len_vwm rfl) ?_
    | refine wG_pure (o_not_d rfl) ?_
    | refine wG_p rfl (by first | exact rfl | omega) ?_
    | refine wG_pure (o_str2 rfl rfl rfl) ?_
    | refine wG_pure (e_istr rfl rfl (by omega)) ?_
    | refine wG_pure (e_istr0 rfl rfl (by omega)) ?_
    | refine wG_pure (o_not rfl) ?_
    | refine wG_pure (e_ia_vw0 rfl rfl (by omega) rfl) ?_
    | refine wG_pure (e_ia_vwp rfl rfl (by omega) rfl) ?_
    | refine wG_pure (e_ia_vwm rfl rfl (by omega) (by omega) rfl) ?_
    | refine wG_pure (e_ia_vwi rfl rfl (by omega) rfl) ?_
    | refine wG_pure (e_ia_vwn rfl rfl (by omega) (by omega) rfl) ?_
    | refine wG_n rfl rfl ?_
    | refine wG_u rfl rfl ?_
    | refine wG_new (o_mks rfl rfl (by omega) (by decide)) ?_))
          refine ⟨(i + 1, k + 1, R.set k (xs.getD i default), w + 1), ⟨by simp only; omega, by simp only; omega, by simp only [List.length_set]; exact hl, ?_, ?_, by simp only; omega⟩, by simp only; omega, Le_of (by simp [leT, lk, AV.ltr, ltrL]; omega) (fun q rows hq => ?_) (wfH_cons (by simp only; omega) (ltrF _ _) (wfH_le hw (by simp only; omega)))⟩
          · simp only
            rw [keep_y hi2 hc, ← ht]
            have hkl : k < (R.set k (xs.getD i default)).length := by simp; omega
            rw [take_g hkl, List.take_set_of_le (Nat.le_refl k)]
            congr 2
            simp [List.getD_eq_getElem?_getD, show k < R.length by omega]
          · simp only
            rw [List.drop_set_of_lt (by omega), ← List.drop_drop, ← List.drop_drop, hd]
          · have e1 : (R.map fRow).set k (put (fRow (R.getD k default)) 0 (fRow (xs.getD i default))) = (R.set k (xs.getD i default)).map fRow := by rw [List.map_set]; rfl
            by_cases hqr : q = r
            · subst hqr
              rw [hg_here] at hq
              rw [← hq]
              refine Eq.trans hg_here ?_
              exact congrArg some e1
            · have h3 : hg h q = some rows := by simpa [Ab.hg, upd, hqr] using hq
              have hqn := (hw q _ h3).1
              exact hg_skip hqr (hg_skip (by omega) (hg_skip (by omega) (hg_skip hqr h3)))
        · have hc : (xs.getD i default).c ≠ c := fun hh => hk1 (fun hn => hn hh)
          repeat (first
    | refine wC_a rfl ?_
    | refine q_s rfl ?_
    | refine q_b rfl ?_
    | refine wG_nil ?_
    | refine wG_g rfl ?_
    | refine wG_pure (o_len_vwm rfl) ?_
    | refine wG_pure (o_not_d rfl) ?_
    | refine wG_p rfl (by first | exact rfl | omega) ?_
    | refine wG_pure (o_str2 rfl rfl rfl) ?_
    | refine wG_pure (e_istr rfl rfl (by omega)) ?_
    | refine wG_pure (e_istr0 rfl rfl (by omega)) ?_
    | refine wG_pure (o_not rfl) ?_
    | refine wG_pure (e_ia_vw0 rfl rfl (by omega) rfl) ?_
    | refine wG_pure (e_ia_vwp rfl rfl (by omega) rfl) ?_
    | refine wG_pure (e_ia_vwm rfl rfl (by omega) (by omega) rfl) ?_
    | refine wG_pure (e_ia_vwi rfl rfl (by omega) rfl) ?_
    | refine wG_pure (e_ia_vwn rfl rfl (by omega) (by omega) rfl) ?_
    | refine wG_n rfl rfl ?_
    | refine wG_u rfl rfl ?_
    | refine wG_new (o_mks rfl rfl (by omega) (by decide)) ?_)
          refine ⟨(i + 1, k, R, w + 1), ⟨by simp only; omega, by simp only; omega, hl, by simp only; rw [keep_n hi2 hc]; exact ht, by simp only; rw [← List.drop_drop, ← List.drop_drop, hd], by simp only; omega⟩, by simp only; omega, Le_of (by simp [leT, lk, AV.ltr, ltrL]; omega) (fun q rows hq => ?_) (wfH_cons (by simp only; omega) (ltrF _ _) (wfH_le hw (by simp only; omega)))⟩
          by_cases hqr : q = r
          · subst hqr
            rw [hg_here] at hq
            rw [← hq]
            exact hg_skip hrw (hg_skip hrw hg_here)
          · have h3 : hg h q = some rows := by simpa [Ab.hg, upd, hqr] using hq
            have hqn := (hw q _ h3).1
            exact hg_skip (by omega) (hg_skip (by omega) (hg_skip hqr h3))
      · exfalso; omega
    · have hi3 : i = xs.length := by omega
      subst hi3
      have hkl : k = (keep c xs).length := by
        have := congrArg List.length ht
        rw [List.take_length, List.length_take] at this
        omega
      have hkn := keep_le c xs
      rw [List.take_length] at ht
      subst hkl
      have hl2 : (R.map fRow).length = xs.length := by simp [hl]
      repeat (first
    | refine wC_a rfl ?_
    | refine q_s rfl ?_
    | refine q_b rfl ?_
    | refine wG_nil ?_
    | refine wG_g rfl ?_
    | refine wG_pure (o_len_vwm rfl) ?_
    | refine wG_pure (o_not_d rfl) ?_
    | refine wG_p rfl (by first | exact rfl | omega) ?_
    | refine wG_pure (o_str2 rfl rfl rfl) ?_
    | refine wG_pure (e_istr rfl rfl (by omega)) ?_
    | refine wG_pure (e_istr0 rfl rfl (by omega)) ?_
    | refine wG_pure (o_not rfl) ?_
    | refine wG_pure (e_ia_vw0 rfl rfl (by omega) rfl) ?_
    | refine wG_pure (e_ia_vwp rfl rfl (by omega) rfl) ?_
    | refine wG_pure (e_ia_vwm rfl rfl (by omega) (by omega) rfl) ?_
    | refine wG_pure (e_ia_vwi rfl rfl (by omega) rfl) ?_
    | refine wG_pure (e_ia_vwn rfl rfl (by omega) (by omega) rfl) ?_
    | refine wG_n rfl rfl ?_
    | refine wG_u rfl rfl ?_
    | refine wG_new (o_mks rfl rfl (by omega) (by decide)) ?_)
      refine wC_cond_d rfl (fun hg2 => ?_) (fun hg2 => ?_)
      · exfalso; omega
      repeat (first
    | refine wC_a rfl ?_
    | refine q_s rfl ?_
    | refine q_b rfl ?_
    | refine wG_nil ?_
    | refine wG_g rfl ?_
    | refine wG_pure (o_len_vwm rfl) ?_
    | refine wG_pure (o_not_d rfl) ?_
    | refine wG_p rfl (by first | exact rfl | omega) ?_
    | refine wG_pure (o_str2 rfl rfl rfl) ?_
    | refine wG_pure (e_istr rfl rfl (by omega)) ?_
    | refine wG_pure (e_istr0 rfl rfl (by omega)) ?_
    | refine wG_pure (o_not rfl) ?_
    | refine wG_pure (e_ia_vw0 rfl rfl (by omega) rfl) ?_
    | refine wG_pure (e_ia_vwp rfl rfl (by omega) rfl) ?_
    | refine wG_pure (e_ia_vwm rfl rfl (by omega) (by omega) rfl) ?_
    | refine wG_pure (e_ia_vwi rfl rfl (by omega) rfl) ?_
    | refine wG_pure (e_ia_vwn rfl rfl (by omega) (by omega) rfl) ?_
    | refine wG_n rfl rfl ?_
    | refine wG_u rfl rfl ?_
    | refine wG_new (o_mks rfl rfl (by omega) (by decide)) ?_)
      refine wG_pure (o_slc_sl rfl hg_here (bd_i rfl) bd_n (by omega) (by omega)) ?_
      refine wG_upd (o_clr rfl hg_here (by omega)) ?_
      repeat (first
    | refine wC_a rfl ?_
    | refine q_s rfl ?_
    | refine q_b rfl ?_
    | refine wG_nil ?_
    | refine wG_g rfl ?_
    | refine wG_pure (o_len_vwm rfl) ?_
    | refine wG_pure (o_not_d rfl) ?_
    | refine wG_p rfl (by first | exact rfl | omega) ?_
    | refine wG_pure (o_str2 rfl rfl rfl) ?_
    | refine wG_pure (e_istr rfl rfl (by omega)) ?_
    | refine wG_pure (e_istr0 rfl rfl (by omega)) ?_
    | refine wG_pure (o_not rfl) ?_
    | refine wG_pure (e_ia_vw0 rfl rfl (by omega) rfl) ?_
    | refine wG_pure (e_ia_vwp rfl rfl (by omega) rfl) ?_
    | refine wG_pure (e_ia_vwm rfl rfl (by omega) (by omega) rfl) ?_
    | refine wG_pure (e_ia_vwi rfl rfl (by omega) rfl) ?_
    | refine wG_pure (e_ia_vwn rfl rfl (by omega) (by omega) rfl) ?_
    | refine wG_n rfl rfl ?_
    | refine wG_u rfl rfl ?_
    | refine wG_new (o_mks rfl rfl (by omega) (by decide)) ?_)
      refine wG_pure (o_slc_sl rfl hg_here bd_n (bd_i rfl) (by omega) (by simp; omega)) ?_
      repeat (first
    | refine wC_a rfl ?_
    | refine q_s rfl ?_
    | refine q_b rfl ?_
    | refine wG_nil ?_
    | refine wG_g rfl ?_
    | refine wG_pure (o_len_vwm rfl) ?_
    | refine wG_pure (o_not_d rfl) ?_
    | refine wG_p rfl (by first | exact rfl | omega) ?_
    | refine wG_pure (o_str2 rfl rfl rfl) ?_
    | refine wG_pure (e_istr rfl rfl (by omega)) ?_
    | refine wG_pure (e_istr0 rfl rfl (by omega)) ?_
    | refine wG_pure (o_not rfl) ?_
    | refine wG_pure (e_ia_vw0 rfl rfl (by omega) rfl) ?_
    | refine wG_pure (e_ia_vwp rfl rfl (by omega) rfl) ?_
    | refine wG_pure (e_ia_vwm rfl rfl (by omega) (by omega) rfl) ?_
    | refine wG_pure (e_ia_vwi rfl rfl (by omega) rfl) ?_
    | refine wG_pure (e_ia_vwn rfl rfl (by omega) (by omega) rfl) ?_
    | refine wG_n rfl rfl ?_
    | refine wG_u rfl rfl ?_
    | refine wG_new (o_mks rfl rfl (by omega) (by decide)) ?_)
      refine ⟨trivial, _, retVs_1 (retV_mv rfl), ?_, Nat.le_refl _⟩
      refine Le_of ⟨⟨rfl, by simp [AV.ltr, hrn]⟩, trivial⟩ (fun q rows hq => ?_) (wfH_cons hrn (fill_ltr xs c nr) hw)
      by_cases hqr : q = r
      · subst hqr
        rw [hg_here] at hq
        rw [← hq]
        refine Eq.trans hg_here (congrArg some ?_)
        rw [List.length_replicate, Nat.zero_add, ← List.map_take, ht, List.drop_eq_nil_of_le (by omega), List.append_nil]
        rfl
      · have h3 : hg h q = some rows := by simpa [Ab.hg, upd, hqr] using hq
        exact hg_skip hqr (hg_skip hqr h3)
end Go.Proofs.Ytjfppdgomnjnmaa.Fnd
