/- The marginal date: both sides. -/
import Derived.Test.YtkeobnaehgcloaaDnR
namespace Go.Proofs.Ytkeobnaehgcloaa.Dst
open Go Go.Proofs.Ytkeobnaehgcloaa.Ab Go.Proofs.Ytkeobnaehgcloaa.Il Go.Proofs.Ytkeobnaehgcloaa.Rec
attribute [local irreducible] wpO wpC wpDr wpQ wpG wpE stepA seqQ blkQ Ret RetG ev
set_option maxRecDepth 10000
set_option maxHeartbeats 8000000
set_option linter.unusedSimpArgs false
set_option linter.unusedVariables false

def ac41 : AC := (.seq (.reg [⟨(some 2), none, (.box 3 true (.t 0))⟩, ⟨(some 4), none, (.alloc [(.int .i64 0), .nilS])⟩, ⟨(some 5), none, (.mv (.c (.bool false)))⟩]) (.seq (.seq (.reg [⟨(some 11), none, (.ld true 3 (.t 2))⟩, ⟨(some 12), none, (.call 47 [(.t 11)])⟩, ⟨(some 13), none, (.un .not (.t 12))⟩, ⟨(some 14), none, (.mv (.t 13))⟩, ⟨(some 15), (some (14, false)), (.fa 0 (.t 2))⟩, ⟨(some 16), (some (14, false)), (.ld true 2 (.t 15))⟩, ⟨(some 17), (some (14, false)), (.mv (.t 1))⟩, ⟨(some 18), (some (14, false)), (.call 48 [(.t 16), (.t 17)])⟩, ⟨(some 19), (some (14, false)), (.bin .lss (.t 18) (.c (.int .i64 0)))⟩, ⟨(some 20), none, (.pick (.t 14) (.c (.bool true)) (.t 19))⟩]) (.cond (.t 20) (.seq (.reg [⟨(some 21), none, (.build [(.int .i64 0), .nilS] [])⟩, ⟨none, none, (.st 2 (.t 4) (.t 21))⟩, ⟨(some 5), none, (.mv (.c (.bool false)))⟩]) .ret) .skip)) (.seq (.reg [⟨(some 22), none, (.fa 0 (.t 2))⟩, ⟨(some 23), none, (.ld true 2 (.t 22))⟩, ⟨(some 24), none, (.mv (.t 1))⟩, ⟨(some 25), none, (.call 48 [(.t 23), (.t 24)])⟩, ⟨(some 6), none, (.mv (.t 25))⟩]) (.seq (.reg [⟨(some 26), none, (.fa 2 (.t 2))⟩, ⟨(some 27), none, (.ld false 1 (.t 26))⟩, ⟨(some 28), none, (.mv (.t 6))⟩, ⟨(some 29), none, (.ia 2 (.t 27) (.t 28))⟩, ⟨(some 30), none, (.fa 1 (.t 29))⟩, ⟨(some 31), none, (.ld false 1 (.t 30))⟩, ⟨(some 32), none, (.len (.t 31))⟩, ⟨(some 33), none, (.mks 1 8 [(.int .i64 0)] (.t 32) (.t 32))⟩, ⟨(some 7), none, (.mv (.t 33))⟩]) (.seq (.seq (.reg [⟨(some 8), none, (.mv (.c (.int .i64 0)))⟩]) (.blk 0 (.loop (.seq (.seq (.reg [⟨(some 34), none, (.mv (.t 8))⟩, ⟨(some 35), none, (.ld true 3 (.t 2))⟩, ⟨(some 36), none, (.call 67 [(.t 35)])⟩, ⟨(some 37), none, (.bin .lss (.t 34) (.t 36))⟩]) (.cond (.t 37) .skip (.exit 0))) (.seq (.blk 1 (.seq (.reg [⟨(some 40), none, (.ld true 3 (.t 2))⟩, ⟨(some 41), none, (.mv (.t 8))⟩, ⟨(some 42), none, (.call 68 [(.t 40), (.t 41)])⟩, ⟨(some 9), none, (.mv (.t 42))⟩]) (.seq (.dreg [⟨(some 43), none, (.mv (.t 9))⟩, ⟨(some 44), none, (.mv (.t 6))⟩, ⟨(some 45), none, (.ia 1 (.t 43) (.t 44))⟩, ⟨(some 46), none, (.ld false 1 (.t 45))⟩, ⟨(some 47), none, (.fa 2 (.t 2))⟩, ⟨(some 48), none, (.ld false 1 (.t 47))⟩, ⟨(some 49), none, (.mv (.t 6))⟩, ⟨(some 50), none, (.ia 2 (.t 48) (.t 49))⟩, ⟨(some 51), none, (.fa 0 (.t 50))⟩, ⟨(some 52), none, (.ld false 1 (.t 51))⟩, ⟨(some 53), none, (.bin .sub (.t 46) (.t 52))⟩, ⟨(some 10), none, (.mv (.t 53))⟩] [[], [], [0, 1], [0, 1, 2], [], [4], [], [4, 5, 6], [4, 5, 6, 7], [4, 5, 6, 7, 8], [0, 1, 2, 3, 4, 5, 6, 7, 8, 9], [0, 1, 2, 3, 4, 5, 6, 7, 8, 9, 10]]) (.dreg [⟨(some 54), none, (.mv (.t 7))⟩, ⟨(some 55), none, (.mv (.t 10))⟩, ⟨(some 56), none, (.mv (.t 7))⟩, ⟨(some 57), none, (.mv (.t 10))⟩, ⟨(some 58), none, (.ia 1 (.t 56) (.t 57))⟩, ⟨(some 59), none, (.ld false 1 (.t 58))⟩, ⟨(some 60), none, (.ld true 3 (.t 2))⟩, ⟨(some 61), none, (.mv (.t 9))⟩, ⟨(some 62), none, (.call 65 [(.t 60), (.t 61)])⟩, ⟨(some 63), none, (.bin .add (.t 59) (.t 62))⟩, ⟨(some 64), none, (.ia 1 (.t 54) (.t 55))⟩, ⟨none, none, (.st 1 (.t 64) (.t 63))⟩] [[], [], [], [], [2, 3], [2, 3, 4], [], [], [6, 7], [2, 3, 4, 5, 6, 7, 8], [0, 1, 2, 3, 4, 5, 6, 7, 8, 9], [0, 1, 2, 3, 4, 5, 6, 7, 8, 9, 10]])))) (.reg [⟨(some 38), none, (.mv (.t 8))⟩, ⟨(some 39), none, (.bin .add (.t 38) (.c (.int .i64 1)))⟩, ⟨(some 8), none, (.mv (.t 39))⟩])))))) (.seq (.reg [⟨(some 65), none, (.fa 2 (.t 2))⟩, ⟨(some 66), none, (.ld false 1 (.t 65))⟩, ⟨(some 67), none, (.mv (.t 6))⟩, ⟨(some 68), none, (.ia 2 (.t 66) (.t 67))⟩, ⟨(some 69), none, (.fa 0 (.t 68))⟩, ⟨(some 70), none, (.ld false 1 (.t 69))⟩, ⟨(some 71), none, (.mv (.t 7))⟩, ⟨(some 72), none, (.call 80 [(.t 70), (.t 71)])⟩, ⟨(some 73), none, (.ext (.t 72) 0)⟩, ⟨(some 74), none, (.ext (.t 72) 1)⟩, ⟨none, none, (.st 2 (.t 4) (.t 73))⟩, ⟨(some 5), none, (.mv (.t 74))⟩]) .ret))))))
def ro41 : List AOp := [(.ld true 2 (.t 4)), (.mv (.t 5))]
theorem fun41 : Fun Try.prog 41 75 ac41 ro41 := ⟨Try.f41, _, Try.func41, by kernel_rfl, rfl, rfl, by kernel_rfl, by kernel_rfl, by decide⟩
def ac42 : AC := (.seq (.reg [⟨(some 2), none, (.box 3 true (.t 0))⟩, ⟨(some 4), none, (.alloc [(.int .i64 0), .nilS])⟩, ⟨(some 5), none, (.mv (.c (.bool false)))⟩]) (.seq (.seq (.reg [⟨(some 8), none, (.ld true 3 (.t 2))⟩, ⟨(some 9), none, (.call 24 [(.t 8)])⟩, ⟨(some 10), none, (.un .not (.t 9))⟩, ⟨(some 11), none, (.mv (.t 10))⟩, ⟨(some 12), (some (11, false)), (.fa 0 (.t 2))⟩, ⟨(some 13), (some (11, false)), (.ld true 2 (.t 12))⟩, ⟨(some 14), (some (11, false)), (.mv (.t 1))⟩, ⟨(some 15), (some (11, false)), (.call 53 [(.t 13), (.t 14)])⟩, ⟨(some 16), (some (11, false)), (.bin .lss (.t 15) (.c (.int .i64 0)))⟩, ⟨(some 17), none, (.pick (.t 11) (.c (.bool true)) (.t 16))⟩]) (.cond (.t 17) (.seq (.reg [⟨(some 18), none, (.build [(.int .i64 0), .nilS] [])⟩, ⟨none, none, (.st 2 (.t 4) (.t 18))⟩, ⟨(some 5), none, (.mv (.c (.bool false)))⟩]) .ret) .skip)) (.seq (.reg [⟨(some 19), none, (.fa 0 (.t 2))⟩, ⟨(some 20), none, (.ld true 2 (.t 19))⟩, ⟨(some 21), none, (.mv (.t 1))⟩, ⟨(some 22), none, (.call 53 [(.t 20), (.t 21)])⟩, ⟨(some 6), none, (.alloc [(.int .i64 0)])⟩, ⟨none, none, (.st 1 (.t 6) (.t 22))⟩]) (.seq (.reg [⟨(some 23), none, (.fa 2 (.t 2))⟩, ⟨(some 24), none, (.ld false 1 (.t 23))⟩, ⟨(some 25), none, (.ld false 1 (.t 6))⟩, ⟨(some 26), none, (.ia 2 (.t 24) (.t 25))⟩, ⟨(some 27), none, (.fa 1 (.t 26))⟩, ⟨(some 28), none, (.ld false 1 (.t 27))⟩, ⟨(some 29), none, (.len (.t 28))⟩, ⟨(some 30), none, (.mks 1 8 [(.int .i64 0)] (.t 29) (.t 29))⟩, ⟨(some 7), none, (.alloc [.nilS])⟩, ⟨none, none, (.st 1 (.t 7) (.t 30))⟩]) (.seq (.reg [⟨(some 31), none, (.ld true 3 (.t 2))⟩, ⟨(some 32), none, (.mkf 81 [(.t 7), (.t 6), (.t 2)])⟩, ⟨(some 33), none, (.call 69 [(.t 31), (.t 32)])⟩]) (.seq (.dreg [⟨(some 34), none, (.fa 2 (.t 2))⟩, ⟨(some 35), none, (.ld false 1 (.t 34))⟩, ⟨(some 36), none, (.ld false 1 (.t 6))⟩, ⟨(some 37), none, (.ia 2 (.t 35) (.t 36))⟩, ⟨(some 38), none, (.fa 0 (.t 37))⟩, ⟨(some 39), none, (.ld false 1 (.t 38))⟩, ⟨(some 40), none, (.ld false 1 (.t 7))⟩, ⟨(some 41), none, (.call 82 [(.t 39), (.t 40)])⟩, ⟨(some 42), none, (.ext (.t 41) 0)⟩, ⟨(some 43), none, (.ext (.t 41) 1)⟩, ⟨none, none, (.st 2 (.t 4) (.t 42))⟩, ⟨(some 5), none, (.mv (.t 43))⟩] [[], [0], [], [0, 1, 2], [0, 1, 2, 3], [0, 1, 2, 3, 4], [], [0, 1, 2, 3, 4, 5, 6], [0, 1, 2, 3, 4, 5, 6, 7], [0, 1, 2, 3, 4, 5, 6, 7], [0, 1, 2, 3, 4, 5, 6, 7, 8, 9], [0, 1, 2, 3, 4, 5, 6, 7, 8, 9, 10]]) .ret))))))
def ro42 : List AOp := [(.ld true 2 (.t 4)), (.mv (.t 5))]
theorem fun42 : Fun Try.prog 42 44 ac42 ro42 := ⟨Try.f42, _, Try.func42, by kernel_rfl, rfl, rfl, by kernel_rfl, by kernel_rfl, by decide⟩
def ac81 : AC := (.dreg [⟨(some 7), none, (.ld false 1 (.t 2))⟩, ⟨(some 8), none, (.mv (.t 0))⟩, ⟨(some 9), none, (.ld false 1 (.t 3))⟩, ⟨(some 10), none, (.ia 1 (.t 8) (.t 9))⟩, ⟨(some 11), none, (.ld false 1 (.t 10))⟩, ⟨(some 12), none, (.fa 2 (.t 4))⟩, ⟨(some 13), none, (.ld false 1 (.t 12))⟩, ⟨(some 14), none, (.ld false 1 (.t 3))⟩, ⟨(some 15), none, (.ia 2 (.t 13) (.t 14))⟩, ⟨(some 16), none, (.fa 0 (.t 15))⟩, ⟨(some 17), none, (.ld false 1 (.t 16))⟩, ⟨(some 18), none, (.bin .sub (.t 11) (.t 17))⟩, ⟨(some 19), none, (.ia 1 (.t 7) (.t 18))⟩, ⟨(some 20), none, (.ld false 1 (.t 19))⟩, ⟨(some 21), none, (.mv (.t 1))⟩, ⟨(some 22), none, (.bin .add (.t 20) (.t 21))⟩, ⟨(some 23), none, (.ia 1 (.t 7) (.t 18))⟩, ⟨none, none, (.st 1 (.t 23) (.t 22))⟩] [[], [], [], [1, 2], [1, 2, 3], [], [5], [], [5, 6, 7], [5, 6, 7, 8], [5, 6, 7, 8, 9], [1, 2, 3, 4, 5, 6, 7, 8, 9, 10], [0, 1, 2, 3, 4, 5, 6, 7, 8, 9, 10, 11], [0, 1, 2, 3, 4, 5, 6, 7, 8, 9, 10, 11, 12], [], [0, 1, 2, 3, 4, 5, 6, 7, 8, 9, 10, 11, 12, 13, 14], [0, 1, 2, 3, 4, 5, 6, 7, 8, 9, 10, 11, 12, 13, 14, 15], [0, 1, 2, 3, 4, 5, 6, 7, 8, 9, 10, 11, 12, 13, 14, 15, 16]])
def ro81 : List AOp := []
theorem fun81 : Fun Try.prog 81 24 ac81 ro81 := ⟨Try.f81, _, Try.func81, by kernel_rfl, rfl, rfl, by kernel_rfl, by kernel_rfl, by decide⟩

def okM (r : Rc) (xs : List Dn) (x : Int) : Prop := GoodN r xs ∧ 0 ≤ idx r x
theorem mset {ws : List Int} {k : Nat} {v : Int} : (ws.map iRow).set k (iRow v) = (ws.set k v).map iRow := by rw [List.map_set]
theorem con41_all (a b c : Bool) (r : Rc) (xs : List Dn) (x : Int) (h1 : r.cs.length ≤ 1048576) (h2 : r.xs.length ≤ 1048576) (h3 : xs.length ≤ 1048576) (hL : LenN xs 1048576) (hG : GoodN r xs) {i : Nat} (hi : idx r x = i) (v : AV) (rs : List Nat) (objs : List Ab.Rows) (hv : v.nvf = true) (hp : PlainObjs objs)
    (hend : (mkOK (xs.getD i default).d.f (mS r xs i (cp xs xs.length)) → v = mYes (mkO (xs.getD i default).d.f (mS r xs i (cp xs xs.length))) ∧ rs = [3] ∧ objs = [(mkO (xs.getD i default).d.f (mS r xs i (cp xs xs.length))).ws.map iRow]) ∧ (¬ mkOK (xs.getD i default).d.f (mS r xs i (cp xs xs.length)) → v = mNo ∧ rs = [] ∧ objs = [])) :
    Con Try.prog 41 true [.agg (dtR a b c r xs), .int .i64 x] v objs := by
  classical
  suffices key : Con Try.prog 41 v.nvf [.agg (dtR a b c r xs), .int .i64 x] v objs by rwa [hv] at key
  refine con_of_wp mixed fun41 (by simp) rs hp ?_
  unfold ac41 ro41
  simp only [zipT]
  have c1 := con47 a b c r xs h1 h2 h3 hL
  rw [decide_eq_true hG] at c1
  have c2 := con67 a b c r xs hG
  have hcp := cp_b hG
  have cx := con48 a b r x h1
  have bx := idx_b r x
  have hnl := hG.2.1
  rw [hi] at cx bx
  have hix : i < xs.length := by omega
  have hL5 := hL i hix
  have gD := (hG.2.2 i hix).1
  have hln : ln xs i = (xs.getD i default).d.ws.length := rfl
  have hl60 : ln xs i ≤ 60 := gD.1.2
  have hf1 := gD.2.1
  have d1 : decide ((i : Int) < 0) = false := decide_eq_false (by omega)
  have e0 : ∀ n : Nat, 0 + ((n : Int)).toNat = n := fun n => by simp
  repeat (first | refine wG_call cx rfl rfl ?_ | refine wG_call c1 rfl rfl ?_ | (first
    | refine wC_a rfl ?_
    | refine q_s rfl ?_
    | refine q_b rfl ?_
    | refine wG_nil ?_
    | refine wG_g rfl ?_
    | refine wG_pure (o_len_vwm rfl) ?_
    | refine wG_pure (o_not_d rfl) ?_
    | refine wG_p rfl (by first | exact rfl | omega) ?_
    | refine wG_pure (o_str2 rfl rfl rfl) ?_
    | refine wG_pure (e_istr rfl rfl (by omega)) ?_
    | refine wG_pure (e_istr0 rfl rfl (by omega)) ?_
    | refine wG_pure (o_not rfl) ?_
    | refine wG_pure (e_ia_vw0 rfl rfl (by omega) rfl) ?_
    | refine wG_pure (e_ia_vwp rfl rfl (by omega) rfl) ?_
    | refine wG_pure (e_ia_vwm rfl rfl (by omega) (by omega) rfl) ?_
    | refine wG_pure (e_ia_vwi rfl rfl (by omega) rfl) ?_
    | refine wG_pure (e_ia_vwn rfl rfl (by omega) (by omega) rfl) ?_
    | refine wG_n rfl rfl ?_
    | refine wG_u rfl rfl ?_
    | refine wG_new (o_mks rfl rfl (by omega) (by decide)) ?_))
  have hrep : (List.replicate (xs.getD i default).d.ws.length [AV.int .i64 0]) = (mS r xs i 0).map iRow := by
    show _ = (List.replicate (ln xs i) (0 : Int)).map iRow
    rw [List.map_replicate]; rfl
  refine wC_loop Nat (fun n => ⟨[(1, .int .i64 x), (2, .pt 0 0 0), (4, .pt 1 0 0), (6, .int .i64 (i : Int)), (7, .sl 2 1 0 (xs.getD i default).d.ws.length), (8, .int .i64 (n : Int))], [(2, some ((mS r xs i n).map iRow)), (1, some [[.int .i64 0, .nilS]]), (0, some [dtR a b c r xs])], 3⟩) (fun n => n ≤ cp xs xs.length) (fun n => cp xs xs.length - n) 0 (Nat.zero_le _) ?_ (fun _ _ => Nat.zero_le _) ?_
  · rw [← hrep]
    exact ⟨⟨⟨rfl, rfl⟩, ⟨rfl, rfl⟩, ⟨rfl, rfl⟩, ⟨rfl, rfl⟩, ⟨rfl, rfl⟩, ⟨rfl, rfl⟩, trivial⟩, ⟨rfl, by show 2 < 3; decide, by rw [hrep]; exact ltrI _ _⟩, ⟨rfl, by show 1 < 3; decide, by simp [AV.ltr]⟩, ⟨rfl, by show 0 < 3; decide, dtR_ltr1 _⟩, trivial⟩
  intro n hn
  obtain ⟨ml, mb⟩ := mS_b hG hix n (by omega)
  repeat (first | refine wG_call c2 rfl rfl ?_ | (first
    | refine wC_a rfl ?_
    | refine q_s rfl ?_
    | refine q_b rfl ?_
    | refine wG_nil ?_
    | refine wG_g rfl ?_
    | refine wG_pure (o_len_vwm rfl) ?_
    | refine wG_pure (o_not_d rfl) ?_
    | refine wG_p rfl (by first | exact rfl | omega) ?_
    | refine wG_pure (o_str2 rfl rfl rfl) ?_
    | refine wG_pure (e_istr rfl rfl (by omega)) ?_
    | refine wG_pure (e_istr0 rfl rfl (by omega)) ?_
    | refine wG_pure (o_not rfl) ?_
    | refine wG_pure (e_ia_vw0 rfl rfl (by omega) rfl) ?_
    | refine wG_pure (e_ia_vwp rfl rfl (by omega) rfl) ?_
    | refine wG_pure (e_ia_vwm rfl rfl (by omega) (by omega) rfl) ?_
    | refine wG_pure (e_ia_vwi rfl rfl (by omega) rfl) ?_
    | refine wG_pure (e_ia_vwn rfl rfl (by omega) (by omega) rfl) ?_
    | refine wG_n rfl rfl ?_
    | refine wG_u rfl rfl ?_
    | refine wG_new (o_mks rfl rfl (by omega) (by decide)) ?_))
  refine wC_cond_d rfl (fun h5 => ?_) (fun h5 => ?_)
  · have hn2 : n < cp xs xs.length := by omega
    have c3 := con68 a b c r xs hG n (by omega)
    have hyl := yrs_len xs n
    have c4 := con65 a b c true r xs (yrs xs n) hG hyl
    obtain ⟨k, hk, hky⟩ := yr_in hG hix n
    have hup := mS_up hG hix (by omega) hk hky
    have gi : ((yrs xs n).map iRow)[i]? = some (iRow ((xs.getD i default).d.f + (k : Nat))) := by rw [← hky]; exact iGet (by omega)
    have gk : ((mS r xs i n).map iRow)[k]? = some (iRow ((mS r xs i n).getD k default)) := iGet (by omega)
    have es : (xs.getD i default).d.f + (k : Int) - (xs.getD i default).d.f = k := by omega
    repeat (first | refine wC_dregE ?_ | refine wG_call1 c3 rfl rfl ?_ | refine wE_call c4 (ag_any rfl (ag_sl rfl rfl hyl.symm iRow_plain ag_nil)) rfl rfl ?_ | (refine wE_v (e_ia_sl rfl rfl (by omega) (by omega)) rfl ?_; simp only [e0]) | (refine wE_v (e_ia_sl rfl rfl (by omega) (by omega)) rfl ?_; simp only [es, e0]) | refine wE_v (o_ldf_pt rfl rfl gi rfl) rfl ?_ | refine wE_v (o_ldf_pt rfl rfl gk rfl) rfl ?_ | refine wE_v (o_addw rfl rfl) rfl ?_ | refine wE_upd (o_st1 rfl rfl gk rfl rfl mset) rfl ?_ | (first
    | refine wC_a rfl ?_
    | refine q_s rfl ?_
    | refine q_b rfl ?_
    | refine wG_nil ?_
    | refine wG_g rfl ?_
    | refine wG_pure (o_len_vwm rfl) ?_
    | refine wG_pure (o_not_d rfl) ?_
    | refine wG_p rfl (by first | exact rfl | omega) ?_
    | refine wG_pure (o_str2 rfl rfl rfl) ?_
    | refine wG_pure (e_istr rfl rfl (by omega)) ?_
    | refine wG_pure (e_istr0 rfl rfl (by omega)) ?_
    | refine wG_pure (o_not rfl) ?_
    | refine wG_pure (e_ia_vw0 rfl rfl (by omega) rfl) ?_
    | refine wG_pure (e_ia_vwp rfl rfl (by omega) rfl) ?_
    | refine wG_pure (e_ia_vwm rfl rfl (by omega) (by omega) rfl) ?_
    | refine wG_pure (e_ia_vwi rfl rfl (by omega) rfl) ?_
    | refine wG_pure (e_ia_vwn rfl rfl (by omega) (by omega) rfl) ?_
    | refine wG_n rfl rfl ?_
    | refine wG_u rfl rfl ?_
    | refine wG_new (o_mks rfl rfl (by omega) (by decide)) ?_) | (first
    | refine wE_nil (by kernel_rfl) ?_
    | refine wE_gy rfl ?_
    | refine wE_gn rfl rfl rfl ?_
    | refine wE_gu rfl rfl ?_
    | refine wE_gnn rfl rfl rfl ?_
    | refine wE_v (o_len_vwm rfl) rfl ?_
    | refine wE_v (o_not_d rfl) rfl ?_
    | refine wE_p rfl (by first | exact rfl | omega) rfl ?_
    | refine wE_v (o_str2 rfl rfl rfl) rfl ?_
    | refine wE_v (e_istr rfl rfl (by omega)) rfl ?_
    | refine wE_v (e_istr0 rfl rfl (by omega)) rfl ?_
    | refine wE_v (o_not rfl) rfl ?_
    | refine wE_v (e_ia_vw0 rfl rfl (by omega) rfl) rfl ?_
    | refine wE_v (e_ia_vwp rfl rfl (by omega) rfl) rfl ?_
    | refine wE_v (e_ia_vwm rfl rfl (by omega) (by omega) rfl) rfl ?_
    | refine wE_v (e_ia_vwi rfl rfl (by omega) rfl) rfl ?_
    | refine wE_v (e_ia_vwn rfl rfl (by omega) (by omega) rfl) rfl ?_
    | refine wE_n rfl rfl rfl ?_
    | refine wE_u rfl rfl rfl ?_
    | refine wE_new (o_mks rfl rfl (by omega) (by decide)) rfl ?_))
    refine ⟨n + 1, hn2, by omega, ?_⟩
    rw [hup]
    exact ⟨⟨⟨rfl, rfl⟩, ⟨rfl, rfl⟩, ⟨rfl, rfl⟩, ⟨rfl, rfl⟩, ⟨rfl, rfl⟩, ⟨rfl, rfl⟩, trivial⟩, ⟨rfl, by show 2 < 3; decide, ltrI _ _⟩, ⟨rfl, by show 1 < 3; decide, by simp [AV.ltr]⟩, ⟨rfl, by show 0 < 3; decide, dtR_ltr1 _⟩, trivial⟩
  · have hn3 : n = cp xs xs.length := by omega
    subst hn3
    by_cases hk : mkOK (xs.getD i default).d.f (mS r xs i (cp xs xs.length))
    · have c5 := con80_Y true (xs.getD i default).d.f (mS r xs i (cp xs xs.length)) (by omega) mb (by omega) (by omega) (by omega) hk
      obtain ⟨rfl, rfl, rfl⟩ := hend.1 hk
      repeat (first | refine wG_call1 c5 (ag_int rfl (ag_sl rfl rfl (ml.trans hln).symm iRow_plain ag_nil)) rfl ?_ | (first
    | refine wC_a rfl ?_
    | refine q_s rfl ?_
    | refine q_b rfl ?_
    | refine wG_nil ?_
    | refine wG_g rfl ?_
    | refine wG_pure (o_len_vwm rfl) ?_
    | refine wG_pure (o_not_d rfl) ?_
    | refine wG_p rfl (by first | exact rfl | omega) ?_
    | refine wG_pure (o_str2 rfl rfl rfl) ?_
    | refine wG_pure (e_istr rfl rfl (by omega)) ?_
    | refine wG_pure (e_istr0 rfl rfl (by omega)) ?_
    | refine wG_pure (o_not rfl) ?_
    | refine wG_pure (e_ia_vw0 rfl rfl (by omega) rfl) ?_
    | refine wG_pure (e_ia_vwp rfl rfl (by omega) rfl) ?_
    | refine wG_pure (e_ia_vwm rfl rfl (by omega) (by omega) rfl) ?_
    | refine wG_pure (e_ia_vwi rfl rfl (by omega) rfl) ?_
    | refine wG_pure (e_ia_vwn rfl rfl (by omega) (by omega) rfl) ?_
    | refine wG_n rfl rfl ?_
    | refine wG_u rfl rfl ?_
    | refine wG_new (o_mks rfl rfl (by omega) (by decide)) ?_))
      exact ret_db (.inr rfl) rfl (retV_ldt rfl rfl rfl rfl rfl) (retV_mv rfl) rfl
    · have c5 := con80_N true (xs.getD i default).d.f (mS r xs i (cp xs xs.length)) (by omega) mb (by omega) (by omega) (by omega) hk
      obtain ⟨rfl, rfl, rfl⟩ := hend.2 hk
      repeat (first | refine wG_call c5 (ag_int rfl (ag_sl rfl rfl (ml.trans hln).symm iRow_plain ag_nil)) rfl ?_ | (first
    | refine wC_a rfl ?_
    | refine q_s rfl ?_
    | refine q_b rfl ?_
    | refine wG_nil ?_
    | refine wG_g rfl ?_
    | refine wG_pure (o_len_vwm rfl) ?_
    | refine wG_pure (o_not_d rfl) ?_
    | refine wG_p rfl (by first | exact rfl | omega) ?_
    | refine wG_pure (o_str2 rfl rfl rfl) ?_
    | refine wG_pure (e_istr rfl rfl (by omega)) ?_
    | refine wG_pure (e_istr0 rfl rfl (by omega)) ?_
    | refine wG_pure (o_not rfl) ?_
    | refine wG_pure (e_ia_vw0 rfl rfl (by omega) rfl) ?_
    | refine wG_pure (e_ia_vwp rfl rfl (by omega) rfl) ?_
    | refine wG_pure (e_ia_vwm rfl rfl (by omega) (by omega) rfl) ?_
    | refine wG_pure (e_ia_vwi rfl rfl (by omega) rfl) ?_
    | refine wG_pure (e_ia_vwn rfl rfl (by omega) (by omega) rfl) ?_
    | refine wG_n rfl rfl ?_
    | refine wG_u rfl rfl ?_
    | refine wG_new (o_mks rfl rfl (by omega) (by decide)) ?_))
      exact ret_d0 (.inr rfl) rfl (retV_ldt rfl rfl rfl rfl rfl) (retV_mv rfl)
theorem con41_no (a b c : Bool) (r : Rc) (xs : List Dn) (x : Int) (h1 : r.cs.length ≤ 1048576) (h2 : r.xs.length ≤ 1048576) (h3 : xs.length ≤ 1048576) (hL : LenN xs 1048576) (hk : ¬ okM r xs x) : Con Try.prog 41 true [.agg (dtR a b c r xs), .int .i64 x] mNo [] := by
  classical
  refine con_of_wp mixed fun41 (by simp) [] plain_nil ?_
  unfold ac41 ro41
  simp only [zipT]
  have c1 := con47 a b c r xs h1 h2 h3 hL
  have cx := con48 a b r x h1
  by_cases hG : GoodN r xs
  · rw [decide_eq_true hG] at c1
    have d1 : decide (idx r x < 0) = true := decide_eq_true (Int.not_le.1 fun h => hk ⟨hG, h⟩)
    repeat (first | refine wG_call cx rfl rfl ?_ | refine wG_call c1 rfl rfl ?_ | (first
    | refine wC_a rfl ?_
    | refine q_s rfl ?_
    | refine q_b rfl ?_
    | refine wG_nil ?_
    | refine wG_g rfl ?_
    | refine wG_pure (o_len_vwm rfl) ?_
    | refine wG_pure (o_not_d rfl) ?_
    | refine wG_p rfl (by first | exact rfl | omega) ?_
    | refine wG_pure (o_str2 rfl rfl rfl) ?_
    | refine wG_pure (e_istr rfl rfl (by omega)) ?_
    | refine wG_pure (e_istr0 rfl rfl (by omega)) ?_
    | refine wG_pure (o_not rfl) ?_
    | refine wG_pure (e_ia_vw0 rfl rfl (by omega) rfl) ?_
    | refine wG_pure (e_ia_vwp rfl rfl (by omega) rfl) ?_
    | refine wG_pure (e_ia_vwm rfl rfl (by omega) (by omega) rfl) ?_
    | refine wG_pure (e_ia_vwi rfl rfl (by omega) rfl) ?_
    | refine wG_pure (e_ia_vwn rfl rfl (by omega) (by omega) rfl) ?_
    | refine wG_n rfl rfl ?_
    | refine wG_u rfl rfl ?_
    | refine wG_new (o_mks rfl rfl (by omega) (by decide)) ?_))
    simp only [d1]
    repeat (first
    | refine wC_a rfl ?_
    | refine q_s rfl ?_
    | refine q_b rfl ?_
    | refine wG_nil ?_
    | refine wG_g rfl ?_
    | refine wG_pure (o_len_vwm rfl) ?_
    | refine wG_pure (o_not_d rfl) ?_
    | refine wG_p rfl (by first | exact rfl | omega) ?_
    | refine wG_pure (o_str2 rfl rfl rfl) ?_
    | refine wG_pure (e_istr rfl rfl (by omega)) ?_
    | refine wG_pure (e_istr0 rfl rfl (by omega)) ?_
    | refine wG_pure (o_not rfl) ?_
    | refine wG_pure (e_ia_vw0 rfl rfl (by omega) rfl) ?_
    | refine wG_pure (e_ia_vwp rfl rfl (by omega) rfl) ?_
    | refine wG_pure (e_ia_vwm rfl rfl (by omega) (by omega) rfl) ?_
    | refine wG_pure (e_ia_vwi rfl rfl (by omega) rfl) ?_
    | refine wG_pure (e_ia_vwn rfl rfl (by omega) (by omega) rfl) ?_
    | refine wG_n rfl rfl ?_
    | refine wG_u rfl rfl ?_
    | refine wG_new (o_mks rfl rfl (by omega) (by decide)) ?_)
    exact ret_d0 (.inr rfl) rfl (retV_ldt rfl rfl rfl rfl rfl) (retV_mv rfl)
  · rw [decide_eq_false hG] at c1
    repeat (first | refine wG_call cx rfl rfl ?_ | refine wG_call c1 rfl rfl ?_ | (first
    | refine wC_a rfl ?_
    | refine q_s rfl ?_
    | refine q_b rfl ?_
    | refine wG_nil ?_
    | refine wG_g rfl ?_
    | refine wG_pure (o_len_vwm rfl) ?_
    | refine wG_pure (o_not_d rfl) ?_
    | refine wG_p rfl (by first | exact rfl | omega) ?_
    | refine wG_pure (o_str2 rfl rfl rfl) ?_
    | refine wG_pure (e_istr rfl rfl (by omega)) ?_
    | refine wG_pure (e_istr0 rfl rfl (by omega)) ?_
    | refine wG_pure (o_not rfl) ?_
    | refine wG_pure (e_ia_vw0 rfl rfl (by omega) rfl) ?_
    | refine wG_pure (e_ia_vwp rfl rfl (by omega) rfl) ?_
    | refine wG_pure (e_ia_vwm rfl rfl (by omega) (by omega) rfl) ?_
    | refine wG_pure (e_ia_vwi rfl rfl (by omega) rfl) ?_
    | refine wG_pure (e_ia_vwn rfl rfl (by omega) (by omega) rfl) ?_
    | refine wG_n rfl rfl ?_
    | refine wG_u rfl rfl ?_
    | refine wG_new (o_mks rfl rfl (by omega) (by decide)) ?_))
    exact ret_d0 (.inr rfl) rfl (retV_ldt rfl rfl rfl rfl rfl) (retV_mv rfl)
theorem con42_no (a b c : Bool) (r : Rc) (xs : List Dn) (x : Int) (h1 : r.cs.length ≤ 1048576) (h2 : r.xs.length ≤ 1048576) (h3 : xs.length ≤ 1048576) (hL : LenN xs 1048576) (hk : ¬ okM r xs x) : Con Try.prog 42 true [.agg (dtR a b c r xs), .int .i64 x] mNo [] := by
  classical
  refine con_of_wp mixed fun42 (by simp) [] plain_nil ?_
  unfold ac42 ro42
  simp only [zipT]
  have c1 := con24 a b c r xs h1 h2 h3 hL
  have cx := con53 a b r x h1
  by_cases hG : GoodN r xs
  · rw [decide_eq_true hG] at c1
    have d1 : decide (idx r x < 0) = true := decide_eq_true (Int.not_le.1 fun h => hk ⟨hG, h⟩)
    repeat (first | refine wG_call cx rfl rfl ?_ | refine wG_call c1 rfl rfl ?_ | (first
    | refine wC_a rfl ?_
    | refine q_s rfl ?_
    | refine q_b rfl ?_
    | refine wG_nil ?_
    | refine wG_g rfl ?_
    | refine wG_pure (o_len_vwm rfl) ?_
    | refine wG_pure (o_not_d rfl) ?_
    | refine wG_p rfl (by first | exact rfl | omega) ?_
    | refine wG_pure (o_str2 rfl rfl rfl) ?_
    | refine wG_pure (e_istr rfl rfl (by omega)) ?_
    | refine wG_pure (e_istr0 rfl rfl (by omega)) ?_
    | refine wG_pure (o_not rfl) ?_
    | refine wG_pure (e_ia_vw0 rfl rfl (by omega) rfl) ?_
    | refine wG_pure (e_ia_vwp rfl rfl (by omega) rfl) ?_
    | refine wG_pure (e_ia_vwm rfl rfl (by omega) (by omega) rfl) ?_
    | refine wG_pure (e_ia_vwi rfl rfl (by omega) rfl) ?_
    | refine wG_pure (e_ia_vwn rfl rfl (by omega) (by omega) rfl) ?_
    | refine wG_n rfl rfl ?_
    | refine wG_u rfl rfl ?_
    | refine wG_new (o_mks rfl rfl (by omega) (by decide)) ?_))
    simp only [d1]
    repeat (first
    | refine wC_a rfl ?_
    | refine q_s rfl ?_
    | refine q_b rfl ?_
    | refine wG_nil ?_
    | refine wG_g rfl ?_
    | refine wG_pure (o_len_vwm rfl) ?_
    | refine wG_pure (o_not_d rfl) ?_
    | refine wG_p rfl (by first | exact rfl | omega) ?_
    | refine wG_pure (o_str2 rfl rfl rfl) ?_
    | refine wG_pure (e_istr rfl rfl (by omega)) ?_
    | refine wG_pure (e_istr0 rfl rfl (by omega)) ?_
    | refine wG_pure (o_not rfl) ?_
    | refine wG_pure (e_ia_vw0 rfl rfl (by omega) rfl) ?_
    | refine wG_pure (e_ia_vwp rfl rfl (by omega) rfl) ?_
    | refine wG_pure (e_ia_vwm rfl rfl (by omega) (by omega) rfl) ?_
    | refine wG_pure (e_ia_vwi rfl rfl (by omega) rfl) ?_
    | refine wG_pure (e_ia_vwn rfl rfl (by omega) (by omega) rfl) ?_
    | refine wG_n rfl rfl ?_
    | refine wG_u rfl rfl ?_
    | refine wG_new (o_mks rfl rfl (by omega) (by decide)) ?_)
    exact ret_d0 (.inr rfl) rfl (retV_ldt rfl rfl rfl rfl rfl) (retV_mv rfl)
  · rw [decide_eq_false hG] at c1
    repeat (first | refine wG_call cx rfl rfl ?_ | refine wG_call c1 rfl rfl ?_ | (first
    | refine wC_a rfl ?_
    | refine q_s rfl ?_
    | refine q_b rfl ?_
    | refine wG_nil ?_
    | refine wG_g rfl ?_
    | refine wG_pure (o_len_vwm rfl) ?_
    | refine wG_pure (o_not_d rfl) ?_
    | refine wG_p rfl (by first | exact rfl | omega) ?_
    | refine wG_pure (o_str2 rfl rfl rfl) ?_
    | refine wG_pure (e_istr rfl rfl (by omega)) ?_
    | refine wG_pure (e_istr0 rfl rfl (by omega)) ?_
    | refine wG_pure (o_not rfl) ?_
    | refine wG_pure (e_ia_vw0 rfl rfl (by omega) rfl) ?_
    | refine wG_pure (e_ia_vwp rfl rfl (by omega) rfl) ?_
    | refine wG_pure (e_ia_vwm rfl rfl (by omega) (by omega) rfl) ?_
    | refine wG_pure (e_ia_vwi rfl rfl (by omega) rfl) ?_
    | refine wG_pure (e_ia_vwn rfl rfl (by omega) (by omega) rfl) ?_
    | refine wG_n rfl rfl ?_
    | refine wG_u rfl rfl ?_
    | refine wG_new (o_mks rfl rfl (by omega) (by decide)) ?_))
    exact ret_d0 (.inr rfl) rfl (retV_ldt rfl rfl rfl rfl rfl) (retV_mv rfl)
def hsM (a b c : Bool) (r : Rc) (xs : List Dn) (i : Nat) (ws : List Int) : List (Nat × Option Ab.Rows) := [(3, some (ws.map iRow)), (4, some [[.sl 3 1 0 (xs.getD i default).d.ws.length]]), (2, some [[.int .i64 (i : Int)]]), (1, some [[.int .i64 0, .nilS]]), (0, some [dtR a b c r xs])]
theorem hsM_wf {a b c : Bool} {r : Rc} {xs : List Dn} {i nr : Nat} (h : 5 ≤ nr) (s : List Int) : wfH (hsM a b c r xs i s) nr :=
  wfH_cons (by omega) (ltrI _ _) (wfH_cons (by omega) (by simp [AV.ltr]; omega) (wfH_cons (by omega) (by simp [AV.ltr]) (wfH_cons (by omega) (by simp [AV.ltr]) (wfH_cons (by omega) (dtR_ltr1 _) wfH_nil))))
theorem vis_M {a b c : Bool} {r : Rc} {xs : List Dn} (hG : GoodN r xs) {i : Nat} (hi : i < xs.length) (ws : List Int) (hws : ws.length = ln xs i) (ys : List Int) (hy : ys.length = xs.length) (w : Int) (hw : 0 < w) (hww : wtI r xs ys = w) : Sh Try.prog 81 ([.sl (5 + 2) 1 0 xs.length, .int .i64 w] ++ [.pt 4 0 0, .pt 2 0 0, .pt 0 0 0]) (eF (dtR a b c r xs) 5 81 [.pt 4 0 0, .pt 2 0 0, .pt 0 0 0] xs.length ys (hsM a b c r xs i ws)) 10 (.tup []) (eF (dtR a b c r xs) 5 81 [.pt 4 0 0, .pt 2 0 0, .pt 0 0 0] xs.length ys (hsM a b c r xs i (stM xs i ws ys w))) 10 := by
  refine sh_of_wp mixed fun81 (by simp) ?_
  unfold ac81 ro81
  simp only [zipT, List.cons_append, List.nil_append]
  have e0 : ∀ n : Nat, 0 + ((n : Int)).toNat = n := fun n => by simp
  have gD := (hG.2.2 i hi).1
  have hln : ln xs i = (xs.getD i default).d.ws.length := rfl
  have hl60 : ln xs i ≤ 60 := gD.1.2
  have hf1 := gD.2.1
  obtain ⟨k, hk, hky⟩ := wt_in hy hi (by rw [hww]; exact hw)
  have gi : (ys.map iRow)[i]? = some (iRow ((xs.getD i default).d.f + (k : Nat))) := by rw [← hky]; exact iGet (by omega)
  have gk : (ws.map iRow)[k]? = some (iRow (ws.getD k default)) := iGet (by omega)
  have es : (xs.getD i default).d.f + (k : Int) - (xs.getD i default).d.f = k := by omega
  have e2 : stM xs i ws ys w = ws.set k (IntKind.i64.wrap (ws.getD k default + w)) := by rw [stM, hky, es]; rfl
  rw [e2]
  repeat (first | refine wC_dregE ?_ | (refine wE_v (e_ia_sl rfl rfl (by omega) (by omega)) rfl ?_; simp only [e0]) | (refine wE_v (e_ia_sl rfl rfl (by omega) (by omega)) rfl ?_; simp only [es, e0]) | refine wE_v (o_ldf_pt rfl rfl gi rfl) rfl ?_ | refine wE_v (o_ldf_pt rfl rfl gk rfl) rfl ?_ | refine wE_v (o_ldf_pt rfl rfl rfl rfl) rfl ?_ | refine wE_v (o_addw rfl rfl) rfl ?_ | refine wE_upd (o_st1 rfl rfl gk rfl rfl mset) rfl ?_ | (first
    | refine wC_a rfl ?_
    | refine q_s rfl ?_
    | refine q_b rfl ?_
    | refine wG_nil ?_
    | refine wG_g rfl ?_
    | refine wG_pure (o_len_vwm rfl) ?_
    | refine wG_pure (o_not_d rfl) ?_
    | refine wG_p rfl (by first | exact rfl | omega) ?_
    | refine wG_pure (o_str2 rfl rfl rfl) ?_
    | refine wG_pure (e_istr rfl rfl (by omega)) ?_
    | refine wG_pure (e_istr0 rfl rfl (by omega)) ?_
    | refine wG_pure (o_not rfl) ?_
    | refine wG_pure (e_ia_vw0 rfl rfl (by omega) rfl) ?_
    | refine wG_pure (e_ia_vwp rfl rfl (by omega) rfl) ?_
    | refine wG_pure (e_ia_vwm rfl rfl (by omega) (by omega) rfl) ?_
    | refine wG_pure (e_ia_vwi rfl rfl (by omega) rfl) ?_
    | refine wG_pure (e_ia_vwn rfl rfl (by omega) (by omega) rfl) ?_
    | refine wG_n rfl rfl ?_
    | refine wG_u rfl rfl ?_
    | refine wG_new (o_mks rfl rfl (by omega) (by decide)) ?_) | (first
    | refine wE_nil (by kernel_rfl) ?_
    | refine wE_gy rfl ?_
    | refine wE_gn rfl rfl rfl ?_
    | refine wE_gu rfl rfl ?_
    | refine wE_gnn rfl rfl rfl ?_
    | refine wE_v (o_len_vwm rfl) rfl ?_
    | refine wE_v (o_not_d rfl) rfl ?_
    | refine wE_p rfl (by first | exact rfl | omega) rfl ?_
    | refine wE_v (o_str2 rfl rfl rfl) rfl ?_
    | refine wE_v (e_istr rfl rfl (by omega)) rfl ?_
    | refine wE_v (e_istr0 rfl rfl (by omega)) rfl ?_
    | refine wE_v (o_not rfl) rfl ?_
    | refine wE_v (e_ia_vw0 rfl rfl (by omega) rfl) rfl ?_
    | refine wE_v (e_ia_vwp rfl rfl (by omega) rfl) rfl ?_
    | refine wE_v (e_ia_vwm rfl rfl (by omega) (by omega) rfl) rfl ?_
    | refine wE_v (e_ia_vwi rfl rfl (by omega) rfl) rfl ?_
    | refine wE_v (e_ia_vwn rfl rfl (by omega) (by omega) rfl) rfl ?_
    | refine wE_n rfl rfl rfl ?_
    | refine wE_u rfl rfl rfl ?_
    | refine wE_new (o_mks rfl rfl (by omega) (by decide)) rfl ?_))
  refine ⟨trivial, [], rfl, Le_of ⟨⟨rfl, rfl⟩, trivial⟩ (fun q rows hq => ?_) (eF_wf (nr := 10) (by decide) (dtR_ltr _) rfl (hsM_wf (by decide) _)), Nat.le_refl _⟩
  refine Eq.trans ?_ hq
  simp only [eF, hsM, Ab.hg, upd]
  by_cases e3 : q = 3
  · subst e3; rfl
  simp only [if_neg e3]
theorem con42_all (a b c : Bool) (r : Rc) (xs : List Dn) (x : Int) (h1 : r.cs.length ≤ 1048576) (h2 : r.xs.length ≤ 1048576) (h3 : xs.length ≤ 1048576) (hL : LenN xs 1048576) (hG : GoodN r xs) {i : Nat} (hi : idx r x = i) :
    (mkOK (xs.getD i default).d.f (mS r xs i (cp xs xs.length)) → Con Try.prog 42 true [.agg (dtR a b c r xs), .int .i64 x] (mYes (mkO (xs.getD i default).d.f (mS r xs i (cp xs xs.length)))) [(mkO (xs.getD i default).d.f (mS r xs i (cp xs xs.length))).ws.map iRow]) ∧ (¬ mkOK (xs.getD i default).d.f (mS r xs i (cp xs xs.length)) → Con Try.prog 42 true [.agg (dtR a b c r xs), .int .i64 x] mNo []) := by
  classical
  have c1 := con24 a b c r xs h1 h2 h3 hL
  rw [decide_eq_true hG] at c1
  have hcp := cp_b hG
  have cx := con53 a b r x h1
  have bx := idx_b r x
  have hnl := hG.2.1
  rw [hi] at cx bx
  have hix : i < xs.length := by omega
  have hL5 := hL i hix
  have gD := (hG.2.2 i hix).1
  have hln : ln xs i = (xs.getD i default).d.ws.length := rfl
  have hl60 : ln xs i ≤ 60 := gD.1.2
  have hf1 := gD.2.1
  have d1 : decide ((i : Int) < 0) = false := decide_eq_false (by omega)
  have hrep : (List.replicate (xs.getD i default).d.ws.length [AV.int .i64 0]) = (List.replicate (ln xs i) (0 : Int)).map iRow := by
    rw [List.map_replicate]; rfl
  have hE := (each_sh (σ := List Int) (step := stM xs i) (J := fun ws => ws.length = ln xs i) (hs := hsM a b c r xs i) (nrS := fun _ => 10) (a := a) (b := b) (c := c) (r := r) (xs := xs) (N := 5) (fv := 81) (caps := [.pt 4 0 0, .pt 2 0 0, .pt 0 0 0]) hG (fun _ => Nat.le_refl _) (fun s _ => hsM_wf (by omega) s) rfl (fun _ _ _ => Nat.le_refl _) (fun s ys w hs hy hw hww => ⟨vis_M hG hix s hs ys hy w hw hww, by rw [stM_len]; exact hs⟩) (fun s q rows _ hq => by
    by_cases e : q < 5
    · exact .inl e
    · simp [hsM, Ab.hg, upd, show q ≠ 4 by omega, show q ≠ 3 by omega, show q ≠ 2 by omega, show q ≠ 1 by omega, show q ≠ 0 by omega] at hq) (List.replicate (ln xs i) 0) (by simp) rfl h3).1
  rw [each_fd hG] at hE
  change Sh _ _ _ _ _ _ (hsM a b c r xs i (mS r xs i (cp xs xs.length))) 10 at hE
  obtain ⟨ml, mb⟩ := mS_b hG hix (cp xs xs.length) (by omega)
  generalize mS r xs i (cp xs xs.length) = z at *
  have hE2 : Sh Try.prog 69 [.agg (dtR a b c r xs), .fn 81 [.pt 4 0 0, .pt 2 0 0, .pt 0 0 0]] [(4, some [[.sl 3 1 0 (xs.getD i default).d.ws.length]]), (4, some [[.nilS]]), (3, some (List.replicate (xs.getD i default).d.ws.length [AV.int .i64 0])), (2, some [[.int .i64 (i : Int)]]), (2, some [[.int .i64 0]]), (1, some [[.int .i64 0, .nilS]]), (0, some [dtR a b c r xs])] 5 (.tup []) (hsM a b c r xs i z) 10 := by
    rw [hrep]
    refine Sh_hg ?_ hE
    funext q
    simp only [hsM, Ab.hg, upd]
    repeat' split
    all_goals (first | rfl | (exfalso; omega) | omega)
  constructor
  · intro hk
    have c5 := con82_Y true (xs.getD i default).d.f z (by omega) mb (by omega) (by omega) (by omega) hk
    refine con_of_wp mixed fun42 (by simp) [10] (plain_map iRow_plain _) ?_
    unfold ac42 ro42
    simp only [zipT]
    repeat (first | refine wC_dregE ?_ | refine wG_call c1 rfl rfl ?_ | refine wG_call cx rfl rfl ?_ | refine wG_pure (o_mkf rfl) ?_ | refine wG_callS hE2 rfl ?_ | refine wE_call1 c5 (ag_int rfl (ag_sl rfl rfl (ml.trans hln).symm iRow_plain ag_nil)) rfl rfl ?_ | refine wE_v (o_ldf_pt rfl rfl rfl rfl) rfl ?_ | (first
    | refine wC_a rfl ?_
    | refine q_s rfl ?_
    | refine q_b rfl ?_
    | refine wG_nil ?_
    | refine wG_g rfl ?_
    | refine wG_pure (o_len_vwm rfl) ?_
    | refine wG_pure (o_not_d rfl) ?_
    | refine wG_p rfl (by first | exact rfl | omega) ?_
    | refine wG_pure (o_str2 rfl rfl rfl) ?_
    | refine wG_pure (e_istr rfl rfl (by omega)) ?_
    | refine wG_pure (e_istr0 rfl rfl (by omega)) ?_
    | refine wG_pure (o_not rfl) ?_
    | refine wG_pure (e_ia_vw0 rfl rfl (by omega) rfl) ?_
    | refine wG_pure (e_ia_vwp rfl rfl (by omega) rfl) ?_
    | refine wG_pure (e_ia_vwm rfl rfl (by omega) (by omega) rfl) ?_
    | refine wG_pure (e_ia_vwi rfl rfl (by omega) rfl) ?_
    | refine wG_pure (e_ia_vwn rfl rfl (by omega) (by omega) rfl) ?_
    | refine wG_n rfl rfl ?_
    | refine wG_u rfl rfl ?_
    | refine wG_new (o_mks rfl rfl (by omega) (by decide)) ?_) | (first
    | refine wE_nil (by kernel_rfl) ?_
    | refine wE_gy rfl ?_
    | refine wE_gn rfl rfl rfl ?_
    | refine wE_gu rfl rfl ?_
    | refine wE_gnn rfl rfl rfl ?_
    | refine wE_v (o_len_vwm rfl) rfl ?_
    | refine wE_v (o_not_d rfl) rfl ?_
    | refine wE_p rfl (by first | exact rfl | omega) rfl ?_
    | refine wE_v (o_str2 rfl rfl rfl) rfl ?_
    | refine wE_v (e_istr rfl rfl (by omega)) rfl ?_
    | refine wE_v (e_istr0 rfl rfl (by omega)) rfl ?_
    | refine wE_v (o_not rfl) rfl ?_
    | refine wE_v (e_ia_vw0 rfl rfl (by omega) rfl) rfl ?_
    | refine wE_v (e_ia_vwp rfl rfl (by omega) rfl) rfl ?_
    | refine wE_v (e_ia_vwm rfl rfl (by omega) (by omega) rfl) rfl ?_
    | refine wE_v (e_ia_vwi rfl rfl (by omega) rfl) rfl ?_
    | refine wE_v (e_ia_vwn rfl rfl (by omega) (by omega) rfl) rfl ?_
    | refine wE_n rfl rfl rfl ?_
    | refine wE_u rfl rfl rfl ?_
    | refine wE_new (o_mks rfl rfl (by omega) (by decide)) rfl ?_))
    exact ret_db (.inr rfl) rfl (retV_ldt rfl rfl rfl rfl rfl) (retV_mv rfl) rfl
  · intro hk
    have c5 := con82_N true (xs.getD i default).d.f z (by omega) mb (by omega) (by omega) (by omega) hk
    refine con_of_wp mixed fun42 (by simp) [] plain_nil ?_
    unfold ac42 ro42
    simp only [zipT]
    repeat (first | refine wC_dregE ?_ | refine wG_call c1 rfl rfl ?_ | refine wG_call cx rfl rfl ?_ | refine wG_pure (o_mkf rfl) ?_ | refine wG_callS hE2 rfl ?_ | refine wE_call c5 (ag_int rfl (ag_sl rfl rfl (ml.trans hln).symm iRow_plain ag_nil)) rfl rfl ?_ | refine wE_v (o_ldf_pt rfl rfl rfl rfl) rfl ?_ | (first
    | refine wC_a rfl ?_
    | refine q_s rfl ?_
    | refine q_b rfl ?_
    | refine wG_nil ?_
    | refine wG_g rfl ?_
    | refine wG_pure (o_len_vwm rfl) ?_
    | refine wG_pure (o_not_d rfl) ?_
    | refine wG_p rfl (by first | exact rfl | omega) ?_
    | refine wG_pure (o_str2 rfl rfl rfl) ?_
    | refine wG_pure (e_istr rfl rfl (by omega)) ?_
    | refine wG_pure (e_istr0 rfl rfl (by omega)) ?_
    | refine wG_pure (o_not rfl) ?_
    | refine wG_pure (e_ia_vw0 rfl rfl (by omega) rfl) ?_
    | refine wG_pure (e_ia_vwp rfl rfl (by omega) rfl) ?_
    | refine wG_pure (e_ia_vwm rfl rfl (by omega) (by omega) rfl) ?_
    | refine wG_pure (e_ia_vwi rfl rfl (by omega) rfl) ?_
    | refine wG_pure (e_ia_vwn rfl rfl (by omega) (by omega) rfl) ?_
    | refine wG_n rfl rfl ?_
    | refine wG_u rfl rfl ?_
    | refine wG_new (o_mks rfl rfl (by omega) (by decide)) ?_) | (first
    | refine wE_nil (by kernel_rfl) ?_
    | refine wE_gy rfl ?_
    | refine wE_gn rfl rfl rfl ?_
    | refine wE_gu rfl rfl ?_
    | refine wE_gnn rfl rfl rfl ?_
    | refine wE_v (o_len_vwm rfl) rfl ?_
    | refine wE_v (o_not_d rfl) rfl ?_
    | refine wE_p rfl (by first | exact rfl | omega) rfl ?_
    | refine wE_v (o_str2 rfl rfl rfl) rfl ?_
    | refine wE_v (e_istr rfl rfl (by omega)) rfl ?_
    | refine wE_v (e_istr0 rfl rfl (by omega)) rfl ?_
    | refine wE_v (o_not rfl) rfl ?_
    | refine wE_v (e_ia_vw0 rfl rfl (by omega) rfl) rfl ?_
    | refine wE_v (e_ia_vwp rfl rfl (by omega) rfl) rfl ?_
    | refine wE_v (e_ia_vwm rfl rfl (by omega) (by omega) rfl) rfl ?_
    | refine wE_v (e_ia_vwi rfl rfl (by omega) rfl) rfl ?_
    | refine wE_v (e_ia_vwn rfl rfl (by omega) (by omega) rfl) rfl ?_
    | refine wE_n rfl rfl rfl ?_
    | refine wE_u rfl rfl rfl ?_
    | refine wE_new (o_mks rfl rfl (by omega) (by decide)) rfl ?_))
    exact ret_d0 (.inr rfl) rfl (retV_ldt rfl rfl rfl rfl rfl) (retV_mv rfl)
end Go.Proofs.Ytkeobnaehgcloaa.Dst
