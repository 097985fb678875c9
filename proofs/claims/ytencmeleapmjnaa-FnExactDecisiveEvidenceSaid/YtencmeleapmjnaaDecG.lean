/- Decisive evidence: the implementation. -/
import Derived.Test.YtencmeleapmjnaaDecC
import Derived.Test.YtencmeleapmjnaaDecA
namespace Go.Proofs.Ytencmeleapmjnaa.Rec
open Go Go.Proofs.Ytencmeleapmjnaa.Ab Go.Proofs.Ytencmeleapmjnaa.Il
attribute [local irreducible] wpO wpC wpDr wpQ wpG wpE stepA seqQ blkQ Ret RetG ev
set_option maxRecDepth 10000
set_option maxHeartbeats 8000000
set_option linter.unusedSimpArgs false
set_option linter.unusedVariables false

def ac12 : AC := (.seq (.reg [⟨(some 2), none, (.box 2 true (.t 0))⟩, ⟨(some 4), none, (.mv (.c .nilS))⟩, ⟨(some 5), none, (.mv (.c (.bool false)))⟩]) (.seq (.reg [⟨(some 14), none, (.ld true 2 (.t 2))⟩, ⟨(some 15), none, (.mv (.t 1))⟩, ⟨(some 16), none, (.call 21 [(.t 14), (.t 15)])⟩, ⟨(some 13), none, (.mv (.t 16))⟩, ⟨(some 17), none, (.ext (.t 13) 0)⟩, ⟨(some 18), none, (.ext (.t 13) 1)⟩, ⟨(some 6), none, (.mv (.t 17))⟩, ⟨(some 7), none, (.mv (.t 18))⟩]) (.seq (.seq (.reg [⟨(some 19), none, (.mv (.t 7))⟩, ⟨(some 20), none, (.un .not (.t 19))⟩]) (.cond (.t 20) (.seq (.reg [⟨(some 4), none, (.mv (.c .nilS))⟩, ⟨(some 5), none, (.mv (.c (.bool false)))⟩]) .ret) .skip)) (.seq (.reg [⟨(some 21), none, (.bsl 1 [(.int .i64 0)] 0 [])⟩, ⟨(some 8), none, (.mv (.t 21))⟩]) (.seq (.seq (.reg [⟨(some 22), none, (.mv (.t 1))⟩, ⟨(some 23), none, (.len (.t 22))⟩, ⟨(some 24), none, (.mv (.c (.int .i64 0)))⟩]) (.blk 0 (.loop (.seq (.reg [⟨(some 25), none, (.bin .lss (.t 24) (.t 23))⟩]) (.seq (.cond (.t 25) .skip (.exit 0)) (.seq (.blk 1 (.seq (.reg [⟨(some 26), none, (.mv (.t 24))⟩, ⟨(some 27), none, (.ia 3 (.t 22) (.t 24))⟩, ⟨(some 28), none, (.ld true 3 (.t 27))⟩, ⟨(some 10), none, (.alloc [(.int .i64 0), (.int .i64 0), (.int .i64 0)])⟩, ⟨(some 9), none, (.mv (.t 26))⟩, ⟨none, none, (.st 3 (.t 10) (.t 28))⟩]) (.seq (.dreg [⟨(some 30), none, (.ld true 2 (.t 2))⟩, ⟨(some 31), none, (.mv (.t 1))⟩, ⟨(some 32), none, (.call 37 [(.t 31)])⟩, ⟨(some 33), none, (.mv (.t 9))⟩, ⟨(some 34), none, (.mv (.t 9))⟩, ⟨(some 35), none, (.bin .add (.t 34) (.c (.int .i64 1)))⟩, ⟨(some 36), none, (.call 36 [(.t 32), (.t 33), (.t 35)])⟩, ⟨(some 37), none, (.call 21 [(.t 30), (.t 36)])⟩, ⟨(some 29), none, (.mv (.t 37))⟩, ⟨(some 38), none, (.ext (.t 29) 0)⟩, ⟨(some 39), none, (.ext (.t 29) 1)⟩, ⟨(some 11), none, (.mv (.t 38))⟩, ⟨(some 12), none, (.mv (.t 39))⟩] [[], [], [1], [], [], [4], [1, 2, 3, 4, 5], [0, 1, 2, 3, 4, 5, 6], [0, 1, 2, 3, 4, 5, 6, 7], [0, 1, 2, 3, 4, 5, 6, 7, 8], [0, 1, 2, 3, 4, 5, 6, 7, 8], [0, 1, 2, 3, 4, 5, 6, 7, 8, 9], [0, 1, 2, 3, 4, 5, 6, 7, 8, 9, 10, 11]]) (.seq (.reg [⟨(some 40), none, (.mv (.t 6))⟩, ⟨(some 41), none, (.mv (.t 11))⟩, ⟨(some 42), none, (.call 38 [(.t 40), (.t 41)])⟩, ⟨(some 43), none, (.un .not (.t 42))⟩]) (.cond (.t 43) (.reg [⟨(some 44), none, (.mv (.t 8))⟩, ⟨(some 45), none, (.fa 0 (.t 10))⟩, ⟨(some 46), none, (.ld false 1 (.t 45))⟩, ⟨(some 47), none, (.bsl 1 [(.int .i64 0)] 1 [(0, (.t 46))])⟩, ⟨(some 48), none, (.app 1 8 [(.int .i64 0)] (.t 44) (.t 47))⟩, ⟨(some 8), none, (.mv (.t 48))⟩]) .skip))))) (.reg [⟨(some 49), none, (.bin .add (.t 24) (.c (.int .i64 1)))⟩, ⟨(some 24), none, (.mv (.t 49))⟩]))))))) (.seq (.reg [⟨(some 50), none, (.mv (.t 8))⟩, ⟨(some 4), none, (.mv (.t 50))⟩, ⟨(some 5), none, (.mv (.c (.bool true)))⟩]) .ret))))))
def ro12 : List AOp := [(.mv (.t 4)), (.mv (.t 5))]
theorem fun12 : Fun Try.prog 12 51 ac12 ro12 := ⟨Try.f12, _, Try.func12, by kernel_rfl, rfl, rfl, by kernel_rfl, by kernel_rfl, by decide⟩

theorem delR_map (es : List Dt) (k : Nat) : delR es k = (del es k ++ [(⟨0, 0, 0⟩ : Dt)]).map tRow := by
  simp [delR, zD, tRow]
theorem dr_del {es : List Dt} {k : Nat} (hk : k < es.length) {H : Nat → Option Ab.Rows} {r m : Nat} (h : H r = some (delR es k)) : dr H (m + 2) (.sl r 3 0 (es.length - 1)) = .vw true ((del es k).map tRow) := by
  rw [delR_map] at h
  rw [dr_part h tRow_plain, List.drop_zero, List.take_left' (del_len hk)]
theorem ag_del {es : List Dt} {k : Nat} (hk : k < es.length) {T : Nat → AV} {H : Nat → Option Ab.Rows} {r : Nat} {x : AX} {xs : List AX} {vs : List AV} (h1 : gT T x = .sl r 3 0 (es.length - 1)) (h2 : H r = some (delR es k)) (hr : (xs.map (gT T)).map (dr H 6) = vs) : ((x :: xs).map (gT T)).map (dr H 6) = .vw true ((del es k).map tRow) :: vs :=
  ag_any (by rw [h1]; exact dr_del hk h2) hr
theorem hg_3' {x2 x1 x0 rows : Ab.Rows} {q : Nat} (h : hg [(2, some x2), (1, some x1), (0, some x0)] q = some rows) : (q = 2 ∧ rows = x2) ∨ (q = 1 ∧ rows = x1) ∨ (q = 0 ∧ rows = x0) := by
  simp only [Ab.hg, upd] at h
  repeat' split at h
  all_goals (first | (cases h; simp [*]; done) | cases h)
theorem con12_no (a b : Bool) (r : Rc) (es : List Dt) (h1 : r.cs.length ≤ 1048576) (h2 : r.xs.length ≤ 1048576) (h3 : es.length ≤ 1048576) (h : ¬ prOK r es) : Con Try.prog 12 true [.agg (rRow a b r), .vw true (es.map tRow)] (.tup [.nilS, .bool false]) [] := by
  refine con_of_wp mixed fun12 (by simp) [] plain_nil ?_
  unfold ac12 ro12
  simp only [zipT]
  have c1 := con21_no a b true r es h1 h2 h3 h
  repeat (first | refine wG_call c1 rfl rfl ?_ | (first
    | refine wC_a rfl ?_
    | refine q_s rfl ?_
    | refine q_b rfl ?_
    | refine wG_nil ?_
    | refine wG_g rfl ?_
    | refine wG_pure (o_len_vwm rfl) ?_
    | refine wG_pure (o_not_d rfl) ?_
    | refine wG_p rfl (by first | exact rfl | omega) ?_
    | refine wG_pure (o_str2 rfl rfl rfl) ?_
    | refine wG_pure (e_istr rfl rfl (by omega)) ?_
    | refine wG_pure (e_istr0 rfl rfl (by omega)) ?_
    | refine wG_pure (o_not rfl) ?_
    | refine wG_pure (e_ia_vw0 rfl rfl (by omega) rfl) ?_
    | refine wG_pure (e_ia_vwp rfl rfl (by omega) rfl) ?_
    | refine wG_pure (e_ia_vwm rfl rfl (by omega) (by omega) rfl) ?_
    | refine wG_pure (e_ia_vwi rfl rfl (by omega) rfl) ?_
    | refine wG_pure (e_ia_vwn rfl rfl (by omega) (by omega) rfl) ?_
    | refine wG_n rfl rfl ?_
    | refine wG_u rfl rfl ?_
    | refine wG_new (o_mks rfl rfl (by omega) (by decide)) ?_))
  exact ret_pl (.inr rfl) (retVs_2 (retV_mv rfl) (retV_mv rfl)) rfl rfl (by simp)
theorem con12_yes (a b : Bool) (r : Rc) (es : List Dt) (h1 : r.cs.length ≤ 1048576) (h2 : r.xs.length ≤ 1048576) (h3 : es.length ≤ 1048576) (h : prOK r es) : Con Try.prog 12 true [.agg (rRow a b r), .vw true (es.map tRow)] (.tup [.sl 0 1 0 (dec r es es.length).length, .bool true]) [(dec r es es.length).map iRow] := by
  refine con_of_wp mixed fun12 (by simp) [2] (plain_map iRow_plain _) ?_
  unfold ac12 ro12
  simp only [zipT]
  have c1 := con21_yes a b true r es h1 h2 h3 h
  have cC := con37 es h3
  have hwf : ∀ ws : List Int, wfH [(2, some (ws.map iRow)), (1, some ((tgL r es r.cs.length).map vRow)), (0, some [rRow a b r])] 3 := fun ws => wfH_cons (by decide) (ltrI _ _) (wfH_cons (by decide) (ltrV _ _) (wfH_cons (by decide) (by simp [rRow, AV.ltr]) wfH_nil))
  have e0 : ∀ n : Nat, 0 + ((n : Int)).toNat = n := fun n => by simp
  repeat (first | refine wG_call1 c1 rfl rfl ?_ | (first
    | refine wC_a rfl ?_
    | refine q_s rfl ?_
    | refine q_b rfl ?_
    | refine wG_nil ?_
    | refine wG_g rfl ?_
    | refine wG_pure (o_len_vwm rfl) ?_
    | refine wG_pure (o_not_d rfl) ?_
    | refine wG_p rfl (by first | exact rfl | omega) ?_
    | refine wG_pure (o_str2 rfl rfl rfl) ?_
    | refine wG_pure (e_istr rfl rfl (by omega)) ?_
    | refine wG_pure (e_istr0 rfl rfl (by omega)) ?_
    | refine wG_pure (o_not rfl) ?_
    | refine wG_pure (e_ia_vw0 rfl rfl (by omega) rfl) ?_
    | refine wG_pure (e_ia_vwp rfl rfl (by omega) rfl) ?_
    | refine wG_pure (e_ia_vwm rfl rfl (by omega) (by omega) rfl) ?_
    | refine wG_pure (e_ia_vwi rfl rfl (by omega) rfl) ?_
    | refine wG_pure (e_ia_vwn rfl rfl (by omega) (by omega) rfl) ?_
    | refine wG_n rfl rfl ?_
    | refine wG_u rfl rfl ?_
    | refine wG_new (o_mks rfl rfl (by omega) (by decide)) ?_))
  refine wC_loopX Nat (fun i => ⟨[(1, .vw true (es.map tRow)), (2, .pt 0 0 0), (6, .sl 1 2 0 r.cs.length), (8, .sl 2 1 0 (dec r es i).length), (22, .vw true (es.map tRow)), (23, .int .i64 (es.length : Int)), (24, .int .i64 (i : Int))], [(2, some ((dec r es i).map iRow)), (1, some ((tgL r es r.cs.length).map vRow)), (0, some [rRow a b r])], 3⟩) (fun i => i ≤ es.length) (fun i => es.length - i) 0 (Nat.zero_le _) ?_ ?_
  · exact .inl (Le_of ⟨⟨rfl, rfl⟩, ⟨rfl, rfl⟩, ⟨rfl, rfl⟩, ⟨rfl, rfl⟩, ⟨rfl, rfl⟩, ⟨rfl, rfl⟩, ⟨rfl, rfl⟩, trivial⟩ (fun q rows hq => hq) (hwf _))
  intro i hi
  repeat (first
    | refine wC_a rfl ?_
    | refine q_s rfl ?_
    | refine q_b rfl ?_
    | refine wG_nil ?_
    | refine wG_g rfl ?_
    | refine wG_pure (o_len_vwm rfl) ?_
    | refine wG_pure (o_not_d rfl) ?_
    | refine wG_p rfl (by first | exact rfl | omega) ?_
    | refine wG_pure (o_str2 rfl rfl rfl) ?_
    | refine wG_pure (e_istr rfl rfl (by omega)) ?_
    | refine wG_pure (e_istr0 rfl rfl (by omega)) ?_
    | refine wG_pure (o_not rfl) ?_
    | refine wG_pure (e_ia_vw0 rfl rfl (by omega) rfl) ?_
    | refine wG_pure (e_ia_vwp rfl rfl (by omega) rfl) ?_
    | refine wG_pure (e_ia_vwm rfl rfl (by omega) (by omega) rfl) ?_
    | refine wG_pure (e_ia_vwi rfl rfl (by omega) rfl) ?_
    | refine wG_pure (e_ia_vwn rfl rfl (by omega) (by omega) rfl) ?_
    | refine wG_n rfl rfl ?_
    | refine wG_u rfl rfl ?_
    | refine wG_new (o_mks rfl rfl (by omega) (by decide)) ?_)
  refine wC_cond_d rfl (fun h5 => ?_) (fun h5 => ?_)
  · have hi2 : i < es.length := by omega
    have hP := prOK_del h hi2
    have hdl := del_len hi2
    have cP := con21_yes a b true r (del es i) h1 h2 (by omega) hP
    obtain ⟨bb, hbb, cQ⟩ := con38 true true (tgL r es r.cs.length) (tgL r (del es i) r.cs.length) (by simp [tgL]; omega) (by simp [tgL])
    have hdn := dec_len r es i
    repeat (first | refine wC_dregF 6 (by kernel_rfl) rfl rfl (o_ldt_pt rfl rfl rfl rfl rfl) ?_ | (first
    | refine wC_a rfl ?_
    | refine q_s rfl ?_
    | refine q_b rfl ?_
    | refine wG_nil ?_
    | refine wG_g rfl ?_
    | refine wG_pure (o_len_vwm rfl) ?_
    | refine wG_pure (o_not_d rfl) ?_
    | refine wG_p rfl (by first | exact rfl | omega) ?_
    | refine wG_pure (o_str2 rfl rfl rfl) ?_
    | refine wG_pure (e_istr rfl rfl (by omega)) ?_
    | refine wG_pure (e_istr0 rfl rfl (by omega)) ?_
    | refine wG_pure (o_not rfl) ?_
    | refine wG_pure (e_ia_vw0 rfl rfl (by omega) rfl) ?_
    | refine wG_pure (e_ia_vwp rfl rfl (by omega) rfl) ?_
    | refine wG_pure (e_ia_vwm rfl rfl (by omega) (by omega) rfl) ?_
    | refine wG_pure (e_ia_vwi rfl rfl (by omega) rfl) ?_
    | refine wG_pure (e_ia_vwn rfl rfl (by omega) (by omega) rfl) ?_
    | refine wG_n rfl rfl ?_
    | refine wG_u rfl rfl ?_
    | refine wG_new (o_mks rfl rfl (by omega) (by decide)) ?_))
    repeat (first | refine wE_call1 cC rfl rfl rfl ?_ | (first
    | refine wE_nil (by kernel_rfl) ?_
    | refine wE_gy rfl ?_
    | refine wE_gn rfl rfl rfl ?_
    | refine wE_gu rfl rfl ?_
    | refine wE_gnn rfl rfl rfl ?_
    | refine wE_v (o_len_vwm rfl) rfl ?_
    | refine wE_v (o_not_d rfl) rfl ?_
    | refine wE_p rfl (by first | exact rfl | omega) rfl ?_
    | refine wE_v (o_str2 rfl rfl rfl) rfl ?_
    | refine wE_v (e_istr rfl rfl (by omega)) rfl ?_
    | refine wE_v (e_istr0 rfl rfl (by omega)) rfl ?_
    | refine wE_v (o_not rfl) rfl ?_
    | refine wE_v (e_ia_vw0 rfl rfl (by omega) rfl) rfl ?_
    | refine wE_v (e_ia_vwp rfl rfl (by omega) rfl) rfl ?_
    | refine wE_v (e_ia_vwm rfl rfl (by omega) (by omega) rfl) rfl ?_
    | refine wE_v (e_ia_vwi rfl rfl (by omega) rfl) rfl ?_
    | refine wE_v (e_ia_vwn rfl rfl (by omega) (by omega) rfl) rfl ?_
    | refine wE_n rfl rfl rfl ?_
    | refine wE_u rfl rfl rfl ?_
    | refine wE_new (o_mks rfl rfl (by omega) (by decide)) rfl ?_))
    have hw5 : wfH [(4, some (es.map tRow)), (3, some [tRow (es.getD i default)]), (3, some [zD]), (2, some ((dec r es i).map iRow)), (1, some ((tgL r es r.cs.length).map vRow)), (0, some [rRow a b r])] 5 := wfH_cons (by decide) (ltrT _ _) (wfH_cons (by decide) (ltrT [es.getD i default] _) (wfH_cons (by decide) (ltrT [(⟨0, 0, 0⟩ : Dt)] _) (wfH_cons (by decide) (ltrI _ _) (wfH_cons (by decide) (ltrV _ _) (wfH_cons (by decide) (by simp [rRow, AV.ltr]) wfH_nil)))))
    have sD := sh36 es h3 hi2 (r := 4) rfl hw5
    refine ⟨rfl, _, _, _, sD, rfl, o_ldt_pt rfl rfl rfl rfl rfl, ?_⟩
    refine wE_call1 cP (ag_any rfl (ag_del hi2 rfl hg_here ag_nil)) rfl rfl ?_
    repeat (first
    | refine wE_nil (by kernel_rfl) ?_
    | refine wE_gy rfl ?_
    | refine wE_gn rfl rfl rfl ?_
    | refine wE_gu rfl rfl ?_
    | refine wE_gnn rfl rfl rfl ?_
    | refine wE_v (o_len_vwm rfl) rfl ?_
    | refine wE_v (o_not_d rfl) rfl ?_
    | refine wE_p rfl (by first | exact rfl | omega) rfl ?_
    | refine wE_v (o_str2 rfl rfl rfl) rfl ?_
    | refine wE_v (e_istr rfl rfl (by omega)) rfl ?_
    | refine wE_v (e_istr0 rfl rfl (by omega)) rfl ?_
    | refine wE_v (o_not rfl) rfl ?_
    | refine wE_v (e_ia_vw0 rfl rfl (by omega) rfl) rfl ?_
    | refine wE_v (e_ia_vwp rfl rfl (by omega) rfl) rfl ?_
    | refine wE_v (e_ia_vwm rfl rfl (by omega) (by omega) rfl) rfl ?_
    | refine wE_v (e_ia_vwi rfl rfl (by omega) rfl) rfl ?_
    | refine wE_v (e_ia_vwn rfl rfl (by omega) (by omega) rfl) rfl ?_
    | refine wE_n rfl rfl rfl ?_
    | refine wE_u rfl rfl rfl ?_
    | refine wE_new (o_mks rfl rfl (by omega) (by decide)) rfl ?_)
    repeat (first | refine wG_call cQ (ag_sl rfl rfl (by simp [tgL]) vRow_plain (ag_sl rfl hg_here (by simp [tgL]) vRow_plain ag_nil)) rfl ?_ | (first
    | refine wC_a rfl ?_
    | refine q_s rfl ?_
    | refine q_b rfl ?_
    | refine wG_nil ?_
    | refine wG_g rfl ?_
    | refine wG_pure (o_len_vwm rfl) ?_
    | refine wG_pure (o_not_d rfl) ?_
    | refine wG_p rfl (by first | exact rfl | omega) ?_
    | refine wG_pure (o_str2 rfl rfl rfl) ?_
    | refine wG_pure (e_istr rfl rfl (by omega)) ?_
    | refine wG_pure (e_istr0 rfl rfl (by omega)) ?_
    | refine wG_pure (o_not rfl) ?_
    | refine wG_pure (e_ia_vw0 rfl rfl (by omega) rfl) ?_
    | refine wG_pure (e_ia_vwp rfl rfl (by omega) rfl) ?_
    | refine wG_pure (e_ia_vwm rfl rfl (by omega) (by omega) rfl) ?_
    | refine wG_pure (e_ia_vwi rfl rfl (by omega) rfl) ?_
    | refine wG_pure (e_ia_vwn rfl rfl (by omega) (by omega) rfl) ?_
    | refine wG_n rfl rfl ?_
    | refine wG_u rfl rfl ?_
    | refine wG_new (o_mks rfl rfl (by omega) (by decide)) ?_))
    cases bb
    · have hd : dif r es i := fun e => by have := hbb.2 e.symm; cases this
      have hup := dec_y hd
      repeat (first
    | refine wC_a rfl ?_
    | refine q_s rfl ?_
    | refine q_b rfl ?_
    | refine wG_nil ?_
    | refine wG_g rfl ?_
    | refine wG_pure (o_len_vwm rfl) ?_
    | refine wG_pure (o_not_d rfl) ?_
    | refine wG_p rfl (by first | exact rfl | omega) ?_
    | refine wG_pure (o_str2 rfl rfl rfl) ?_
    | refine wG_pure (e_istr rfl rfl (by omega)) ?_
    | refine wG_pure (e_istr0 rfl rfl (by omega)) ?_
    | refine wG_pure (o_not rfl) ?_
    | refine wG_pure (e_ia_vw0 rfl rfl (by omega) rfl) ?_
    | refine wG_pure (e_ia_vwp rfl rfl (by omega) rfl) ?_
    | refine wG_pure (e_ia_vwm rfl rfl (by omega) (by omega) rfl) ?_
    | refine wG_pure (e_ia_vwi rfl rfl (by omega) rfl) ?_
    | refine wG_pure (e_ia_vwn rfl rfl (by omega) (by omega) rfl) ?_
    | refine wG_n rfl rfl ?_
    | refine wG_u rfl rfl ?_
    | refine wG_new (o_mks rfl rfl (by omega) (by decide)) ?_)
      refine wG_app (new := [iRow (es.getD i default).n]) rfl rfl (by simp) (rows_sl rfl hg_here rfl) (by simp) (by simp; omega) (by decide) ?_
      repeat (first
    | refine wC_a rfl ?_
    | refine q_s rfl ?_
    | refine q_b rfl ?_
    | refine wG_nil ?_
    | refine wG_g rfl ?_
    | refine wG_pure (o_len_vwm rfl) ?_
    | refine wG_pure (o_not_d rfl) ?_
    | refine wG_p rfl (by first | exact rfl | omega) ?_
    | refine wG_pure (o_str2 rfl rfl rfl) ?_
    | refine wG_pure (e_istr rfl rfl (by omega)) ?_
    | refine wG_pure (e_istr0 rfl rfl (by omega)) ?_
    | refine wG_pure (o_not rfl) ?_
    | refine wG_pure (e_ia_vw0 rfl rfl (by omega) rfl) ?_
    | refine wG_pure (e_ia_vwp rfl rfl (by omega) rfl) ?_
    | refine wG_pure (e_ia_vwm rfl rfl (by omega) (by omega) rfl) ?_
    | refine wG_pure (e_ia_vwi rfl rfl (by omega) rfl) ?_
    | refine wG_pure (e_ia_vwn rfl rfl (by omega) (by omega) rfl) ?_
    | refine wG_n rfl rfl ?_
    | refine wG_u rfl rfl ?_
    | refine wG_new (o_mks rfl rfl (by omega) (by decide)) ?_)
      refine ⟨i + 1, hi2, by omega, .inr ⟨fun x => if x = 2 then 7 else x, LeR_of ⟨⟨rfl, rfl⟩, ⟨rfl, rfl⟩, ⟨rfl, rfl⟩, ⟨by rw [hup, List.length_append]; rfl, rfl⟩, ⟨rfl, rfl⟩, ⟨rfl, rfl⟩, ⟨rfl, rfl⟩, trivial⟩ (fun x rows hq => ?_) (hwf _) (fun x x' a1 a2 a3 => ?_)⟩⟩
      · rw [hup] at hq
        rcases hg_3' hq with ⟨rfl, rfl⟩ | ⟨rfl, rfl⟩ | ⟨rfl, rfl⟩
        · rw [← rn_rows (rowsP _), List.map_append]
          rfl
        · rw [← rn_rows (vRowsD _)]
          rfl
        · rfl
      · have b1 : x < 3 := a1
        have b2 : x' < 3 := a2
        split at a3 <;> split at a3 <;> omega
    · have hd : ¬ dif r es i := fun h => h (hbb.1 rfl).symm
      have hup := dec_n hd
      repeat (first
    | refine wC_a rfl ?_
    | refine q_s rfl ?_
    | refine q_b rfl ?_
    | refine wG_nil ?_
    | refine wG_g rfl ?_
    | refine wG_pure (o_len_vwm rfl) ?_
    | refine wG_pure (o_not_d rfl) ?_
    | refine wG_p rfl (by first | exact rfl | omega) ?_
    | refine wG_pure (o_str2 rfl rfl rfl) ?_
    | refine wG_pure (e_istr rfl rfl (by omega)) ?_
    | refine wG_pure (e_istr0 rfl rfl (by omega)) ?_
    | refine wG_pure (o_not rfl) ?_
    | refine wG_pure (e_ia_vw0 rfl rfl (by omega) rfl) ?_
    | refine wG_pure (e_ia_vwp rfl rfl (by omega) rfl) ?_
    | refine wG_pure (e_ia_vwm rfl rfl (by omega) (by omega) rfl) ?_
    | refine wG_pure (e_ia_vwi rfl rfl (by omega) rfl) ?_
    | refine wG_pure (e_ia_vwn rfl rfl (by omega) (by omega) rfl) ?_
    | refine wG_n rfl rfl ?_
    | refine wG_u rfl rfl ?_
    | refine wG_new (o_mks rfl rfl (by omega) (by decide)) ?_)
      refine ⟨i + 1, hi2, by omega, .inl (Le_of ⟨⟨rfl, rfl⟩, ⟨rfl, rfl⟩, ⟨rfl, rfl⟩, ⟨by rw [hup]; rfl, rfl⟩, ⟨rfl, rfl⟩, ⟨rfl, rfl⟩, ⟨rfl, rfl⟩, trivial⟩ (fun x rows hq => ?_) (hwf _))⟩
      rw [hup] at hq
      rcases hg_3' hq with ⟨rfl, rfl⟩ | ⟨rfl, rfl⟩ | ⟨rfl, rfl⟩ <;> rfl
  · have hi3 : i = es.length := by omega
    subst hi3
    repeat (first
    | refine wC_a rfl ?_
    | refine q_s rfl ?_
    | refine q_b rfl ?_
    | refine wG_nil ?_
    | refine wG_g rfl ?_
    | refine wG_pure (o_len_vwm rfl) ?_
    | refine wG_pure (o_not_d rfl) ?_
    | refine wG_p rfl (by first | exact rfl | omega) ?_
    | refine wG_pure (o_str2 rfl rfl rfl) ?_
    | refine wG_pure (e_istr rfl rfl (by omega)) ?_
    | refine wG_pure (e_istr0 rfl rfl (by omega)) ?_
    | refine wG_pure (o_not rfl) ?_
    | refine wG_pure (e_ia_vw0 rfl rfl (by omega) rfl) ?_
    | refine wG_pure (e_ia_vwp rfl rfl (by omega) rfl) ?_
    | refine wG_pure (e_ia_vwm rfl rfl (by omega) (by omega) rfl) ?_
    | refine wG_pure (e_ia_vwi rfl rfl (by omega) rfl) ?_
    | refine wG_pure (e_ia_vwn rfl rfl (by omega) (by omega) rfl) ?_
    | refine wG_n rfl rfl ?_
    | refine wG_u rfl rfl ?_
    | refine wG_new (o_mks rfl rfl (by omega) (by decide)) ?_)
    exact ret_sb (.inr rfl) rfl ⟨_, retV_mv rfl, retV_mv rfl, rfl⟩ rfl
end Go.Proofs.Ytencmeleapmjnaa.Rec
