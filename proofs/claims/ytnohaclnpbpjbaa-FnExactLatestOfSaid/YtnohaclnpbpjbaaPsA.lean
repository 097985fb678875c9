/- Scaled weights made into distributions: both sides. -/
import Derived.Test.YtnohaclnpbpjbaaMkdB
import Derived.Test.YtnohaclnpbpjbaaMkdC
import Derived.Test.YtnohaclnpbpjbaaPmT
namespace Go.Proofs.Ytnohaclnpbpjbaa.Dst
open Go Go.Proofs.Ytnohaclnpbpjbaa.Ab Go.Proofs.Ytnohaclnpbpjbaa.Il
attribute [local irreducible] wpO wpC wpDr wpQ wpG wpE stepA seqQ blkQ Ret ev
set_option maxRecDepth 10000
set_option maxHeartbeats 8000000
set_option linter.unusedSimpArgs false
set_option linter.unusedVariables false

def ac53 : AC := (.seq (.reg [⟨(some 4), none, (.alloc [(.int .i64 0), .nilS])⟩, ⟨(some 5), none, (.mv (.c (.bool false)))⟩]) (.seq (.reg [⟨(some 6), none, (.mv (.c (.int .i64 1)))⟩]) (.seq (.seq (.reg [⟨(some 7), none, (.mv (.c (.int .i64 0)))⟩]) (.blk 0 (.loop (.seq (.seq (.reg [⟨(some 11), none, (.mv (.t 7))⟩, ⟨(some 12), none, (.mv (.t 1))⟩, ⟨(some 13), none, (.len (.t 12))⟩, ⟨(some 14), none, (.bin .lss (.t 11) (.t 13))⟩]) (.cond (.t 14) .skip (.exit 0))) (.seq (.blk 1 (.reg [⟨(some 17), none, (.mv (.t 6))⟩, ⟨(some 18), none, (.mv (.t 1))⟩, ⟨(some 19), none, (.mv (.t 7))⟩, ⟨(some 20), none, (.ia 1 (.t 18) (.t 19))⟩, ⟨(some 21), none, (.ld false 1 (.t 20))⟩, ⟨(some 22), none, (.call 51 [(.t 17), (.t 21)])⟩, ⟨(some 6), none, (.mv (.t 22))⟩])) (.reg [⟨(some 15), none, (.mv (.t 7))⟩, ⟨(some 16), none, (.bin .add (.t 15) (.c (.int .i64 1)))⟩, ⟨(some 7), none, (.mv (.t 16))⟩])))))) (.seq (.reg [⟨(some 23), none, (.mv (.t 6))⟩, ⟨(some 24), none, (.bin .sub (.t 23) (.c (.int .i64 1)))⟩, ⟨(some 25), none, (.bin .quo (.t 24) (.c (.int .i64 1000000)))⟩, ⟨(some 26), none, (.bin .add (.t 25) (.c (.int .i64 1)))⟩, ⟨(some 8), none, (.mv (.t 26))⟩]) (.seq (.reg [⟨(some 27), none, (.bsl 1 [(.int .i64 0)] 0 [])⟩, ⟨(some 9), none, (.mv (.t 27))⟩]) (.seq (.seq (.reg [⟨(some 10), none, (.mv (.c (.int .i64 0)))⟩]) (.blk 2 (.loop (.seq (.seq (.reg [⟨(some 28), none, (.mv (.t 10))⟩, ⟨(some 29), none, (.mv (.t 1))⟩, ⟨(some 30), none, (.len (.t 29))⟩, ⟨(some 31), none, (.bin .lss (.t 28) (.t 30))⟩]) (.cond (.t 31) .skip (.exit 2))) (.seq (.blk 3 (.reg [⟨(some 34), none, (.mv (.t 9))⟩, ⟨(some 35), none, (.mv (.t 1))⟩, ⟨(some 36), none, (.mv (.t 10))⟩, ⟨(some 37), none, (.ia 1 (.t 35) (.t 36))⟩, ⟨(some 38), none, (.ld false 1 (.t 37))⟩, ⟨(some 39), none, (.mv (.t 8))⟩, ⟨(some 40), none, (.bin .quo (.t 38) (.t 39))⟩, ⟨(some 41), none, (.bsl 1 [(.int .i64 0)] 1 [(0, (.t 40))])⟩, ⟨(some 42), none, (.app 1 8 [(.int .i64 0)] (.t 34) (.t 41))⟩, ⟨(some 9), none, (.mv (.t 42))⟩])) (.reg [⟨(some 32), none, (.mv (.t 10))⟩, ⟨(some 33), none, (.bin .add (.t 32) (.c (.int .i64 1)))⟩, ⟨(some 10), none, (.mv (.t 33))⟩])))))) (.seq (.reg [⟨(some 43), none, (.mv (.t 0))⟩, ⟨(some 44), none, (.mv (.t 9))⟩, ⟨(some 45), none, (.call 89 [(.t 43), (.t 44)])⟩, ⟨(some 46), none, (.ext (.t 45) 0)⟩, ⟨(some 47), none, (.ext (.t 45) 1)⟩, ⟨none, none, (.st 2 (.t 4) (.t 46))⟩, ⟨(some 5), none, (.mv (.t 47))⟩]) .ret)))))))
def ro53 : List AOp := [(.ld true 2 (.t 4)), (.mv (.t 5))]
theorem fun53 : Fun Try.prog 53 48 ac53 ro53 := ⟨Try.f53, _, Try.func53, by kernel_rfl, rfl, rfl, by kernel_rfl, by kernel_rfl, by decide⟩
def ac56 : AC := (.seq (.reg [⟨(some 4), none, (.alloc [(.int .i64 0), .nilS])⟩, ⟨(some 5), none, (.mv (.c (.bool false)))⟩]) (.seq (.reg [⟨(some 10), none, (.mv (.t 1))⟩, ⟨(some 11), none, (.call 91 [(.t 10)])⟩, ⟨(some 12), none, (.bin .sub (.t 11) (.c (.int .i64 1)))⟩, ⟨(some 13), none, (.bin .quo (.t 12) (.c (.int .i64 1000000)))⟩, ⟨(some 14), none, (.bin .add (.t 13) (.c (.int .i64 1)))⟩, ⟨(some 6), none, (.mv (.t 14))⟩]) (.seq (.reg [⟨(some 15), none, (.bsl 1 [(.int .i64 0)] 0 [])⟩, ⟨(some 7), none, (.mv (.t 15))⟩]) (.seq (.seq (.reg [⟨(some 16), none, (.mv (.t 1))⟩, ⟨(some 17), none, (.len (.t 16))⟩, ⟨(some 18), none, (.mv (.c (.int .i64 0)))⟩]) (.blk 0 (.loop (.seq (.reg [⟨(some 19), none, (.bin .lss (.t 18) (.t 17))⟩]) (.seq (.cond (.t 19) .skip (.exit 0)) (.seq (.blk 1 (.seq (.reg [⟨(some 20), none, (.ia 1 (.t 16) (.t 18))⟩, ⟨(some 21), none, (.ld false 1 (.t 20))⟩, ⟨(some 9), none, (.mv (.t 21))⟩]) (.reg [⟨(some 22), none, (.mv (.t 7))⟩, ⟨(some 23), none, (.mv (.t 9))⟩, ⟨(some 24), none, (.mv (.t 6))⟩, ⟨(some 25), none, (.bin .quo (.t 23) (.t 24))⟩, ⟨(some 26), none, (.bsl 1 [(.int .i64 0)] 1 [(0, (.t 25))])⟩, ⟨(some 27), none, (.app 1 8 [(.int .i64 0)] (.t 22) (.t 26))⟩, ⟨(some 7), none, (.mv (.t 27))⟩]))) (.reg [⟨(some 28), none, (.bin .add (.t 18) (.c (.int .i64 1)))⟩, ⟨(some 18), none, (.mv (.t 28))⟩]))))))) (.seq (.reg [⟨(some 29), none, (.mv (.t 0))⟩, ⟨(some 30), none, (.mv (.t 7))⟩, ⟨(some 31), none, (.call 92 [(.t 29), (.t 30)])⟩, ⟨(some 32), none, (.ext (.t 31) 0)⟩, ⟨(some 33), none, (.ext (.t 31) 1)⟩, ⟨none, none, (.st 2 (.t 4) (.t 32))⟩, ⟨(some 5), none, (.mv (.t 33))⟩]) .ret)))))
def ro56 : List AOp := [(.ld true 2 (.t 4)), (.mv (.t 5))]
theorem fun56 : Fun Try.prog 56 34 ac56 ro56 := ⟨Try.f56, _, Try.func56, by kernel_rfl, rfl, rfl, by kernel_rfl, by kernel_rfl, by decide⟩
def ac91 : AC := (.seq (.reg [⟨(some 2), none, (.mv (.c (.int .i64 0)))⟩]) (.seq (.seq (.reg [⟨(some 5), none, (.mv (.t 0))⟩, ⟨(some 6), none, (.len (.t 5))⟩, ⟨(some 7), none, (.bin .lss (.t 6) (.c (.int .i64 1)))⟩]) (.cond (.t 7) (.cond (.c .undef) .skip .skip) .skip)) (.seq (.reg [⟨(some 9), none, (.mv (.t 0))⟩, ⟨(some 10), none, (.ia 1 (.t 9) (.c (.int .i64 0)))⟩, ⟨(some 11), none, (.ld false 1 (.t 10))⟩, ⟨(some 3), none, (.mv (.t 11))⟩]) (.seq (.seq (.reg [⟨(some 4), none, (.mv (.c (.int .i64 1)))⟩]) (.blk 0 (.loop (.seq (.seq (.reg [⟨(some 12), none, (.mv (.t 4))⟩, ⟨(some 13), none, (.mv (.t 0))⟩, ⟨(some 14), none, (.len (.t 13))⟩, ⟨(some 15), none, (.bin .lss (.t 12) (.t 14))⟩]) (.cond (.t 15) .skip (.exit 0))) (.seq (.blk 1 (.reg [⟨(some 18), none, (.mv (.t 3))⟩, ⟨(some 19), none, (.mv (.t 0))⟩, ⟨(some 20), none, (.mv (.t 4))⟩, ⟨(some 21), none, (.ia 1 (.t 19) (.t 20))⟩, ⟨(some 22), none, (.ld false 1 (.t 21))⟩, ⟨(some 23), none, (.mx (.t 18) (.t 22))⟩, ⟨(some 3), none, (.mv (.t 23))⟩])) (.reg [⟨(some 16), none, (.mv (.t 4))⟩, ⟨(some 17), none, (.bin .add (.t 16) (.c (.int .i64 1)))⟩, ⟨(some 4), none, (.mv (.t 17))⟩])))))) (.seq (.reg [⟨(some 24), none, (.mv (.t 3))⟩, ⟨(some 2), none, (.mv (.t 24))⟩]) .ret)))))
def ro91 : List AOp := [(.mv (.t 2))]
theorem fun91 : Fun Try.prog 91 25 ac91 ro91 := ⟨Try.f91, _, Try.func91, by kernel_rfl, rfl, rfl, by kernel_rfl, by kernel_rfl, by decide⟩
def ac92 : AC := (.seq (.reg [⟨(some 4), none, (.alloc [(.int .i64 0), .nilS])⟩, ⟨(some 5), none, (.mv (.c (.bool false)))⟩]) (.seq (.seq (.reg [⟨(some 6), none, (.mv (.t 0))⟩, ⟨(some 7), none, (.call 41 [(.t 6)])⟩, ⟨(some 8), none, (.un .not (.t 7))⟩, ⟨(some 9), none, (.mv (.t 8))⟩, ⟨(some 10), (some (9, false)), (.mv (.t 1))⟩, ⟨(some 11), (some (9, false)), (.len (.t 10))⟩, ⟨(some 12), (some (9, false)), (.bin .gtr (.t 11) (.c (.int .i64 200)))⟩, ⟨(some 13), none, (.pick (.t 9) (.c (.bool true)) (.t 12))⟩, ⟨(some 14), none, (.mv (.t 13))⟩, ⟨(some 15), (some (14, false)), (.mv (.t 1))⟩, ⟨(some 16), (some (14, false)), (.call 82 [(.t 15), (.c (.fn 102 []))])⟩, ⟨(some 17), none, (.pick (.t 14) (.c (.bool true)) (.t 16))⟩]) (.cond (.t 17) (.seq (.reg [⟨(some 18), none, (.build [(.int .i64 0), .nilS] [])⟩, ⟨none, none, (.st 2 (.t 4) (.t 18))⟩, ⟨(some 5), none, (.mv (.c (.bool false)))⟩]) .ret) .skip)) (.seq (.reg [⟨(some 19), none, (.mv (.t 0))⟩, ⟨(some 20), none, (.mv (.t 1))⟩, ⟨(some 21), none, (.call 103 [(.t 19), (.t 20)])⟩, ⟨(some 22), none, (.ext (.t 21) 0)⟩, ⟨(some 23), none, (.ext (.t 21) 1)⟩, ⟨none, none, (.st 2 (.t 4) (.t 22))⟩, ⟨(some 5), none, (.mv (.t 23))⟩]) .ret)))
def ro92 : List AOp := [(.ld true 2 (.t 4)), (.mv (.t 5))]
theorem fun92 : Fun Try.prog 92 24 ac92 ro92 := ⟨Try.f92, _, Try.func92, by kernel_rfl, rfl, rfl, by kernel_rfl, by kernel_rfl, by decide⟩
def ac102 : AC := (.seq (.reg [⟨(some 2), none, (.mv (.c (.bool false)))⟩]) (.seq (.reg [⟨(some 3), none, (.mv (.t 0))⟩, ⟨(some 4), none, (.call 42 [(.t 3), (.c (.int .i64 0)), (.c (.int .i64 1000000000000))])⟩, ⟨(some 5), none, (.un .not (.t 4))⟩, ⟨(some 2), none, (.mv (.t 5))⟩]) .ret))
def ro102 : List AOp := [(.mv (.t 2))]
theorem fun102 : Fun Try.prog 102 6 ac102 ro102 := ⟨Try.f102, _, Try.func102, by kernel_rfl, rfl, rfl, by kernel_rfl, by kernel_rfl, by decide⟩

def mYes (d : Ds) : AV := .tup [.agg [.int .i64 d.f, .sl 0 1 0 d.ws.length], .bool true]
def mNo : AV := .tup [.agg [.int .i64 0, .nilS], .bool false]
theorem con89_Y (nn : Bool) (first : Int) (ws : List Int) (hlen : ws.length ≤ 100000) {B : Int} (hb : bnd ws B) (hB : B ≤ 9000000000000000000) (hf1 : -1000000 ≤ first) (hf2 : first ≤ 1000000) (h : mkOK first ws) : Con Try.prog 89 true [.int .i64 first, .vw nn (ws.map iRow)] (mYes (mkO first ws)) [(mkO first ws).ws.map iRow] :=
  con89_all nn first ws hlen hb hB hf1 hf2 _ [2] _ rfl (plain_map iRow_plain _) ⟨fun _ => ⟨rfl, rfl, rfl⟩, fun hn => absurd h hn⟩
theorem con89_N (nn : Bool) (first : Int) (ws : List Int) (hlen : ws.length ≤ 100000) {B : Int} (hb : bnd ws B) (hB : B ≤ 9000000000000000000) (hf1 : -1000000 ≤ first) (hf2 : first ≤ 1000000) (h : ¬ mkOK first ws) : Con Try.prog 89 true [.int .i64 first, .vw nn (ws.map iRow)] mNo [] :=
  con89_all nn first ws hlen hb hB hf1 hf2 _ [] _ rfl plain_nil ⟨fun hy => absurd hy h, fun _ => ⟨rfl, rfl, rfl⟩⟩
theorem con103_Y (nn : Bool) (first : Int) (ws : List Int) (hlen : ws.length ≤ 100000) {B : Int} (hb : bnd ws B) (hB : B ≤ 9000000000000000000) (hf1 : -1000000 ≤ first) (hf2 : first ≤ 1000000) (h : mkOK first ws) : Con Try.prog 103 true [.int .i64 first, .vw nn (ws.map iRow)] (mYes (mkO first ws)) [(mkO first ws).ws.map iRow] :=
  con103_all nn first ws hlen hb hB hf1 hf2 _ [2] _ rfl (plain_map iRow_plain _) ⟨fun _ => ⟨rfl, rfl, rfl⟩, fun hn => absurd h hn⟩
theorem con103_N (nn : Bool) (first : Int) (ws : List Int) (hlen : ws.length ≤ 100000) {B : Int} (hb : bnd ws B) (hB : B ≤ 9000000000000000000) (hf1 : -1000000 ≤ first) (hf2 : first ≤ 1000000) (h : ¬ mkOK first ws) : Con Try.prog 103 true [.int .i64 first, .vw nn (ws.map iRow)] mNo [] :=
  con103_all nn first ws hlen hb hB hf1 hf2 _ [] _ rfl plain_nil ⟨fun hy => absurd hy h, fun _ => ⟨rfl, rfl, rfl⟩⟩
def okT (w : Int) : Prop := 0 ≤ w ∧ w ≤ 1000000000000
instance (w : Int) : Decidable (okT w) := by unfold okT; infer_instance
def mdIn (first : Int) (ws : List Int) : Prop := ((-20000 ≤ first ∧ first ≤ 2100) ∧ ws.length ≤ 200) ∧ ∀ j, j < ws.length → okT (ws.getD j default)
theorem mdIn.bnd {first : Int} {ws : List Int} (h : mdIn first ws) : bnd ws 1000000000000 := h.2
theorem con102 (w : Int) : Con Try.prog 102 true [.int .i64 w] (.bool (!decide (okT w))) [] := by
  refine con_of_wp mixed fun102 (by simp) [] plain_nil ?_
  unfold ac102 ro102
  simp only [zipT]
  repeat (first | refine wG_call (con42 _ _ _) rfl rfl ?_ | (first
    | refine wC_a rfl ?_
    | refine q_s rfl ?_
    | refine q_b rfl ?_
    | refine wG_nil ?_
    | refine wG_g rfl ?_
    | refine wG_pure (o_len_vwm rfl) ?_
    | refine wG_pure (o_not_d rfl) ?_
    | refine wG_p rfl (by first | exact rfl | omega) ?_
    | refine wG_pure (o_str2 rfl rfl rfl) ?_
    | refine wG_pure (e_istr rfl rfl (by omega)) ?_
    | refine wG_pure (e_istr0 rfl rfl (by omega)) ?_
    | refine wG_pure (o_not rfl) ?_
    | refine wG_pure (e_ia_vw0 rfl rfl (by omega) rfl) ?_
    | refine wG_pure (e_ia_vwp rfl rfl (by omega) rfl) ?_
    | refine wG_pure (e_ia_vwm rfl rfl (by omega) (by omega) rfl) ?_
    | refine wG_pure (e_ia_vwi rfl rfl (by omega) rfl) ?_
    | refine wG_pure (e_ia_vwn rfl rfl (by omega) (by omega) rfl) ?_
    | refine wG_n rfl rfl ?_
    | refine wG_u rfl rfl ?_
    | refine wG_new (o_mks rfl rfl (by omega) (by decide)) ?_))
  refine ret_boolE (.inr rfl) ⟨_, retV_mv rfl, ?_⟩
  unfold okT
  by_cases h : 0 ≤ w ∧ w ≤ 1000000000000 <;> simp [h]
theorem any_not (p : Int → Prop) [DecidablePred p] (ws : List Int) : ws.any (fun w => !decide (p w)) = true ↔ ¬ ∀ j, j < ws.length → p (ws.getD j default) := by
  rw [List.any_eq_true]
  constructor
  · rintro ⟨x, hx, hp⟩ hall
    obtain ⟨j, hj, rfl⟩ := List.getElem_of_mem hx
    have := hall j hj
    simp [List.getD_eq_getElem?_getD, List.getElem?_eq_getElem hj] at this
    simp [this] at hp
  · intro h
    refine Classical.byContradiction fun hn => h fun j hj => ?_
    refine Classical.byContradiction fun hk => hn ⟨_, getD_mem' ws hj, by show (!decide (p (ws.getD j default))) = true; rw [decide_eq_false hk]; rfl⟩
theorem con92_all (nn : Bool) (first : Int) (ws : List Int) (hlen : ws.length ≤ 1048576) (hin : mdIn first ws) :
    (mkOK first ws → Con Try.prog 92 true [.int .i64 first, .vw nn (ws.map iRow)] (mYes (mkO first ws)) [(mkO first ws).ws.map iRow]) ∧ (¬ mkOK first ws → Con Try.prog 92 true [.int .i64 first, .vw nn (ws.map iRow)] mNo []) := by
  have cany := con82 nn ws hlen (caps := []) (fun w => !decide (okT w)) con102 (fun _ _ => rfl) rfl
  have h1 := hin.1
  have ha : ws.any (fun w => !decide (okT w)) = false := by
    rw [← Bool.not_eq_true]
    exact fun h => (any_not okT ws).1 h hin.2
  rw [ha] at cany
  constructor
  · intro hm
    refine con_of_wp mixed fun92 (by simp) [1] (plain_map iRow_plain _) ?_
    unfold ac92 ro92
    simp only [zipT]
    have c := con103_Y nn first ws (by omega) hin.bnd (by decide) (by omega) (by omega) hm
    unfold mYes at *
    repeat' (first | refine wG_call (con41 _) rfl rfl ?_ | refine wG_call cany rfl rfl ?_ | refine wG_call1 c rfl rfl ?_ | (first
    | refine wC_a rfl ?_
    | refine q_s rfl ?_
    | refine q_b rfl ?_
    | refine wG_nil ?_
    | refine wG_g rfl ?_
    | refine wG_pure (o_len_vwm rfl) ?_
    | refine wG_pure (o_not_d rfl) ?_
    | refine wG_p rfl (by first | exact rfl | omega) ?_
    | refine wG_pure (o_str2 rfl rfl rfl) ?_
    | refine wG_pure (e_istr rfl rfl (by omega)) ?_
    | refine wG_pure (e_istr0 rfl rfl (by omega)) ?_
    | refine wG_pure (o_not rfl) ?_
    | refine wG_pure (e_ia_vw0 rfl rfl (by omega) rfl) ?_
    | refine wG_pure (e_ia_vwp rfl rfl (by omega) rfl) ?_
    | refine wG_pure (e_ia_vwm rfl rfl (by omega) (by omega) rfl) ?_
    | refine wG_pure (e_ia_vwi rfl rfl (by omega) rfl) ?_
    | refine wG_pure (e_ia_vwn rfl rfl (by omega) (by omega) rfl) ?_
    | refine wG_n rfl rfl ?_
    | refine wG_u rfl rfl ?_
    | refine wG_new (o_mks rfl rfl (by omega) (by decide)) ?_) | (refine wG_gd rfl (fun hgt => ?_) (fun hgf => ?_) <;> (first | simp only [eq_true hgt, decide_true] | simp only [eq_false hgf, decide_false])) | refine wC_cond_d rfl (fun hg => ?_) (fun hg => ?_))
    any_goals (exfalso; omega)
    exact ret_db (.inr rfl) rfl (retV_ldt rfl rfl rfl rfl rfl) (retV_mv rfl) rfl
  · intro hm
    refine con_of_wp mixed fun92 (by simp) [] plain_nil ?_
    unfold ac92 ro92
    simp only [zipT]
    have c := con103_N nn first ws (by omega) hin.bnd (by decide) (by omega) (by omega) hm
    unfold mNo at *
    repeat' (first | refine wG_call (con41 _) rfl rfl ?_ | refine wG_call cany rfl rfl ?_ | refine wG_call c rfl rfl ?_ | (first
    | refine wC_a rfl ?_
    | refine q_s rfl ?_
    | refine q_b rfl ?_
    | refine wG_nil ?_
    | refine wG_g rfl ?_
    | refine wG_pure (o_len_vwm rfl) ?_
    | refine wG_pure (o_not_d rfl) ?_
    | refine wG_p rfl (by first | exact rfl | omega) ?_
    | refine wG_pure (o_str2 rfl rfl rfl) ?_
    | refine wG_pure (e_istr rfl rfl (by omega)) ?_
    | refine wG_pure (e_istr0 rfl rfl (by omega)) ?_
    | refine wG_pure (o_not rfl) ?_
    | refine wG_pure (e_ia_vw0 rfl rfl (by omega) rfl) ?_
    | refine wG_pure (e_ia_vwp rfl rfl (by omega) rfl) ?_
    | refine wG_pure (e_ia_vwm rfl rfl (by omega) (by omega) rfl) ?_
    | refine wG_pure (e_ia_vwi rfl rfl (by omega) rfl) ?_
    | refine wG_pure (e_ia_vwn rfl rfl (by omega) (by omega) rfl) ?_
    | refine wG_n rfl rfl ?_
    | refine wG_u rfl rfl ?_
    | refine wG_new (o_mks rfl rfl (by omega) (by decide)) ?_) | (refine wG_gd rfl (fun hgt => ?_) (fun hgf => ?_) <;> (first | simp only [eq_true hgt, decide_true] | simp only [eq_false hgf, decide_false])) | refine wC_cond_d rfl (fun hg => ?_) (fun hg => ?_))
    any_goals (exfalso; omega)
    exact ret_d0 (.inr rfl) rfl (retV_ldt rfl rfl rfl rfl rfl) (retV_mv rfl)
/-! ### The greatest -/
def mxI (vs : List Int) : Nat → Int
  | 0 => vs.getD 0 default
  | i + 1 => max (mxI vs i) (vs.getD (i + 1) default)
theorem con91 (nn : Bool) (vs : List Int) (h0 : 0 < vs.length) (hl : vs.length ≤ 1048576) : Con Try.prog 91 true [.vw nn (vs.map iRow)] (.int .i64 (mxI vs (vs.length - 1))) [] := by
  refine con_of_wp mixed fun91 (by simp) [] plain_nil ?_
  unfold ac91 ro91
  simp only [zipT]
  repeat (first | (first
    | refine wC_a rfl ?_
    | refine q_s rfl ?_
    | refine q_b rfl ?_
    | refine wG_nil ?_
    | refine wG_g rfl ?_
    | refine wG_pure (o_len_vwm rfl) ?_
    | refine wG_pure (o_not_d rfl) ?_
    | refine wG_p rfl (by first | exact rfl | omega) ?_
    | refine wG_pure (o_str2 rfl rfl rfl) ?_
    | refine wG_pure (e_istr rfl rfl (by omega)) ?_
    | refine wG_pure (e_istr0 rfl rfl (by omega)) ?_
    | refine wG_pure (o_not rfl) ?_
    | refine wG_pure (e_ia_vw0 rfl rfl (by omega) rfl) ?_
    | refine wG_pure (e_ia_vwp rfl rfl (by omega) rfl) ?_
    | refine wG_pure (e_ia_vwm rfl rfl (by omega) (by omega) rfl) ?_
    | refine wG_pure (e_ia_vwi rfl rfl (by omega) rfl) ?_
    | refine wG_pure (e_ia_vwn rfl rfl (by omega) (by omega) rfl) ?_
    | refine wG_n rfl rfl ?_
    | refine wG_u rfl rfl ?_
    | refine wG_new (o_mks rfl rfl (by omega) (by decide)) ?_))
  refine wC_cond_d rfl (fun hg => ?_) (fun hg => ?_)
  · exfalso; omega
  repeat (first | (first
    | refine wC_a rfl ?_
    | refine q_s rfl ?_
    | refine q_b rfl ?_
    | refine wG_nil ?_
    | refine wG_g rfl ?_
    | refine wG_pure (o_len_vwm rfl) ?_
    | refine wG_pure (o_not_d rfl) ?_
    | refine wG_p rfl (by first | exact rfl | omega) ?_
    | refine wG_pure (o_str2 rfl rfl rfl) ?_
    | refine wG_pure (e_istr rfl rfl (by omega)) ?_
    | refine wG_pure (e_istr0 rfl rfl (by omega)) ?_
    | refine wG_pure (o_not rfl) ?_
    | refine wG_pure (e_ia_vw0 rfl rfl (by omega) rfl) ?_
    | refine wG_pure (e_ia_vwp rfl rfl (by omega) rfl) ?_
    | refine wG_pure (e_ia_vwm rfl rfl (by omega) (by omega) rfl) ?_
    | refine wG_pure (e_ia_vwi rfl rfl (by omega) rfl) ?_
    | refine wG_pure (e_ia_vwn rfl rfl (by omega) (by omega) rfl) ?_
    | refine wG_n rfl rfl ?_
    | refine wG_u rfl rfl ?_
    | refine wG_new (o_mks rfl rfl (by omega) (by decide)) ?_))
  refine wC_loop Nat (fun i => ⟨[(0, .vw nn (vs.map iRow)), (3, .int .i64 (mxI vs (i - 1))), (4, .int .i64 (i : Int))], [], 0⟩) (fun i => 1 ≤ i ∧ i ≤ vs.length) (fun i => vs.length - i) 1 ⟨Nat.le_refl _, h0⟩ ?_ (fun _ _ => Nat.le_refl _) ?_
  · exact ⟨⟨⟨rfl, rfl⟩, ⟨rfl, rfl⟩, ⟨rfl, rfl⟩, trivial⟩, trivial⟩
  rintro i ⟨hi0, hi⟩
  by_cases hi2 : i < vs.length
  · have e : mxI vs i = max (mxI vs (i - 1)) (vs.getD i default) := by
      obtain ⟨j, rfl⟩ : ∃ j, i = j + 1 := ⟨i - 1, by omega⟩
      rfl
    repeat' (first | (first
    | refine wC_a rfl ?_
    | refine q_s rfl ?_
    | refine q_b rfl ?_
    | refine wG_nil ?_
    | refine wG_g rfl ?_
    | refine wG_pure (o_len_vwm rfl) ?_
    | refine wG_pure (o_not_d rfl) ?_
    | refine wG_p rfl (by first | exact rfl | omega) ?_
    | refine wG_pure (o_str2 rfl rfl rfl) ?_
    | refine wG_pure (e_istr rfl rfl (by omega)) ?_
    | refine wG_pure (e_istr0 rfl rfl (by omega)) ?_
    | refine wG_pure (o_not rfl) ?_
    | refine wG_pure (e_ia_vw0 rfl rfl (by omega) rfl) ?_
    | refine wG_pure (e_ia_vwp rfl rfl (by omega) rfl) ?_
    | refine wG_pure (e_ia_vwm rfl rfl (by omega) (by omega) rfl) ?_
    | refine wG_pure (e_ia_vwi rfl rfl (by omega) rfl) ?_
    | refine wG_pure (e_ia_vwn rfl rfl (by omega) (by omega) rfl) ?_
    | refine wG_n rfl rfl ?_
    | refine wG_u rfl rfl ?_
    | refine wG_new (o_mks rfl rfl (by omega) (by decide)) ?_) | (refine wG_gd rfl (fun hgt => ?_) (fun hgf => ?_) <;> (first | simp only [eq_true hgt, decide_true] | simp only [eq_false hgf, decide_false])) | refine wC_cond_d rfl (fun hg => ?_) (fun hg => ?_))
    all_goals (try (exfalso; omega))
    refine ⟨i + 1, ⟨by omega, by omega⟩, by omega, ⟨⟨rfl, rfl⟩, ⟨?_, rfl⟩, ⟨rfl, rfl⟩, trivial⟩, trivial⟩
    rw [Nat.add_sub_cancel, e]; rfl
  · have hi3 : i = vs.length := by omega
    subst hi3
    repeat' (first | (first
    | refine wC_a rfl ?_
    | refine q_s rfl ?_
    | refine q_b rfl ?_
    | refine wG_nil ?_
    | refine wG_g rfl ?_
    | refine wG_pure (o_len_vwm rfl) ?_
    | refine wG_pure (o_not_d rfl) ?_
    | refine wG_p rfl (by first | exact rfl | omega) ?_
    | refine wG_pure (o_str2 rfl rfl rfl) ?_
    | refine wG_pure (e_istr rfl rfl (by omega)) ?_
    | refine wG_pure (e_istr0 rfl rfl (by omega)) ?_
    | refine wG_pure (o_not rfl) ?_
    | refine wG_pure (e_ia_vw0 rfl rfl (by omega) rfl) ?_
    | refine wG_pure (e_ia_vwp rfl rfl (by omega) rfl) ?_
    | refine wG_pure (e_ia_vwm rfl rfl (by omega) (by omega) rfl) ?_
    | refine wG_pure (e_ia_vwi rfl rfl (by omega) rfl) ?_
    | refine wG_pure (e_ia_vwn rfl rfl (by omega) (by omega) rfl) ?_
    | refine wG_n rfl rfl ?_
    | refine wG_u rfl rfl ?_
    | refine wG_new (o_mks rfl rfl (by omega) (by decide)) ?_) | (refine wG_gd rfl (fun hgt => ?_) (fun hgf => ?_) <;> (first | simp only [eq_true hgt, decide_true] | simp only [eq_false hgf, decide_false])) | refine wC_cond_d rfl (fun hg => ?_) (fun hg => ?_))
    all_goals (try (exfalso; omega))
    exact ret_intE (.inr rfl) ⟨_, retV_mv rfl, rfl⟩
theorem mxI_b {vs : List Int} {B : Int} (hb : bnd vs B) : ∀ i, i < vs.length → 0 ≤ mxI vs i ∧ mxI vs i ≤ B
  | 0, hi => hb 0 hi
  | i + 1, hi => by
    have h1 := mxI_b hb i (by omega)
    have h2 := hb (i + 1) hi
    show 0 ≤ max _ _ ∧ max _ _ ≤ B
    omega
theorem mxI_ge {vs : List Int} : ∀ i, ∀ j, j ≤ i → vs.getD j default ≤ mxI vs i
  | 0, j, hj => by
    obtain rfl : j = 0 := by omega
    exact Int.le_refl _
  | i + 1, j, hj => by
    show _ ≤ max _ _
    rcases Nat.lt_or_ge j (i + 1) with h | h
    · have := mxI_ge (vs := vs) i j (by omega)
      omega
    · obtain rfl : j = i + 1 := by omega
      omega
def moS (vs : List Int) : Nat → Int
  | 0 => 1
  | i + 1 => max (moS vs i) (vs.getD i default)
theorem moS_eq {vs : List Int} : ∀ i, moS vs (i + 1) = max 1 (mxI vs i)
  | 0 => rfl
  | i + 1 => by
    show max (moS vs (i + 1)) (vs.getD (i + 1) default) = max 1 (max (mxI vs i) (vs.getD (i + 1) default))
    rw [moS_eq i]
    omega
theorem moS_b {vs : List Int} {B : Int} (hb : bnd vs B) (hB : 1 ≤ B) : ∀ i, i ≤ vs.length → 1 ≤ moS vs i ∧ moS vs i ≤ B
  | 0, _ => ⟨Int.le_refl _, hB⟩
  | i + 1, hi => by
    have h1 := moS_b hb hB i (by omega)
    have h2 := hb i (by omega)
    show 1 ≤ max _ _ ∧ max _ _ ≤ B
    omega
/-- What the weights are divided by. -/
def scQ (vs : List Int) : Int := (moS vs vs.length - 1).tdiv 1000000 + 1
def scG (vs : List Int) (q : Int) (j : Nat) : Int := (vs.getD j default).tdiv q
def scO (vs : List Int) : List Int := lG vs.length (scG vs (scQ vs))
theorem scQ_eq {vs : List Int} {B : Int} (hb : bnd vs B) (h0 : 0 < vs.length) : (mxI vs (vs.length - 1) - 1).tdiv 1000000 + 1 = scQ vs := by
  have h1 := mxI_b hb (vs.length - 1) (by omega)
  have h2 := moS_eq (vs := vs) (vs.length - 1)
  rw [show vs.length - 1 + 1 = vs.length by omega] at h2
  unfold scQ
  rw [h2]
  by_cases h3 : mxI vs (vs.length - 1) = 0
  · rw [h3]; decide
  · rw [show max 1 (mxI vs (vs.length - 1)) = mxI vs (vs.length - 1) by omega]
theorem scQ_b {vs : List Int} {B : Int} (hb : bnd vs B) (hB : 1 ≤ B) (hB9 : B ≤ 9000000000000000000) : (0 ≤ (moS vs vs.length - 1).tdiv 1000000 ∧ (moS vs vs.length - 1).tdiv 1000000 ≤ 9000000000000) ∧ moS vs vs.length ≤ scQ vs * 1000000 := by
  have h1 := moS_b hb hB vs.length (Nat.le_refl _)
  unfold scQ
  rw [Int.tdiv_eq_ediv_of_nonneg (by omega)]
  omega
theorem scG_b {vs : List Int} {B : Int} (hb : bnd vs B) (hB : 1 ≤ B) (hB9 : B ≤ 9000000000000000000) {j : Nat} (hj : j < vs.length) : 0 ≤ scG vs (scQ vs) j ∧ scG vs (scQ vs) j ≤ 1000000 := by
  have h1 := scQ_b hb hB hB9
  have h2 := hb j hj
  have h3 := mxI_ge (vs := vs) (vs.length - 1) j (by omega)
  have h4 := moS_eq (vs := vs) (vs.length - 1)
  rw [show vs.length - 1 + 1 = vs.length by omega] at h4
  have hq : 1 ≤ scQ vs := by have := h1.1.1; unfold scQ; omega
  unfold scG
  rw [Int.tdiv_eq_ediv_of_nonneg h2.1]
  refine ⟨Int.ediv_nonneg h2.1 (by omega), ?_⟩
  have h5 : vs.getD j default ≤ scQ vs * 1000000 := by have := h1.2; omega
  have h6 := Int.ediv_le_ediv (c := scQ vs) (by omega) h5
  rw [Int.mul_ediv_cancel_left _ (by omega)] at h6
  exact h6
theorem scO_len (vs : List Int) : (scO vs).length = vs.length := lG_len _ _
theorem scO_b {vs : List Int} {B : Int} (hb : bnd vs B) (hB : 1 ≤ B) (hB9 : B ≤ 9000000000000000000) : bnd (scO vs) 1000000 := by
  intro j hj
  rw [scO_len] at hj
  rw [scO, lG_get hj]
  exact scG_b hb hB hB9 hj
theorem lG_up (y : Nat) (g : Nat → Int) : lG (y + 1) g = lG y g ++ [g y] := by simp [lG, List.range_succ]
theorem con53_all (nn : Bool) (first : Int) (vs : List Int) (hlen : vs.length ≤ 100000) {B : Int} (hb : bnd vs B) (hB : 1 ≤ B) (hB9 : B ≤ 9000000000000000000) (hf1 : -1000000 ≤ first) (hf2 : first ≤ 1000000) (v : AV) (rs : List Nat) (objs : List Ab.Rows) (hv : v.nvf = true) (hp : PlainObjs objs)
    (hend : (mkOK first (scO vs) → v = mYes (mkO first (scO vs)) ∧ rs = [2] ∧ objs = [(mkO first (scO vs)).ws.map iRow]) ∧ (¬ mkOK first (scO vs) → v = mNo ∧ rs = [] ∧ objs = [])) :
    Con Try.prog 53 true [.int .i64 first, .vw nn (vs.map iRow)] v objs := by
  classical
  suffices key : Con Try.prog 53 v.nvf [.int .i64 first, .vw nn (vs.map iRow)] v objs by rwa [hv] at key
  refine con_of_wp mixed fun53 (by simp) rs hp ?_
  unfold ac53 ro53
  simp only [zipT]
  have hq := scQ_b hb hB hB9
  have hm := moS_b hb hB vs.length (Nat.le_refl _)
  repeat (first
    | refine wC_a rfl ?_
    | refine q_s rfl ?_
    | refine q_b rfl ?_
    | refine wG_nil ?_
    | refine wG_g rfl ?_
    | refine wG_pure (o_len_vwm rfl) ?_
    | refine wG_pure (o_not_d rfl) ?_
    | refine wG_p rfl (by first | exact rfl | omega) ?_
    | refine wG_pure (o_str2 rfl rfl rfl) ?_
    | refine wG_pure (e_istr rfl rfl (by omega)) ?_
    | refine wG_pure (e_istr0 rfl rfl (by omega)) ?_
    | refine wG_pure (o_not rfl) ?_
    | refine wG_pure (e_ia_vw0 rfl rfl (by omega) rfl) ?_
    | refine wG_pure (e_ia_vwp rfl rfl (by omega) rfl) ?_
    | refine wG_pure (e_ia_vwm rfl rfl (by omega) (by omega) rfl) ?_
    | refine wG_pure (e_ia_vwi rfl rfl (by omega) rfl) ?_
    | refine wG_pure (e_ia_vwn rfl rfl (by omega) (by omega) rfl) ?_
    | refine wG_n rfl rfl ?_
    | refine wG_u rfl rfl ?_
    | refine wG_new (o_mks rfl rfl (by omega) (by decide)) ?_)
  refine wC_loop Nat (fun i => ⟨[(0, .int .i64 first), (1, .vw nn (vs.map iRow)), (4, .pt 0 0 0), (6, .int .i64 (moS vs i)), (7, .int .i64 (i : Int))], [(0, some [[.int .i64 0, .nilS]])], 1⟩) (fun i => i ≤ vs.length) (fun i => vs.length - i) 0 (Nat.zero_le _) ?_ (fun _ _ => Nat.zero_le _) ?_
  · exact ⟨⟨⟨rfl, rfl⟩, ⟨rfl, rfl⟩, ⟨rfl, rfl⟩, ⟨rfl, rfl⟩, ⟨rfl, rfl⟩, trivial⟩, ⟨rfl, by show 0 < 1; decide, by simp [AV.ltr]⟩, trivial⟩
  intro i hi
  repeat (first
    | refine wC_a rfl ?_
    | refine q_s rfl ?_
    | refine q_b rfl ?_
    | refine wG_nil ?_
    | refine wG_g rfl ?_
    | refine wG_pure (o_len_vwm rfl) ?_
    | refine wG_pure (o_not_d rfl) ?_
    | refine wG_p rfl (by first | exact rfl | omega) ?_
    | refine wG_pure (o_str2 rfl rfl rfl) ?_
    | refine wG_pure (e_istr rfl rfl (by omega)) ?_
    | refine wG_pure (e_istr0 rfl rfl (by omega)) ?_
    | refine wG_pure (o_not rfl) ?_
    | refine wG_pure (e_ia_vw0 rfl rfl (by omega) rfl) ?_
    | refine wG_pure (e_ia_vwp rfl rfl (by omega) rfl) ?_
    | refine wG_pure (e_ia_vwm rfl rfl (by omega) (by omega) rfl) ?_
    | refine wG_pure (e_ia_vwi rfl rfl (by omega) rfl) ?_
    | refine wG_pure (e_ia_vwn rfl rfl (by omega) (by omega) rfl) ?_
    | refine wG_n rfl rfl ?_
    | refine wG_u rfl rfl ?_
    | refine wG_new (o_mks rfl rfl (by omega) (by decide)) ?_)
  refine wC_cond_d rfl (fun h5 => ?_) (fun h5 => ?_)
  · have hi2 : i < vs.length := by omega
    repeat (first | refine wG_call (con51 _ _) rfl rfl ?_ | (first
    | refine wC_a rfl ?_
    | refine q_s rfl ?_
    | refine q_b rfl ?_
    | refine wG_nil ?_
    | refine wG_g rfl ?_
    | refine wG_pure (o_len_vwm rfl) ?_
    | refine wG_pure (o_not_d rfl) ?_
    | refine wG_p rfl (by first | exact rfl | omega) ?_
    | refine wG_pure (o_str2 rfl rfl rfl) ?_
    | refine wG_pure (e_istr rfl rfl (by omega)) ?_
    | refine wG_pure (e_istr0 rfl rfl (by omega)) ?_
    | refine wG_pure (o_not rfl) ?_
    | refine wG_pure (e_ia_vw0 rfl rfl (by omega) rfl) ?_
    | refine wG_pure (e_ia_vwp rfl rfl (by omega) rfl) ?_
    | refine wG_pure (e_ia_vwm rfl rfl (by omega) (by omega) rfl) ?_
    | refine wG_pure (e_ia_vwi rfl rfl (by omega) rfl) ?_
    | refine wG_pure (e_ia_vwn rfl rfl (by omega) (by omega) rfl) ?_
    | refine wG_n rfl rfl ?_
    | refine wG_u rfl rfl ?_
    | refine wG_new (o_mks rfl rfl (by omega) (by decide)) ?_))
    exact ⟨i + 1, by omega, by omega, ⟨⟨rfl, rfl⟩, ⟨rfl, rfl⟩, ⟨rfl, rfl⟩, ⟨rfl, rfl⟩, ⟨rfl, rfl⟩, trivial⟩, ⟨rfl, by show 0 < 1; decide, by simp [AV.ltr]⟩, trivial⟩
  have hi3 : i = vs.length := by omega
  subst hi3
  have eq1 : (moS vs vs.length - 1).tdiv 1000000 + 1 = scQ vs := rfl
  repeat (first | (first
    | refine wC_a rfl ?_
    | refine q_s rfl ?_
    | refine q_b rfl ?_
    | refine wG_nil ?_
    | refine wG_g rfl ?_
    | refine wG_pure (o_len_vwm rfl) ?_
    | refine wG_pure (o_not_d rfl) ?_
    | refine wG_p rfl (by first | exact rfl | omega) ?_
    | refine wG_pure (o_str2 rfl rfl rfl) ?_
    | refine wG_pure (e_istr rfl rfl (by omega)) ?_
    | refine wG_pure (e_istr0 rfl rfl (by omega)) ?_
    | refine wG_pure (o_not rfl) ?_
    | refine wG_pure (e_ia_vw0 rfl rfl (by omega) rfl) ?_
    | refine wG_pure (e_ia_vwp rfl rfl (by omega) rfl) ?_
    | refine wG_pure (e_ia_vwm rfl rfl (by omega) (by omega) rfl) ?_
    | refine wG_pure (e_ia_vwi rfl rfl (by omega) rfl) ?_
    | refine wG_pure (e_ia_vwn rfl rfl (by omega) (by omega) rfl) ?_
    | refine wG_n rfl rfl ?_
    | refine wG_u rfl rfl ?_
    | refine wG_new (o_mks rfl rfl (by omega) (by decide)) ?_) | refine wG_pure (o_quo rfl rfl (by omega) (by omega) (by omega)) ?_)
  refine wC_loopR Nat (fun i => ⟨[(0, .int .i64 first), (1, .vw nn (vs.map iRow)), (4, .pt 0 0 0), (8, .int .i64 (scQ vs)), (9, .sl 1 1 0 i), (10, .int .i64 (i : Int))], [(1, some ((lG i (scG vs (scQ vs))).map iRow)), (0, some [[.int .i64 0, .nilS]])], 2⟩) (fun i => i ≤ vs.length) (fun i => vs.length - i) 0 (Nat.zero_le _) ⟨[0, 1], ?_⟩ ?_
  · exact ⟨⟨⟨rfl, rfl⟩, ⟨rfl, rfl⟩, ⟨rfl, rfl⟩, ⟨rfl, rfl⟩, ⟨rfl, rfl⟩, ⟨rfl, rfl⟩, trivial⟩, ⟨⟨⟨_, rfl, rfl⟩, (by show 1 < 2; decide), ltrI _ _⟩, ⟨⟨_, rfl, rfl⟩, (by show 0 < 2; decide), by simp [AV.ltr]⟩, trivial⟩, rfl, by decide⟩
  intro i hi
  have hll := lG_len i (scG vs (scQ vs))
  have hup := lG_up i (scG vs (scQ vs))
  repeat (first
    | refine wC_a rfl ?_
    | refine q_s rfl ?_
    | refine q_b rfl ?_
    | refine wG_nil ?_
    | refine wG_g rfl ?_
    | refine wG_pure (o_len_vwm rfl) ?_
    | refine wG_pure (o_not_d rfl) ?_
    | refine wG_p rfl (by first | exact rfl | omega) ?_
    | refine wG_pure (o_str2 rfl rfl rfl) ?_
    | refine wG_pure (e_istr rfl rfl (by omega)) ?_
    | refine wG_pure (e_istr0 rfl rfl (by omega)) ?_
    | refine wG_pure (o_not rfl) ?_
    | refine wG_pure (e_ia_vw0 rfl rfl (by omega) rfl) ?_
    | refine wG_pure (e_ia_vwp rfl rfl (by omega) rfl) ?_
    | refine wG_pure (e_ia_vwm rfl rfl (by omega) (by omega) rfl) ?_
    | refine wG_pure (e_ia_vwi rfl rfl (by omega) rfl) ?_
    | refine wG_pure (e_ia_vwn rfl rfl (by omega) (by omega) rfl) ?_
    | refine wG_n rfl rfl ?_
    | refine wG_u rfl rfl ?_
    | refine wG_new (o_mks rfl rfl (by omega) (by decide)) ?_)
  refine wC_cond_d rfl (fun h5 => ?_) (fun h5 => ?_)
  · have hi2 : i < vs.length := by omega
    have hg := scG_b hb hB hB9 hi2
    have hw := hb i hi2
    unfold scG at hg
    have hq1 : 1 ≤ scQ vs := by omega
    repeat (first | (first
    | refine wC_a rfl ?_
    | refine q_s rfl ?_
    | refine q_b rfl ?_
    | refine wG_nil ?_
    | refine wG_g rfl ?_
    | refine wG_pure (o_len_vwm rfl) ?_
    | refine wG_pure (o_not_d rfl) ?_
    | refine wG_p rfl (by first | exact rfl | omega) ?_
    | refine wG_pure (o_str2 rfl rfl rfl) ?_
    | refine wG_pure (e_istr rfl rfl (by omega)) ?_
    | refine wG_pure (e_istr0 rfl rfl (by omega)) ?_
    | refine wG_pure (o_not rfl) ?_
    | refine wG_pure (e_ia_vw0 rfl rfl (by omega) rfl) ?_
    | refine wG_pure (e_ia_vwp rfl rfl (by omega) rfl) ?_
    | refine wG_pure (e_ia_vwm rfl rfl (by omega) (by omega) rfl) ?_
    | refine wG_pure (e_ia_vwi rfl rfl (by omega) rfl) ?_
    | refine wG_pure (e_ia_vwn rfl rfl (by omega) (by omega) rfl) ?_
    | refine wG_n rfl rfl ?_
    | refine wG_u rfl rfl ?_
    | refine wG_new (o_mks rfl rfl (by omega) (by decide)) ?_) | refine wG_pure (o_quo rfl rfl (by omega) (by omega) (by omega)) ?_ | refine wG_app rfl rfl (by rw [List.length_map, hll]) (rows_sl rfl rfl rfl) (by simp) (by simp; omega) (by decide) ?_)
    refine ⟨i + 1, by omega, by omega, [0, 3], ?_⟩
    rw [hup]
    refine ⟨⟨⟨rfl, rfl⟩, ⟨rfl, rfl⟩, ⟨rfl, rfl⟩, ⟨rfl, rfl⟩, ⟨rfl, rfl⟩, ⟨rfl, rfl⟩, trivial⟩, ⟨⟨⟨_, rfl, ?_⟩, (by show 1 < 2; decide), ltrI _ _⟩, ⟨⟨_, rfl, rfl⟩, (by show 0 < 2; decide), by simp [AV.ltr]⟩, trivial⟩, rfl, by decide⟩
    rw [← rn_rows (rowsP _), List.map_append]; rfl
  · have hi3 : i = vs.length := by omega
    subst hi3
    have hol : vs.length = (scO vs).length := (scO_len vs).symm
    have heq : lG vs.length (scG vs (scQ vs)) = scO vs := rfl
    rw [heq]
    by_cases hk : mkOK first (scO vs)
    · have c5 := con89_Y true first (scO vs) (by omega) (scO_b hb hB hB9) (by decide) hf1 hf2 hk
      obtain ⟨rfl, rfl, rfl⟩ := hend.1 hk
      repeat (first | refine wG_call1 c5 (ag_int rfl (ag_sl rfl rfl hol iRow_plain ag_nil)) rfl ?_ | (first
    | refine wC_a rfl ?_
    | refine q_s rfl ?_
    | refine q_b rfl ?_
    | refine wG_nil ?_
    | refine wG_g rfl ?_
    | refine wG_pure (o_len_vwm rfl) ?_
    | refine wG_pure (o_not_d rfl) ?_
    | refine wG_p rfl (by first | exact rfl | omega) ?_
    | refine wG_pure (o_str2 rfl rfl rfl) ?_
    | refine wG_pure (e_istr rfl rfl (by omega)) ?_
    | refine wG_pure (e_istr0 rfl rfl (by omega)) ?_
    | refine wG_pure (o_not rfl) ?_
    | refine wG_pure (e_ia_vw0 rfl rfl (by omega) rfl) ?_
    | refine wG_pure (e_ia_vwp rfl rfl (by omega) rfl) ?_
    | refine wG_pure (e_ia_vwm rfl rfl (by omega) (by omega) rfl) ?_
    | refine wG_pure (e_ia_vwi rfl rfl (by omega) rfl) ?_
    | refine wG_pure (e_ia_vwn rfl rfl (by omega) (by omega) rfl) ?_
    | refine wG_n rfl rfl ?_
    | refine wG_u rfl rfl ?_
    | refine wG_new (o_mks rfl rfl (by omega) (by decide)) ?_))
      exact ret_db (.inr rfl) rfl (retV_ldt rfl rfl rfl rfl rfl) (retV_mv rfl) rfl
    · have c5 := con89_N true first (scO vs) (by omega) (scO_b hb hB hB9) (by decide) hf1 hf2 hk
      obtain ⟨rfl, rfl, rfl⟩ := hend.2 hk
      repeat (first | refine wG_call c5 (ag_int rfl (ag_sl rfl rfl hol iRow_plain ag_nil)) rfl ?_ | (first
    | refine wC_a rfl ?_
    | refine q_s rfl ?_
    | refine q_b rfl ?_
    | refine wG_nil ?_
    | refine wG_g rfl ?_
    | refine wG_pure (o_len_vwm rfl) ?_
    | refine wG_pure (o_not_d rfl) ?_
    | refine wG_p rfl (by first | exact rfl | omega) ?_
    | refine wG_pure (o_str2 rfl rfl rfl) ?_
    | refine wG_pure (e_istr rfl rfl (by omega)) ?_
    | refine wG_pure (e_istr0 rfl rfl (by omega)) ?_
    | refine wG_pure (o_not rfl) ?_
    | refine wG_pure (e_ia_vw0 rfl rfl (by omega) rfl) ?_
    | refine wG_pure (e_ia_vwp rfl rfl (by omega) rfl) ?_
    | refine wG_pure (e_ia_vwm rfl rfl (by omega) (by omega) rfl) ?_
    | refine wG_pure (e_ia_vwi rfl rfl (by omega) rfl) ?_
    | refine wG_pure (e_ia_vwn rfl rfl (by omega) (by omega) rfl) ?_
    | refine wG_n rfl rfl ?_
    | refine wG_u rfl rfl ?_
    | refine wG_new (o_mks rfl rfl (by omega) (by decide)) ?_))
      exact ret_d0 (.inr rfl) rfl (retV_ldt rfl rfl rfl rfl rfl) (retV_mv rfl)
theorem con56_all (nn : Bool) (first : Int) (vs : List Int) (h0 : 0 < vs.length) (hlen : vs.length ≤ 200) {B : Int} (hb : bnd vs B) (hB : 1 ≤ B) (hB9 : B ≤ 9000000000000000000) (hf1 : -20000 ≤ first) (hf2 : first ≤ 2100) (v : AV) (rs : List Nat) (objs : List Ab.Rows) (hv : v.nvf = true) (hp : PlainObjs objs)
    (hend : (mkOK first (scO vs) → v = mYes (mkO first (scO vs)) ∧ rs = [2] ∧ objs = [(mkO first (scO vs)).ws.map iRow]) ∧ (¬ mkOK first (scO vs) → v = mNo ∧ rs = [] ∧ objs = [])) :
    Con Try.prog 56 true [.int .i64 first, .vw nn (vs.map iRow)] v objs := by
  classical
  suffices key : Con Try.prog 56 v.nvf [.int .i64 first, .vw nn (vs.map iRow)] v objs by rwa [hv] at key
  refine con_of_wp mixed fun56 (by simp) rs hp ?_
  unfold ac56 ro56
  simp only [zipT]
  have hq := scQ_b hb hB hB9
  have hm := mxI_b hb (vs.length - 1) (by omega)
  have cM := con91 nn vs h0 (by omega)
  have eq1 := scQ_eq hb h0
  have eqb : 0 ≤ (mxI vs (vs.length - 1) - 1).tdiv 1000000 ∧ (mxI vs (vs.length - 1) - 1).tdiv 1000000 ≤ 9000000000000 := by
    have e : (moS vs vs.length - 1).tdiv 1000000 + 1 = scQ vs := rfl
    omega
  repeat (first | refine wG_call cM rfl rfl ?_ | (first
    | refine wC_a rfl ?_
    | refine q_s rfl ?_
    | refine q_b rfl ?_
    | refine wG_nil ?_
    | refine wG_g rfl ?_
    | refine wG_pure (o_len_vwm rfl) ?_
    | refine wG_pure (o_not_d rfl) ?_
    | refine wG_p rfl (by first | exact rfl | omega) ?_
    | refine wG_pure (o_str2 rfl rfl rfl) ?_
    | refine wG_pure (e_istr rfl rfl (by omega)) ?_
    | refine wG_pure (e_istr0 rfl rfl (by omega)) ?_
    | refine wG_pure (o_not rfl) ?_
    | refine wG_pure (e_ia_vw0 rfl rfl (by omega) rfl) ?_
    | refine wG_pure (e_ia_vwp rfl rfl (by omega) rfl) ?_
    | refine wG_pure (e_ia_vwm rfl rfl (by omega) (by omega) rfl) ?_
    | refine wG_pure (e_ia_vwi rfl rfl (by omega) rfl) ?_
    | refine wG_pure (e_ia_vwn rfl rfl (by omega) (by omega) rfl) ?_
    | refine wG_n rfl rfl ?_
    | refine wG_u rfl rfl ?_
    | refine wG_new (o_mks rfl rfl (by omega) (by decide)) ?_) | refine wG_pure (o_quo rfl rfl (by omega) (by omega) (by omega)) ?_)
  rw [eq1]
  refine wC_loopR Nat (fun i => ⟨[(0, .int .i64 first), (4, .pt 0 0 0), (6, .int .i64 (scQ vs)), (7, .sl 1 1 0 i), (16, .vw nn (vs.map iRow)), (17, .int .i64 (vs.length : Int)), (18, .int .i64 (i : Int))], [(1, some ((lG i (scG vs (scQ vs))).map iRow)), (0, some [[.int .i64 0, .nilS]])], 2⟩) (fun i => i ≤ vs.length) (fun i => vs.length - i) 0 (Nat.zero_le _) ⟨[0, 1], ?_⟩ ?_
  · exact ⟨⟨⟨rfl, rfl⟩, ⟨rfl, rfl⟩, ⟨rfl, rfl⟩, ⟨rfl, rfl⟩, ⟨rfl, rfl⟩, ⟨rfl, rfl⟩, ⟨rfl, rfl⟩, trivial⟩, ⟨⟨⟨_, rfl, rfl⟩, (by show 1 < 2; decide), ltrI _ _⟩, ⟨⟨_, rfl, rfl⟩, (by show 0 < 2; decide), by simp [AV.ltr]⟩, trivial⟩, rfl, by decide⟩
  intro i hi
  have hll := lG_len i (scG vs (scQ vs))
  have hup := lG_up i (scG vs (scQ vs))
  repeat (first
    | refine wC_a rfl ?_
    | refine q_s rfl ?_
    | refine q_b rfl ?_
    | refine wG_nil ?_
    | refine wG_g rfl ?_
    | refine wG_pure (o_len_vwm rfl) ?_
    | refine wG_pure (o_not_d rfl) ?_
    | refine wG_p rfl (by first | exact rfl | omega) ?_
    | refine wG_pure (o_str2 rfl rfl rfl) ?_
    | refine wG_pure (e_istr rfl rfl (by omega)) ?_
    | refine wG_pure (e_istr0 rfl rfl (by omega)) ?_
    | refine wG_pure (o_not rfl) ?_
    | refine wG_pure (e_ia_vw0 rfl rfl (by omega) rfl) ?_
    | refine wG_pure (e_ia_vwp rfl rfl (by omega) rfl) ?_
    | refine wG_pure (e_ia_vwm rfl rfl (by omega) (by omega) rfl) ?_
    | refine wG_pure (e_ia_vwi rfl rfl (by omega) rfl) ?_
    | refine wG_pure (e_ia_vwn rfl rfl (by omega) (by omega) rfl) ?_
    | refine wG_n rfl rfl ?_
    | refine wG_u rfl rfl ?_
    | refine wG_new (o_mks rfl rfl (by omega) (by decide)) ?_)
  refine wC_cond_d rfl (fun h5 => ?_) (fun h5 => ?_)
  · have hi2 : i < vs.length := by omega
    have hg := scG_b hb hB hB9 hi2
    have hw := hb i hi2
    unfold scG at hg
    have e : (moS vs vs.length - 1).tdiv 1000000 + 1 = scQ vs := rfl
    have hq1 : 1 ≤ scQ vs := by omega
    repeat (first | (first
    | refine wC_a rfl ?_
    | refine q_s rfl ?_
    | refine q_b rfl ?_
    | refine wG_nil ?_
    | refine wG_g rfl ?_
    | refine wG_pure (o_len_vwm rfl) ?_
    | refine wG_pure (o_not_d rfl) ?_
    | refine wG_p rfl (by first | exact rfl | omega) ?_
    | refine wG_pure (o_str2 rfl rfl rfl) ?_
    | refine wG_pure (e_istr rfl rfl (by omega)) ?_
    | refine wG_pure (e_istr0 rfl rfl (by omega)) ?_
    | refine wG_pure (o_not rfl) ?_
    | refine wG_pure (e_ia_vw0 rfl rfl (by omega) rfl) ?_
    | refine wG_pure (e_ia_vwp rfl rfl (by omega) rfl) ?_
    | refine wG_pure (e_ia_vwm rfl rfl (by omega) (by omega) rfl) ?_
    | refine wG_pure (e_ia_vwi rfl rfl (by omega) rfl) ?_
    | refine wG_pure (e_ia_vwn rfl rfl (by omega) (by omega) rfl) ?_
    | refine wG_n rfl rfl ?_
    | refine wG_u rfl rfl ?_
    | refine wG_new (o_mks rfl rfl (by omega) (by decide)) ?_) | refine wG_pure (o_quo rfl rfl (by omega) (by omega) (by omega)) ?_ | refine wG_app rfl rfl (by rw [List.length_map, hll]) (rows_sl rfl rfl rfl) (by simp) (by simp; omega) (by decide) ?_)
    refine ⟨i + 1, by omega, by omega, [0, 3], ?_⟩
    rw [hup]
    refine ⟨⟨⟨rfl, rfl⟩, ⟨rfl, rfl⟩, ⟨rfl, rfl⟩, ⟨rfl, rfl⟩, ⟨rfl, rfl⟩, ⟨rfl, rfl⟩, ⟨rfl, rfl⟩, trivial⟩, ⟨⟨⟨_, rfl, ?_⟩, (by show 1 < 2; decide), ltrI _ _⟩, ⟨⟨_, rfl, rfl⟩, (by show 0 < 2; decide), by simp [AV.ltr]⟩, trivial⟩, rfl, by decide⟩
    rw [← rn_rows (rowsP _), List.map_append]; rfl
  · have hi3 : i = vs.length := by omega
    subst hi3
    have hol : vs.length = (scO vs).length := (scO_len vs).symm
    have heq : lG vs.length (scG vs (scQ vs)) = scO vs := rfl
    rw [heq]
    have hso := scO_b hb hB hB9
    have hin : mdIn first (scO vs) := ⟨⟨⟨hf1, hf2⟩, by omega⟩, fun j hj => by have := hso j hj; unfold okT; omega⟩
    obtain ⟨cY, cN⟩ := con92_all true first (scO vs) (by omega) hin
    by_cases hk : mkOK first (scO vs)
    · have c5 := cY hk
      obtain ⟨rfl, rfl, rfl⟩ := hend.1 hk
      repeat (first | refine wG_call1 c5 (ag_int rfl (ag_sl rfl rfl hol iRow_plain ag_nil)) rfl ?_ | (first
    | refine wC_a rfl ?_
    | refine q_s rfl ?_
    | refine q_b rfl ?_
    | refine wG_nil ?_
    | refine wG_g rfl ?_
    | refine wG_pure (o_len_vwm rfl) ?_
    | refine wG_pure (o_not_d rfl) ?_
    | refine wG_p rfl (by first | exact rfl | omega) ?_
    | refine wG_pure (o_str2 rfl rfl rfl) ?_
    | refine wG_pure (e_istr rfl rfl (by omega)) ?_
    | refine wG_pure (e_istr0 rfl rfl (by omega)) ?_
    | refine wG_pure (o_not rfl) ?_
    | refine wG_pure (e_ia_vw0 rfl rfl (by omega) rfl) ?_
    | refine wG_pure (e_ia_vwp rfl rfl (by omega) rfl) ?_
    | refine wG_pure (e_ia_vwm rfl rfl (by omega) (by omega) rfl) ?_
    | refine wG_pure (e_ia_vwi rfl rfl (by omega) rfl) ?_
    | refine wG_pure (e_ia_vwn rfl rfl (by omega) (by omega) rfl) ?_
    | refine wG_n rfl rfl ?_
    | refine wG_u rfl rfl ?_
    | refine wG_new (o_mks rfl rfl (by omega) (by decide)) ?_))
      exact ret_db (.inr rfl) rfl (retV_ldt rfl rfl rfl rfl rfl) (retV_mv rfl) rfl
    · have c5 := cN hk
      obtain ⟨rfl, rfl, rfl⟩ := hend.2 hk
      repeat (first | refine wG_call c5 (ag_int rfl (ag_sl rfl rfl hol iRow_plain ag_nil)) rfl ?_ | (first
    | refine wC_a rfl ?_
    | refine q_s rfl ?_
    | refine q_b rfl ?_
    | refine wG_nil ?_
    | refine wG_g rfl ?_
    | refine wG_pure (o_len_vwm rfl) ?_
    | refine wG_pure (o_not_d rfl) ?_
    | refine wG_p rfl (by first | exact rfl | omega) ?_
    | refine wG_pure (o_str2 rfl rfl rfl) ?_
    | refine wG_pure (e_istr rfl rfl (by omega)) ?_
    | refine wG_pure (e_istr0 rfl rfl (by omega)) ?_
    | refine wG_pure (o_not rfl) ?_
    | refine wG_pure (e_ia_vw0 rfl rfl (by omega) rfl) ?_
    | refine wG_pure (e_ia_vwp rfl rfl (by omega) rfl) ?_
    | refine wG_pure (e_ia_vwm rfl rfl (by omega) (by omega) rfl) ?_
    | refine wG_pure (e_ia_vwi rfl rfl (by omega) rfl) ?_
    | refine wG_pure (e_ia_vwn rfl rfl (by omega) (by omega) rfl) ?_
    | refine wG_n rfl rfl ?_
    | refine wG_u rfl rfl ?_
    | refine wG_new (o_mks rfl rfl (by omega) (by decide)) ?_))
      exact ret_d0 (.inr rfl) rfl (retV_ldt rfl rfl rfl rfl rfl) (retV_mv rfl)
theorem con53_Y (nn : Bool) (first : Int) (vs : List Int) (h0 : 0 < vs.length) (hlen : vs.length ≤ 200) {B : Int} (hb : bnd vs B) (hB : 1 ≤ B) (hB9 : B ≤ 9000000000000000000) (hf1 : -20000 ≤ first) (hf2 : first ≤ 2100) (h : mkOK first (scO vs)) : Con Try.prog 53 true [.int .i64 first, .vw nn (vs.map iRow)] (mYes (mkO first (scO vs))) [(mkO first (scO vs)).ws.map iRow] := by
  first
    | exact con53_all nn first vs h0 hlen hb hB hB9 hf1 hf2 _ [2] _ rfl (plain_map iRow_plain _) ⟨fun _ => ⟨rfl, rfl, rfl⟩, fun hn => absurd h hn⟩
    | exact con53_all nn first vs (by omega) hb hB hB9 (by omega) (by omega) _ [2] _ rfl (plain_map iRow_plain _) ⟨fun _ => ⟨rfl, rfl, rfl⟩, fun hn => absurd h hn⟩
theorem con53_N (nn : Bool) (first : Int) (vs : List Int) (h0 : 0 < vs.length) (hlen : vs.length ≤ 200) {B : Int} (hb : bnd vs B) (hB : 1 ≤ B) (hB9 : B ≤ 9000000000000000000) (hf1 : -20000 ≤ first) (hf2 : first ≤ 2100) (h : ¬ mkOK first (scO vs)) : Con Try.prog 53 true [.int .i64 first, .vw nn (vs.map iRow)] mNo [] := by
  first
    | exact con53_all nn first vs h0 hlen hb hB hB9 hf1 hf2 _ [] _ rfl plain_nil ⟨fun hy => absurd hy h, fun _ => ⟨rfl, rfl, rfl⟩⟩
    | exact con53_all nn first vs (by omega) hb hB hB9 (by omega) (by omega) _ [] _ rfl plain_nil ⟨fun hy => absurd hy h, fun _ => ⟨rfl, rfl, rfl⟩⟩
theorem con56_Y (nn : Bool) (first : Int) (vs : List Int) (h0 : 0 < vs.length) (hlen : vs.length ≤ 200) {B : Int} (hb : bnd vs B) (hB : 1 ≤ B) (hB9 : B ≤ 9000000000000000000) (hf1 : -20000 ≤ first) (hf2 : first ≤ 2100) (h : mkOK first (scO vs)) : Con Try.prog 56 true [.int .i64 first, .vw nn (vs.map iRow)] (mYes (mkO first (scO vs))) [(mkO first (scO vs)).ws.map iRow] := by
  first
    | exact con56_all nn first vs h0 hlen hb hB hB9 hf1 hf2 _ [2] _ rfl (plain_map iRow_plain _) ⟨fun _ => ⟨rfl, rfl, rfl⟩, fun hn => absurd h hn⟩
    | exact con56_all nn first vs (by omega) hb hB hB9 (by omega) (by omega) _ [2] _ rfl (plain_map iRow_plain _) ⟨fun _ => ⟨rfl, rfl, rfl⟩, fun hn => absurd h hn⟩
theorem con56_N (nn : Bool) (first : Int) (vs : List Int) (h0 : 0 < vs.length) (hlen : vs.length ≤ 200) {B : Int} (hb : bnd vs B) (hB : 1 ≤ B) (hB9 : B ≤ 9000000000000000000) (hf1 : -20000 ≤ first) (hf2 : first ≤ 2100) (h : ¬ mkOK first (scO vs)) : Con Try.prog 56 true [.int .i64 first, .vw nn (vs.map iRow)] mNo [] := by
  first
    | exact con56_all nn first vs h0 hlen hb hB hB9 hf1 hf2 _ [] _ rfl plain_nil ⟨fun hy => absurd hy h, fun _ => ⟨rfl, rfl, rfl⟩⟩
    | exact con56_all nn first vs (by omega) hb hB hB9 (by omega) (by omega) _ [] _ rfl plain_nil ⟨fun hy => absurd hy h, fun _ => ⟨rfl, rfl, rfl⟩⟩
theorem con23_nil (a : Int) (k : Int) : Con Try.prog 23 true [.agg [.int .i64 a, .nilS], .int .i64 k] (.int .i64 k) [] := by
  refine con_of_wp mixed fun23 (by simp) [] plain_nil ?_
  unfold ac23 ro23
  simp only [zipT]
  have c := con58_nil k
  repeat (first | refine wG_call c rfl rfl ?_ | (first
    | refine wC_a rfl ?_
    | refine q_s rfl ?_
    | refine q_b rfl ?_
    | refine wG_nil ?_
    | refine wG_g rfl ?_
    | refine wG_pure (o_len_vwm rfl) ?_
    | refine wG_pure (o_not_d rfl) ?_
    | refine wG_p rfl (by first | exact rfl | omega) ?_
    | refine wG_pure (o_str2 rfl rfl rfl) ?_
    | refine wG_pure (e_istr rfl rfl (by omega)) ?_
    | refine wG_pure (e_istr0 rfl rfl (by omega)) ?_
    | refine wG_pure (o_not rfl) ?_
    | refine wG_pure (e_ia_vw0 rfl rfl (by omega) rfl) ?_
    | refine wG_pure (e_ia_vwp rfl rfl (by omega) rfl) ?_
    | refine wG_pure (e_ia_vwm rfl rfl (by omega) (by omega) rfl) ?_
    | refine wG_pure (e_ia_vwi rfl rfl (by omega) rfl) ?_
    | refine wG_pure (e_ia_vwn rfl rfl (by omega) (by omega) rfl) ?_
    | refine wG_n rfl rfl ?_
    | refine wG_u rfl rfl ?_
    | refine wG_new (o_mks rfl rfl (by omega) (by decide)) ?_))
  exact ret_intE (.inr rfl) ⟨_, retV_mv rfl, rfl⟩
theorem eqD_no : Con Try.prog 20 true [.agg [.int .i64 0, .nilS], .agg [.int .i64 0, .nilS]] (.bool true) [] :=
  con_dnil (con_dnil2 (con20_same false false ⟨0, []⟩ (by decide)))
theorem heldD_no : Con Try.prog 24 true [.agg [.int .i64 0, .nilS], .int .i64 1] (.int .i64 1) [] :=
  con_dnil (con24 false 0 0 1 (by decide) (by decide) (by decide))
end Go.Proofs.Ytnohaclnpbpjbaa.Dst
