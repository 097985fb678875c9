/- The sum of all weights of a model: both sides. -/
import Derived.Test.YtnohaclnpbpjbaaPmH
namespace Go.Proofs.Ytnohaclnpbpjbaa.Dst
open Go Go.Proofs.Ytnohaclnpbpjbaa.Ab Go.Proofs.Ytnohaclnpbpjbaa.Il
attribute [local irreducible] wpO wpC wpDr wpQ wpG wpE stepA seqQ blkQ Ret RetG ev
set_option maxRecDepth 10000
set_option maxHeartbeats 8000000
set_option linter.unusedSimpArgs false
set_option linter.unusedVariables false

def ac27 : AC := (.seq (.reg [⟨(some 1), none, (.box 4 true (.t 0))⟩, ⟨(some 2), none, (.mv (.c (.int .i64 0)))⟩, ⟨(some 3), none, (.mv (.c (.int .i64 0)))⟩, ⟨(some 4), none, (.mv (.c (.bool false)))⟩]) (.seq (.seq (.reg [⟨(some 7), none, (.ld true 4 (.t 1))⟩, ⟨(some 8), none, (.call 39 [(.t 7)])⟩, ⟨(some 9), none, (.un .not (.t 8))⟩]) (.cond (.t 9) (.seq (.reg [⟨(some 2), none, (.mv (.c (.int .i64 0)))⟩, ⟨(some 3), none, (.mv (.c (.int .i64 0)))⟩, ⟨(some 4), none, (.mv (.c (.bool false)))⟩]) .ret) .skip)) (.seq (.dreg [⟨(some 11), none, (.ld true 4 (.t 1))⟩, ⟨(some 12), none, (.ld true 4 (.t 1))⟩, ⟨(some 13), none, (.call 63 [(.t 12)])⟩, ⟨(some 14), none, (.call 62 [(.t 11), (.t 13)])⟩, ⟨(some 10), none, (.mv (.t 14))⟩, ⟨(some 15), none, (.ext (.t 10) 0)⟩, ⟨(some 16), none, (.ext (.t 10) 1)⟩, ⟨(some 5), none, (.mv (.t 15))⟩, ⟨(some 6), none, (.mv (.t 16))⟩] [[], [], [1], [0, 1, 2], [0, 1, 2, 3], [0, 1, 2, 3, 4], [0, 1, 2, 3, 4], [0, 1, 2, 3, 4, 5], [0, 1, 2, 3, 4, 5, 6, 7]]) (.seq (.reg [⟨(some 17), none, (.mv (.t 5))⟩, ⟨(some 18), none, (.mv (.t 6))⟩, ⟨(some 2), none, (.mv (.t 17))⟩, ⟨(some 3), none, (.mv (.t 18))⟩, ⟨(some 4), none, (.mv (.c (.bool true)))⟩]) .ret))))
def ro27 : List AOp := [(.mv (.t 2)), (.mv (.t 3)), (.mv (.t 4))]
theorem fun27 : Fun Try.prog 27 19 ac27 ro27 := ⟨Try.f27, _, Try.func27, by kernel_rfl, rfl, rfl, by kernel_rfl, by kernel_rfl, by decide⟩
def ac28 : AC := (.seq (.reg [⟨(some 1), none, (.box 4 true (.t 0))⟩, ⟨(some 2), none, (.mv (.c (.int .i64 0)))⟩, ⟨(some 3), none, (.mv (.c (.int .i64 0)))⟩, ⟨(some 4), none, (.mv (.c (.bool false)))⟩]) (.seq (.seq (.reg [⟨(some 7), none, (.ld true 4 (.t 1))⟩, ⟨(some 8), none, (.call 14 [(.t 7)])⟩, ⟨(some 9), none, (.un .not (.t 8))⟩]) (.cond (.t 9) (.seq (.reg [⟨(some 2), none, (.mv (.c (.int .i64 0)))⟩, ⟨(some 3), none, (.mv (.c (.int .i64 0)))⟩, ⟨(some 4), none, (.mv (.c (.bool false)))⟩]) .ret) .skip)) (.seq (.reg [⟨(some 5), none, (.alloc [(.int .i64 0)])⟩, ⟨(some 6), none, (.alloc [(.int .i64 0)])⟩, ⟨none, none, (.st 1 (.t 5) (.c (.int .i64 0)))⟩, ⟨none, none, (.st 1 (.t 6) (.c (.int .i64 0)))⟩]) (.seq (.reg [⟨(some 10), none, (.ld true 4 (.t 1))⟩, ⟨(some 11), none, (.mkf 65 [(.t 5), (.t 1), (.t 6)])⟩, ⟨(some 12), none, (.call 64 [(.t 10), (.t 11)])⟩]) (.seq (.dreg [⟨(some 13), none, (.ld false 1 (.t 5))⟩, ⟨(some 14), none, (.ld false 1 (.t 6))⟩, ⟨(some 2), none, (.mv (.t 13))⟩, ⟨(some 3), none, (.mv (.t 14))⟩, ⟨(some 4), none, (.mv (.c (.bool true)))⟩] [[], [], [0], [0, 1, 2], [0, 1, 2, 3]]) .ret)))))
def ro28 : List AOp := [(.mv (.t 2)), (.mv (.t 3)), (.mv (.t 4))]
theorem fun28 : Fun Try.prog 28 15 ac28 ro28 := ⟨Try.f28, _, Try.func28, by kernel_rfl, rfl, rfl, by kernel_rfl, by kernel_rfl, by decide⟩
def ac62 : AC := (.seq (.reg [⟨(some 2), none, (.box 4 true (.t 0))⟩, ⟨(some 4), none, (.mv (.c (.int .i64 0)))⟩, ⟨(some 5), none, (.mv (.c (.int .i64 0)))⟩]) (.seq (.reg [⟨(some 9), none, (.ld true 4 (.t 2))⟩, ⟨(some 10), none, (.call 73 [(.t 9)])⟩, ⟨(some 6), none, (.mv (.t 10))⟩]) (.seq (.reg [⟨(some 7), none, (.mv (.c (.int .i64 0)))⟩]) (.seq (.seq (.reg [⟨(some 8), none, (.mv (.c (.int .i64 0)))⟩]) (.blk 0 (.loop (.seq (.seq (.reg [⟨(some 11), none, (.mv (.t 8))⟩, ⟨(some 12), none, (.mv (.t 6))⟩, ⟨(some 13), none, (.len (.t 12))⟩, ⟨(some 14), none, (.bin .lss (.t 11) (.t 13))⟩]) (.cond (.t 14) .skip (.exit 0))) (.seq (.blk 1 (.dreg [⟨(some 17), none, (.mv (.t 7))⟩, ⟨(some 18), none, (.ld true 4 (.t 2))⟩, ⟨(some 19), none, (.mv (.t 1))⟩, ⟨(some 20), none, (.mv (.t 6))⟩, ⟨(some 21), none, (.mv (.t 8))⟩, ⟨(some 22), none, (.ia 1 (.t 20) (.t 21))⟩, ⟨(some 23), none, (.ld false 1 (.t 22))⟩, ⟨(some 24), none, (.call 74 [(.t 18), (.t 19), (.t 23), (.c (.int .i64 (-1)))])⟩, ⟨(some 25), none, (.bin .add (.t 17) (.t 24))⟩, ⟨(some 7), none, (.mv (.t 25))⟩] [[], [], [], [], [], [3, 4], [3, 4, 5], [1, 2, 3, 4, 5, 6], [0, 1, 2, 3, 4, 5, 6, 7], [0, 1, 2, 3, 4, 5, 6, 7, 8]])) (.reg [⟨(some 15), none, (.mv (.t 8))⟩, ⟨(some 16), none, (.bin .add (.t 15) (.c (.int .i64 1)))⟩, ⟨(some 8), none, (.mv (.t 16))⟩])))))) (.seq (.reg [⟨(some 26), none, (.mv (.t 7))⟩, ⟨(some 27), none, (.mv (.t 6))⟩, ⟨(some 28), none, (.len (.t 27))⟩, ⟨(some 4), none, (.mv (.t 26))⟩, ⟨(some 5), none, (.mv (.t 28))⟩]) .ret)))))
def ro62 : List AOp := [(.mv (.t 4)), (.mv (.t 5))]
theorem fun62 : Fun Try.prog 62 29 ac62 ro62 := ⟨Try.f62, _, Try.func62, by kernel_rfl, rfl, rfl, by kernel_rfl, by kernel_rfl, by decide⟩
def ac65 : AC := (.seq (.dreg [⟨(some 5), none, (.ld false 1 (.t 1))⟩, ⟨(some 6), none, (.ld true 4 (.t 2))⟩, ⟨(some 7), none, (.mv (.t 0))⟩, ⟨(some 8), none, (.call 66 [(.t 6), (.t 7), (.c (.int .i64 (-1)))])⟩, ⟨(some 9), none, (.bin .add (.t 5) (.t 8))⟩, ⟨none, none, (.st 1 (.t 1) (.t 9))⟩] [[], [], [], [1, 2], [0, 1, 2, 3], [0, 1, 2, 3, 4]]) (.reg [⟨(some 10), none, (.ld false 1 (.t 3))⟩, ⟨(some 11), none, (.bin .add (.t 10) (.c (.int .i64 1)))⟩, ⟨none, none, (.st 1 (.t 3) (.t 11))⟩]))
def ro65 : List AOp := []
theorem fun65 : Fun Try.prog 65 12 ac65 ro65 := ⟨Try.f65, _, Try.func65, by kernel_rfl, rfl, rfl, by kernel_rfl, by kernel_rfl, by decide⟩

theorem o_addw {T : Nat → AV} {H : Nat → Option Ab.Rows} {nr : Nat} {x y : AX} {a b : Int} (h1 : gT T x = .int .i64 a) (h2 : gT T y = .int .i64 b) : Ab.ev (gT T) H nr (.bin .add x y) = some (.int .i64 (IntKind.i64.wrap (a + b)), [], 0) := by
  simp only [Ab.ev, h1, h2, binI, if_true, Option.bind_some, pureR]
theorem hT_eq {q : Nat} {L : List (List Int)} {h : List (Nat × Option Ab.Rows)} : mkh q ((teL L).map (shR q)) ++ h = hQ q (q + 1) L h := by
  have e : (nO hI L L.length).map (shR q) = nO hI L L.length := by
    refine (List.map_congr_left fun rows hr => ?_).trans (List.map_id' _)
    exact shR_plain (fun row h1 x h2 => nO_plain rows hr row h1 x h2)
  rw [teL, List.map_cons, nR_sh, e]
  rfl
theorem hok5 {W r0 r1 r2 r3 r4 : List Nat} (h : djB W r0 = true) : hokB [[], [], [1], [0, 1, 2], [0, 1, 2, 3]] [([], r0), ([], r1), (W, r2), ([], r3), ([], r4)] = true := by
  have e : ∀ l : List Nat, djB [] l = true := fun l => rfl
  have e2 : ∀ l : List Nat, djB l [] = true := fun l => by simp [djB]
  simp [hokB, List.range, List.range.loop, e, e2, h]
theorem mkh_fst : ∀ (objs : List Ab.Rows) (m x : Nat), x ∈ (mkh m objs).map (·.1) → m ≤ x ∧ x < m + objs.length
  | [], m, x, h => by simp [mkh] at h
  | o :: objs, m, x, h => by
    simp only [mkh, List.map_cons, List.mem_cons] at h
    rcases h with rfl | h
    · simp
    · have := mkh_fst objs (m + 1) x h
      simp only [List.length_cons]; omega
theorem djB_mkh {m b : Nat} {objs : List Ab.Rows} (h : b < m) : djB ((mkh m objs).map (·.1)) [b] = true := by
  unfold djB
  rw [List.all_eq_true]
  intro x hx
  have := (mkh_fst objs m x hx).1
  simp; omega
theorem hok9 {W r0 r1 r2 r3 r4 r5 r6 r7 r8 : List Nat} (h : djB W r0 = true) : hokB [[], [], [1], [0, 1, 2], [0, 1, 2, 3], [0, 1, 2, 3, 4], [0, 1, 2, 3, 4], [0, 1, 2, 3, 4, 5], [0, 1, 2, 3, 4, 5, 6, 7]] [([], r0), ([], r1), (W, r2), ([], r3), ([], r4), ([], r5), ([], r6), ([], r7), ([], r8)] = true := by
  have e : ∀ l : List Nat, djB [] l = true := fun l => rfl
  have e2 : ∀ l : List Nat, djB l [] = true := fun l => by simp [djB]
  simp [hokB, List.range, List.range.loop, e, e2, h]
/-! ### Sums over all lists -/
def aW (f : List Nat → Int) (s : Int) (b : List Nat) : Int := IntKind.i64.wrap (s + f b)
def stW (f : List Nat → Int) (s : Int × Int) (b : List Nat) : Int × Int := (IntKind.i64.wrap (s.1 + f b), IntKind.i64.wrap (s.2 + 1))
theorem stW_fold (f : List Nat → Int) : ∀ (l : List (List Nat)) (a c : Int), 0 ≤ c → c + l.length ≤ 9000000000000000000 → l.foldl (stW f) (a, c) = (l.foldl (aW f) a, c + l.length)
  | [], a, c, _, _ => by simp
  | b :: l, a, c, h1, h2 => by
    rw [List.length_cons] at h2
    have e : IntKind.i64.wrap (c + 1) = c + 1 := by rw [IntKind.wrap_i64]; omega
    rw [List.foldl_cons, List.foldl_cons, stW]
    simp only
    rw [e, stW_fold f l _ _ (by omega) (by omega), List.length_cons]
    congr 1
    omega
def fW (m : Md) (xs : List Ev) (k : Int) (b : List Nat) : Int := lw xs (gE m xs k) b (-1) xs.length
/-- All lists of boundaries. -/
def aL (m : Md) : List (List Nat) := bL m.y.toNat (m.p.toNat + 1)
def tS (m : Md) (xs : List Ev) (k : Int) (i : Nat) : Int := ((aL m).take i).foldl (aW (fW m xs k)) 0
theorem aL_get (m : Md) (i : Nat) : (bI m (m.p.toNat + 1)).getD i default = ci ((aL m).getD i []) := mci_get _ _
theorem aL_good {m : Md} {i : Nat} (h : i < (aL m).length) : GoodB m.y.toNat (m.p.toNat + 1) ((aL m).getD i []) := by
  refine bL_good _ _ ?_
  show (aL m).getD i [] ∈ aL m
  simp [List.getD_eq_getElem?_getD, List.getElem?_eq_getElem h]
theorem aL_len {m : Md} {xs : List Ev} (hG : GoodM m xs) : (aL m).length ≤ 8000 := by
  have h1 := hG.1
  have h2 := hG.2.2.1
  exact bL_len (by omega) (by omega)
theorem con62 (c nn : Bool) (m : Md) (xs : List Ev) (hG : GoodM m xs) (k : Int) : Con Try.prog 62 true [.agg (mdR c m xs), .vw nn ((pL m xs k xs.length).map nI)] (.tup [.int .i64 (tS m xs k (aL m).length), .int .i64 ((aL m).length : Int)]) [] := by
  refine con_of_wp mixed fun62 (by simp) [] plain_nil ?_
  unfold ac62 ro62
  simp only [zipT]
  have e0 : ∀ n : Nat, 0 + ((n : Int)).toNat = n := fun n => by simp
  have cB := con73 c m xs hG
  have h8 := aL_len hG
  have hag := aL_get m
  have hbl : (bI m (m.p.toNat + 1)).length = (aL m).length := bI_len _ _
  generalize bI m (m.p.toNat + 1) = L at *
  repeat (first
    | refine wC_a rfl ?_
    | refine q_s rfl ?_
    | refine q_b rfl ?_
    | refine wG_nil ?_
    | refine wG_g rfl ?_
    | refine wG_pure (o_len_vwm rfl) ?_
    | refine wG_pure (o_not_d rfl) ?_
    | refine wG_p rfl (by first | exact rfl | omega) ?_
    | refine wG_pure (o_str2 rfl rfl rfl) ?_
    | refine wG_pure (e_istr rfl rfl (by omega)) ?_
    | refine wG_pure (e_istr0 rfl rfl (by omega)) ?_
    | refine wG_pure (o_not rfl) ?_
    | refine wG_pure (e_ia_vw0 rfl rfl (by omega) rfl) ?_
    | refine wG_pure (e_ia_vwp rfl rfl (by omega) rfl) ?_
    | refine wG_pure (e_ia_vwm rfl rfl (by omega) (by omega) rfl) ?_
    | refine wG_pure (e_ia_vwi rfl rfl (by omega) rfl) ?_
    | refine wG_pure (e_ia_vwn rfl rfl (by omega) (by omega) rfl) ?_
    | refine wG_n rfl rfl ?_
    | refine wG_u rfl rfl ?_
    | refine wG_new (o_mks rfl rfl (by omega) (by decide)) ?_)
  refine wG_callG (v' := .sl 1 1 0 L.length) cB rfl rfl rfl ?_
  rw [hT_eq, teL_len]
  repeat (first
    | refine wC_a rfl ?_
    | refine q_s rfl ?_
    | refine q_b rfl ?_
    | refine wG_nil ?_
    | refine wG_g rfl ?_
    | refine wG_pure (o_len_vwm rfl) ?_
    | refine wG_pure (o_not_d rfl) ?_
    | refine wG_p rfl (by first | exact rfl | omega) ?_
    | refine wG_pure (o_str2 rfl rfl rfl) ?_
    | refine wG_pure (e_istr rfl rfl (by omega)) ?_
    | refine wG_pure (e_istr0 rfl rfl (by omega)) ?_
    | refine wG_pure (o_not rfl) ?_
    | refine wG_pure (e_ia_vw0 rfl rfl (by omega) rfl) ?_
    | refine wG_pure (e_ia_vwp rfl rfl (by omega) rfl) ?_
    | refine wG_pure (e_ia_vwm rfl rfl (by omega) (by omega) rfl) ?_
    | refine wG_pure (e_ia_vwi rfl rfl (by omega) rfl) ?_
    | refine wG_pure (e_ia_vwn rfl rfl (by omega) (by omega) rfl) ?_
    | refine wG_n rfl rfl ?_
    | refine wG_u rfl rfl ?_
    | refine wG_new (o_mks rfl rfl (by omega) (by decide)) ?_)
  have h0 : hg (hQ 1 2 L [(0, some [mdR c m xs])]) 0 = some [mdR c m xs] := hQ_out (by omega) (by omega) hg_here
  have hwf : wfH (hQ 1 2 L [(0, some [mdR c m xs])]) (1 + (L.length + 1)) := hQ_wf (by omega) (by omega) (wfH_cons (by omega) (mdR_ltr1' _) wfH_nil)
  refine wC_loopX Nat (fun i => ⟨[(1, .vw nn ((pL m xs k xs.length).map nI)), (2, .pt 0 0 0), (6, .sl 1 1 0 L.length), (7, .int .i64 (tS m xs k i)), (8, .int .i64 (i : Int))], hQ 1 2 L [(0, some [mdR c m xs])], 1 + (L.length + 1)⟩) (fun i => i ≤ L.length) (fun i => L.length - i) 0 (Nat.zero_le _) ?_ ?_
  · exact .inl (Le_of ⟨⟨rfl, rfl⟩, ⟨rfl, by simp [AV.ltr] <;> omega⟩, ⟨rfl, by simp [AV.ltr] <;> omega⟩, ⟨rfl, rfl⟩, ⟨rfl, rfl⟩, trivial⟩ (fun q rows hq => hq) hwf)
  intro i hi
  repeat (first
    | refine wC_a rfl ?_
    | refine q_s rfl ?_
    | refine q_b rfl ?_
    | refine wG_nil ?_
    | refine wG_g rfl ?_
    | refine wG_pure (o_len_vwm rfl) ?_
    | refine wG_pure (o_not_d rfl) ?_
    | refine wG_p rfl (by first | exact rfl | omega) ?_
    | refine wG_pure (o_str2 rfl rfl rfl) ?_
    | refine wG_pure (e_istr rfl rfl (by omega)) ?_
    | refine wG_pure (e_istr0 rfl rfl (by omega)) ?_
    | refine wG_pure (o_not rfl) ?_
    | refine wG_pure (e_ia_vw0 rfl rfl (by omega) rfl) ?_
    | refine wG_pure (e_ia_vwp rfl rfl (by omega) rfl) ?_
    | refine wG_pure (e_ia_vwm rfl rfl (by omega) (by omega) rfl) ?_
    | refine wG_pure (e_ia_vwi rfl rfl (by omega) rfl) ?_
    | refine wG_pure (e_ia_vwn rfl rfl (by omega) (by omega) rfl) ?_
    | refine wG_n rfl rfl ?_
    | refine wG_u rfl rfl ?_
    | refine wG_new (o_mks rfl rfl (by omega) (by decide)) ?_)
  refine wC_cond_d rfl (fun h5 => ?_) (fun h5 => ?_)
  · have hi2 : i < (aL m).length := by omega
    have gB := aL_good hi2
    have hin := hQ_in (q := 1) (b := 2) (L := L) (h' := [(0, some [mdR c m xs])]) (i := i) (by omega) (by omega)
    have hrow := hQ_row (b := 2) (L := L) (i := i) (by omega)
    rw [hag, ci_len] at hrow
    rw [hag, cb] at hin
    have hup : tS m xs k (i + 1) = aW (fW m xs k) (tS m xs k i) ((aL m).getD i []) := by
      unfold tS
      rw [foldl_take _ _ _ hi2]
      simp [List.getD_eq_getElem?_getD, List.getElem?_eq_getElem hi2]
    have cw := con74 c nn true m xs hG k ((aL m).getD i []) gB (-1)
    generalize (aL m).getD i [] = b at *
    repeat (first | refine wC_dregE ?_ | refine wE_v (o_ldt_pt rfl h0 rfl rfl rfl) rfl ?_ | (refine wE_v (e_ia_sl rfl rfl (by omega) (by omega)) rfl ?_; simp only [e0]) | refine wE_v (o_ldf_pt rfl hQ_q hrow rfl) rfl ?_ | refine wE_call cw (ag_any rfl (ag_any rfl (ag_sl rfl hin rfl nRow_plain (ag_int rfl ag_nil)))) rfl rfl ?_ | refine wE_v (o_addw rfl rfl) rfl ?_ | (first
    | refine wC_a rfl ?_
    | refine q_s rfl ?_
    | refine q_b rfl ?_
    | refine wG_nil ?_
    | refine wG_g rfl ?_
    | refine wG_pure (o_len_vwm rfl) ?_
    | refine wG_pure (o_not_d rfl) ?_
    | refine wG_p rfl (by first | exact rfl | omega) ?_
    | refine wG_pure (o_str2 rfl rfl rfl) ?_
    | refine wG_pure (e_istr rfl rfl (by omega)) ?_
    | refine wG_pure (e_istr0 rfl rfl (by omega)) ?_
    | refine wG_pure (o_not rfl) ?_
    | refine wG_pure (e_ia_vw0 rfl rfl (by omega) rfl) ?_
    | refine wG_pure (e_ia_vwp rfl rfl (by omega) rfl) ?_
    | refine wG_pure (e_ia_vwm rfl rfl (by omega) (by omega) rfl) ?_
    | refine wG_pure (e_ia_vwi rfl rfl (by omega) rfl) ?_
    | refine wG_pure (e_ia_vwn rfl rfl (by omega) (by omega) rfl) ?_
    | refine wG_n rfl rfl ?_
    | refine wG_u rfl rfl ?_
    | refine wG_new (o_mks rfl rfl (by omega) (by decide)) ?_) | (first
    | refine wE_nil (by kernel_rfl) ?_
    | refine wE_gy rfl ?_
    | refine wE_gn rfl rfl rfl ?_
    | refine wE_gu rfl rfl ?_
    | refine wE_gnn rfl rfl rfl ?_
    | refine wE_v (o_len_vwm rfl) rfl ?_
    | refine wE_v (o_not_d rfl) rfl ?_
    | refine wE_p rfl (by first | exact rfl | omega) rfl ?_
    | refine wE_v (o_str2 rfl rfl rfl) rfl ?_
    | refine wE_v (e_istr rfl rfl (by omega)) rfl ?_
    | refine wE_v (e_istr0 rfl rfl (by omega)) rfl ?_
    | refine wE_v (o_not rfl) rfl ?_
    | refine wE_v (e_ia_vw0 rfl rfl (by omega) rfl) rfl ?_
    | refine wE_v (e_ia_vwp rfl rfl (by omega) rfl) rfl ?_
    | refine wE_v (e_ia_vwm rfl rfl (by omega) (by omega) rfl) rfl ?_
    | refine wE_v (e_ia_vwi rfl rfl (by omega) rfl) rfl ?_
    | refine wE_v (e_ia_vwn rfl rfl (by omega) (by omega) rfl) rfl ?_
    | refine wE_n rfl rfl rfl ?_
    | refine wE_u rfl rfl rfl ?_
    | refine wE_new (o_mks rfl rfl (by omega) (by decide)) rfl ?_))
    refine ⟨i + 1, by omega, by omega, .inl (Le_of ⟨⟨rfl, rfl⟩, ⟨rfl, by simp [AV.ltr] <;> omega⟩, ⟨rfl, by simp [AV.ltr] <;> omega⟩, ⟨?_, rfl⟩, ⟨rfl, rfl⟩, trivial⟩ (fun q rows hq => hq) hwf)⟩
    rw [hup]; rfl
  · have hi3 : i = (aL m).length := by omega
    subst hi3
    rw [hbl]
    repeat (first
    | refine wC_a rfl ?_
    | refine q_s rfl ?_
    | refine q_b rfl ?_
    | refine wG_nil ?_
    | refine wG_g rfl ?_
    | refine wG_pure (o_len_vwm rfl) ?_
    | refine wG_pure (o_not_d rfl) ?_
    | refine wG_p rfl (by first | exact rfl | omega) ?_
    | refine wG_pure (o_str2 rfl rfl rfl) ?_
    | refine wG_pure (e_istr rfl rfl (by omega)) ?_
    | refine wG_pure (e_istr0 rfl rfl (by omega)) ?_
    | refine wG_pure (o_not rfl) ?_
    | refine wG_pure (e_ia_vw0 rfl rfl (by omega) rfl) ?_
    | refine wG_pure (e_ia_vwp rfl rfl (by omega) rfl) ?_
    | refine wG_pure (e_ia_vwm rfl rfl (by omega) (by omega) rfl) ?_
    | refine wG_pure (e_ia_vwi rfl rfl (by omega) rfl) ?_
    | refine wG_pure (e_ia_vwn rfl rfl (by omega) (by omega) rfl) ?_
    | refine wG_n rfl rfl ?_
    | refine wG_u rfl rfl ?_
    | refine wG_new (o_mks rfl rfl (by omega) (by decide)) ?_)
    exact ret_pl (.inr rfl) (retVs_2 (retV_mv rfl) (retV_mv rfl)) rfl rfl (by simp)
def hsW (c : Bool) (m : Md) (xs : List Ev) (s : Int × Int) : List (Nat × Option Ab.Rows) := [(2, some [[.int .i64 s.2]]), (1, some [[.int .i64 s.1]]), (0, some [mdR c m xs])]
theorem hsW_wf {c : Bool} {m : Md} {xs : List Ev} {nr : Nat} (h : 3 ≤ nr) (s : Int × Int) : wfH (hsW c m xs s) nr :=
  wfH_cons (by omega) (by simp [AV.ltr]) (wfH_cons (by omega) (by simp [AV.ltr]) (wfH_cons (by omega) (mdR_ltr1' _) wfH_nil))
theorem vis_W {c : Bool} {m : Md} {xs : List Ev} (hG : GoodM m xs) (s : Int × Int) (b : List Nat) (hb : GoodB m.y.toNat (m.p.toNat + 1) b) : Sh Try.prog 65 ([.sl (3 + 2) 1 0 (m.p.toNat + 1)] ++ [.pt 1 0 0, .pt 0 0 0, .pt 2 0 0]) (eF (mdR c m xs) 3 65 [.pt 1 0 0, .pt 0 0 0, .pt 2 0 0] (m.p.toNat + 1) b (hsW c m xs s)) 8 (.tup []) (eF (mdR c m xs) 3 65 [.pt 1 0 0, .pt 0 0 0, .pt 2 0 0] (m.p.toNat + 1) b (hsW c m xs (stW (fW m xs (-1)) s b))) 8 := by
  refine sh_of_wp mixed fun65 (by simp) ?_
  unfold ac65 ro65
  simp only [zipT, List.cons_append, List.nil_append]
  have cw := con66 c true m xs hG b hb (-1)
  have hl := hb.len
  repeat (first | refine wC_dregE ?_ | refine wE_call cw (ag_any rfl (ag_sl rfl rfl hl.symm nRow_plain (ag_int rfl ag_nil))) rfl rfl ?_ | refine wE_v (o_addw rfl rfl) rfl ?_ | (first
    | refine wC_a rfl ?_
    | refine q_s rfl ?_
    | refine q_b rfl ?_
    | refine wG_nil ?_
    | refine wG_g rfl ?_
    | refine wG_pure (o_len_vwm rfl) ?_
    | refine wG_pure (o_not_d rfl) ?_
    | refine wG_p rfl (by first | exact rfl | omega) ?_
    | refine wG_pure (o_str2 rfl rfl rfl) ?_
    | refine wG_pure (e_istr rfl rfl (by omega)) ?_
    | refine wG_pure (e_istr0 rfl rfl (by omega)) ?_
    | refine wG_pure (o_not rfl) ?_
    | refine wG_pure (e_ia_vw0 rfl rfl (by omega) rfl) ?_
    | refine wG_pure (e_ia_vwp rfl rfl (by omega) rfl) ?_
    | refine wG_pure (e_ia_vwm rfl rfl (by omega) (by omega) rfl) ?_
    | refine wG_pure (e_ia_vwi rfl rfl (by omega) rfl) ?_
    | refine wG_pure (e_ia_vwn rfl rfl (by omega) (by omega) rfl) ?_
    | refine wG_n rfl rfl ?_
    | refine wG_u rfl rfl ?_
    | refine wG_new (o_mks rfl rfl (by omega) (by decide)) ?_) | (first
    | refine wE_nil (by kernel_rfl) ?_
    | refine wE_gy rfl ?_
    | refine wE_gn rfl rfl rfl ?_
    | refine wE_gu rfl rfl ?_
    | refine wE_gnn rfl rfl rfl ?_
    | refine wE_v (o_len_vwm rfl) rfl ?_
    | refine wE_v (o_not_d rfl) rfl ?_
    | refine wE_p rfl (by first | exact rfl | omega) rfl ?_
    | refine wE_v (o_str2 rfl rfl rfl) rfl ?_
    | refine wE_v (e_istr rfl rfl (by omega)) rfl ?_
    | refine wE_v (e_istr0 rfl rfl (by omega)) rfl ?_
    | refine wE_v (o_not rfl) rfl ?_
    | refine wE_v (e_ia_vw0 rfl rfl (by omega) rfl) rfl ?_
    | refine wE_v (e_ia_vwp rfl rfl (by omega) rfl) rfl ?_
    | refine wE_v (e_ia_vwm rfl rfl (by omega) (by omega) rfl) rfl ?_
    | refine wE_v (e_ia_vwi rfl rfl (by omega) rfl) rfl ?_
    | refine wE_v (e_ia_vwn rfl rfl (by omega) (by omega) rfl) rfl ?_
    | refine wE_n rfl rfl rfl ?_
    | refine wE_u rfl rfl rfl ?_
    | refine wE_new (o_mks rfl rfl (by omega) (by decide)) rfl ?_) | refine wG_pure (o_addw rfl rfl) ?_)
  refine ⟨trivial, [], rfl, Le_of ⟨⟨rfl, rfl⟩, trivial⟩ (fun q rows hq => ?_) (eF_wf (nr := 8) (by decide) (mdR_ltr _) rfl (hsW_wf (by decide) _)), Nat.le_refl _⟩
  refine Eq.trans ?_ hq
  simp only [eF, hsW, stW, fW, Ab.hg, upd]
  repeat' split
  all_goals (first | rfl | (exfalso; omega) | omega)
theorem con28_yes (c : Bool) (m : Md) (xs : List Ev) (h3 : xs.length ≤ 1048576) (hL : LenE xs 1048576) (hG : GoodM m xs) : Con Try.prog 28 true [.agg (mdR c m xs)] (.tup [.int .i64 (tS m xs (-1) (aL m).length), .int .i64 ((aL m).length : Int), .bool true]) [] := by
  classical
  refine con_of_wp mixed fun28 (by simp) [] plain_nil ?_
  unfold ac28 ro28
  simp only [zipT]
  have c1 := con14 c m xs h3 hL
  rw [decide_eq_true hG] at c1
  have hE := (each_sh (σ := Int × Int) (step := stW (fW m xs (-1))) (J := fun _ => True) (hs := hsW c m xs) (nrS := fun _ => 8) (c := c) (m := m) (xs := xs) (N := 3) (fv := 65) (n := m.p.toNat + 1) (caps := [.pt 1 0 0, .pt 0 0 0, .pt 2 0 0]) hG rfl (fun _ => Nat.le_refl _) (fun s _ => hsW_wf (by omega) s) rfl (fun _ _ => Nat.le_refl _) (fun s b _ hb => ⟨vis_W hG s b hb, trivial⟩) (fun s q rows _ hq => by
    by_cases e : q < 3
    · exact .inl e
    · simp [hsW, Ab.hg, upd, show q ≠ 2 by omega, show q ≠ 1 by omega, show q ≠ 0 by omega] at hq) (0, 0) trivial rfl).1
  have h8 := aL_len hG
  have ez : (bL m.y.toNat (m.p.toNat + 1)).foldl (stW (fW m xs (-1))) (0, 0) = (tS m xs (-1) (aL m).length, ((aL m).length : Int)) := by
    have := stW_fold (fW m xs (-1)) (aL m) 0 0 (by omega) (by omega)
    show (aL m).foldl _ _ = _
    rw [this, tS, List.take_length]
    congr 1
    omega
  rw [ez] at hE
  generalize tS m xs (-1) (aL m).length = z at *
  have hE2 : Sh Try.prog 64 [.agg (mdR c m xs), .fn 65 [.pt 1 0 0, .pt 0 0 0, .pt 2 0 0]] [(2, some [[.int .i64 0]]), (1, some [[.int .i64 0]]), (2, some [[.int .i64 0]]), (1, some [[.int .i64 0]]), (0, some [mdR c m xs])] 3 (.tup []) (hsW c m xs (z, ((aL m).length : Int))) 8 := by
    refine Sh_hg ?_ hE
    funext q
    simp only [hsW, Ab.hg, upd]
    repeat' split
    all_goals (first | rfl | (exfalso; omega) | omega)
  repeat (first | refine wG_call c1 rfl rfl ?_ | refine wG_pure (o_mkf rfl) ?_ | refine wG_callS hE2 rfl ?_ | refine wC_dregE ?_ | (first
    | refine wC_a rfl ?_
    | refine q_s rfl ?_
    | refine q_b rfl ?_
    | refine wG_nil ?_
    | refine wG_g rfl ?_
    | refine wG_pure (o_len_vwm rfl) ?_
    | refine wG_pure (o_not_d rfl) ?_
    | refine wG_p rfl (by first | exact rfl | omega) ?_
    | refine wG_pure (o_str2 rfl rfl rfl) ?_
    | refine wG_pure (e_istr rfl rfl (by omega)) ?_
    | refine wG_pure (e_istr0 rfl rfl (by omega)) ?_
    | refine wG_pure (o_not rfl) ?_
    | refine wG_pure (e_ia_vw0 rfl rfl (by omega) rfl) ?_
    | refine wG_pure (e_ia_vwp rfl rfl (by omega) rfl) ?_
    | refine wG_pure (e_ia_vwm rfl rfl (by omega) (by omega) rfl) ?_
    | refine wG_pure (e_ia_vwi rfl rfl (by omega) rfl) ?_
    | refine wG_pure (e_ia_vwn rfl rfl (by omega) (by omega) rfl) ?_
    | refine wG_n rfl rfl ?_
    | refine wG_u rfl rfl ?_
    | refine wG_new (o_mks rfl rfl (by omega) (by decide)) ?_) | (first
    | refine wE_nil (by kernel_rfl) ?_
    | refine wE_gy rfl ?_
    | refine wE_gn rfl rfl rfl ?_
    | refine wE_gu rfl rfl ?_
    | refine wE_gnn rfl rfl rfl ?_
    | refine wE_v (o_len_vwm rfl) rfl ?_
    | refine wE_v (o_not_d rfl) rfl ?_
    | refine wE_p rfl (by first | exact rfl | omega) rfl ?_
    | refine wE_v (o_str2 rfl rfl rfl) rfl ?_
    | refine wE_v (e_istr rfl rfl (by omega)) rfl ?_
    | refine wE_v (e_istr0 rfl rfl (by omega)) rfl ?_
    | refine wE_v (o_not rfl) rfl ?_
    | refine wE_v (e_ia_vw0 rfl rfl (by omega) rfl) rfl ?_
    | refine wE_v (e_ia_vwp rfl rfl (by omega) rfl) rfl ?_
    | refine wE_v (e_ia_vwm rfl rfl (by omega) (by omega) rfl) rfl ?_
    | refine wE_v (e_ia_vwi rfl rfl (by omega) rfl) rfl ?_
    | refine wE_v (e_ia_vwn rfl rfl (by omega) (by omega) rfl) rfl ?_
    | refine wE_n rfl rfl rfl ?_
    | refine wE_u rfl rfl rfl ?_
    | refine wE_new (o_mks rfl rfl (by omega) (by decide)) rfl ?_))
  exact ret_pl (.inr rfl) (retVs_3 (retV_mv rfl) (retV_mv rfl) (retV_mv rfl)) rfl rfl (by simp)
theorem con27_yes (c : Bool) (m : Md) (xs : List Ev) (h3 : xs.length ≤ 1048576) (hL : LenE xs 1048576) (hG : GoodM m xs) : Con Try.prog 27 true [.agg (mdR c m xs)] (.tup [.int .i64 (tS m xs (-1) (aL m).length), .int .i64 ((aL m).length : Int), .bool true]) [] := by
  classical
  refine con_of_wp mixed fun27 (by simp) [] plain_nil ?_
  unfold ac27 ro27
  simp only [zipT]
  have c1 := con39 c m xs h3 hL
  rw [decide_eq_true hG] at c1
  have cA := con63 c m xs hG
  have cT := con62 c true m xs hG (-1)
  generalize pL m xs (-1) xs.length = L at *
  repeat (first | refine wG_call c1 rfl rfl ?_ | refine wC_dregE ?_ | refine wE_callG (v' := .sl 1 1 0 L.length) cA rfl rfl rfl rfl ?_ | refine wE_call cT (ag_any rfl (ag_any (dr_L L (fun i rows hi => shOget hi)) ag_nil)) rfl rfl ?_ | refine wE_nil (hok9 (djB_mkh (by omega))) ?_ | (first
    | refine wC_a rfl ?_
    | refine q_s rfl ?_
    | refine q_b rfl ?_
    | refine wG_nil ?_
    | refine wG_g rfl ?_
    | refine wG_pure (o_len_vwm rfl) ?_
    | refine wG_pure (o_not_d rfl) ?_
    | refine wG_p rfl (by first | exact rfl | omega) ?_
    | refine wG_pure (o_str2 rfl rfl rfl) ?_
    | refine wG_pure (e_istr rfl rfl (by omega)) ?_
    | refine wG_pure (e_istr0 rfl rfl (by omega)) ?_
    | refine wG_pure (o_not rfl) ?_
    | refine wG_pure (e_ia_vw0 rfl rfl (by omega) rfl) ?_
    | refine wG_pure (e_ia_vwp rfl rfl (by omega) rfl) ?_
    | refine wG_pure (e_ia_vwm rfl rfl (by omega) (by omega) rfl) ?_
    | refine wG_pure (e_ia_vwi rfl rfl (by omega) rfl) ?_
    | refine wG_pure (e_ia_vwn rfl rfl (by omega) (by omega) rfl) ?_
    | refine wG_n rfl rfl ?_
    | refine wG_u rfl rfl ?_
    | refine wG_new (o_mks rfl rfl (by omega) (by decide)) ?_) | (first
    | refine wE_nil (by kernel_rfl) ?_
    | refine wE_gy rfl ?_
    | refine wE_gn rfl rfl rfl ?_
    | refine wE_gu rfl rfl ?_
    | refine wE_gnn rfl rfl rfl ?_
    | refine wE_v (o_len_vwm rfl) rfl ?_
    | refine wE_v (o_not_d rfl) rfl ?_
    | refine wE_p rfl (by first | exact rfl | omega) rfl ?_
    | refine wE_v (o_str2 rfl rfl rfl) rfl ?_
    | refine wE_v (e_istr rfl rfl (by omega)) rfl ?_
    | refine wE_v (e_istr0 rfl rfl (by omega)) rfl ?_
    | refine wE_v (o_not rfl) rfl ?_
    | refine wE_v (e_ia_vw0 rfl rfl (by omega) rfl) rfl ?_
    | refine wE_v (e_ia_vwp rfl rfl (by omega) rfl) rfl ?_
    | refine wE_v (e_ia_vwm rfl rfl (by omega) (by omega) rfl) rfl ?_
    | refine wE_v (e_ia_vwi rfl rfl (by omega) rfl) rfl ?_
    | refine wE_v (e_ia_vwn rfl rfl (by omega) (by omega) rfl) rfl ?_
    | refine wE_n rfl rfl rfl ?_
    | refine wE_u rfl rfl rfl ?_
    | refine wE_new (o_mks rfl rfl (by omega) (by decide)) rfl ?_))
  exact ret_pl (.inr rfl) (retVs_3 (retV_mv rfl) (retV_mv rfl) (retV_mv rfl)) rfl rfl (by simp)
theorem con27_no (c : Bool) (m : Md) (xs : List Ev) (h3 : xs.length ≤ 1048576) (hL : LenE xs 1048576) (hG : ¬ GoodM m xs) : Con Try.prog 27 true [.agg (mdR c m xs)] (.tup [.int .i64 0, .int .i64 0, .bool false]) [] := by
  classical
  refine con_of_wp mixed fun27 (by simp) [] plain_nil ?_
  unfold ac27 ro27
  simp only [zipT]
  have c1 := con39 c m xs h3 hL
  rw [decide_eq_false hG] at c1
  repeat (first | refine wG_call c1 rfl rfl ?_ | (first
    | refine wC_a rfl ?_
    | refine q_s rfl ?_
    | refine q_b rfl ?_
    | refine wG_nil ?_
    | refine wG_g rfl ?_
    | refine wG_pure (o_len_vwm rfl) ?_
    | refine wG_pure (o_not_d rfl) ?_
    | refine wG_p rfl (by first | exact rfl | omega) ?_
    | refine wG_pure (o_str2 rfl rfl rfl) ?_
    | refine wG_pure (e_istr rfl rfl (by omega)) ?_
    | refine wG_pure (e_istr0 rfl rfl (by omega)) ?_
    | refine wG_pure (o_not rfl) ?_
    | refine wG_pure (e_ia_vw0 rfl rfl (by omega) rfl) ?_
    | refine wG_pure (e_ia_vwp rfl rfl (by omega) rfl) ?_
    | refine wG_pure (e_ia_vwm rfl rfl (by omega) (by omega) rfl) ?_
    | refine wG_pure (e_ia_vwi rfl rfl (by omega) rfl) ?_
    | refine wG_pure (e_ia_vwn rfl rfl (by omega) (by omega) rfl) ?_
    | refine wG_n rfl rfl ?_
    | refine wG_u rfl rfl ?_
    | refine wG_new (o_mks rfl rfl (by omega) (by decide)) ?_))
  exact ret_pl (.inr rfl) (retVs_3 (retV_mv rfl) (retV_mv rfl) (retV_mv rfl)) rfl rfl (by simp)
theorem con28_no (c : Bool) (m : Md) (xs : List Ev) (h3 : xs.length ≤ 1048576) (hL : LenE xs 1048576) (hG : ¬ GoodM m xs) : Con Try.prog 28 true [.agg (mdR c m xs)] (.tup [.int .i64 0, .int .i64 0, .bool false]) [] := by
  classical
  refine con_of_wp mixed fun28 (by simp) [] plain_nil ?_
  unfold ac28 ro28
  simp only [zipT]
  have c1 := con14 c m xs h3 hL
  rw [decide_eq_false hG] at c1
  repeat (first | refine wG_call c1 rfl rfl ?_ | (first
    | refine wC_a rfl ?_
    | refine q_s rfl ?_
    | refine q_b rfl ?_
    | refine wG_nil ?_
    | refine wG_g rfl ?_
    | refine wG_pure (o_len_vwm rfl) ?_
    | refine wG_pure (o_not_d rfl) ?_
    | refine wG_p rfl (by first | exact rfl | omega) ?_
    | refine wG_pure (o_str2 rfl rfl rfl) ?_
    | refine wG_pure (e_istr rfl rfl (by omega)) ?_
    | refine wG_pure (e_istr0 rfl rfl (by omega)) ?_
    | refine wG_pure (o_not rfl) ?_
    | refine wG_pure (e_ia_vw0 rfl rfl (by omega) rfl) ?_
    | refine wG_pure (e_ia_vwp rfl rfl (by omega) rfl) ?_
    | refine wG_pure (e_ia_vwm rfl rfl (by omega) (by omega) rfl) ?_
    | refine wG_pure (e_ia_vwi rfl rfl (by omega) rfl) ?_
    | refine wG_pure (e_ia_vwn rfl rfl (by omega) (by omega) rfl) ?_
    | refine wG_n rfl rfl ?_
    | refine wG_u rfl rfl ?_
    | refine wG_new (o_mks rfl rfl (by omega) (by decide)) ?_))
  exact ret_pl (.inr rfl) (retVs_3 (retV_mv rfl) (retV_mv rfl) (retV_mv rfl)) rfl rfl (by simp)
end Go.Proofs.Ytnohaclnpbpjbaa.Dst
