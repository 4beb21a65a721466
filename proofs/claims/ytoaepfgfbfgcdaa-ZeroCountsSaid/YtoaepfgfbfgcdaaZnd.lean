/- Part 4 of the claim's own texts: the words and the printed functions that the proof reaches. No conditions. -/
import Derived.Test.YtoaepfgfbfgcdaaZnc
namespace Go.Proofs.Ytoaepfgfbfgcdaa.Q
open Go.RowKit Go.Proofs.YtoaepfgfbfgcdaaW.PrintWords Go.Proofs.YtoaepfgfbfgcdaaW.PrintLast Go.Proofs.YtoaepfgfbfgcdaaW.PrintMore
attribute [local go_sem] max2_int min2_int max_two min_two max_three min_three max_four min_four
set_option linter.unusedVariables false
set_option linter.unusedSimpArgs false
def zero_behind.l0 : Nat → Int → List (S149) → Int → Int → Option ((List (S149)))
 | 0, _, _, _, _ => none
 | k + 1, x0, x5, x10, x11 => if x11 < x10 then (if 0 ≤ x11 then (if x11 < (x5.length : Int) then (if ((rd_T149 x5 x11).f0) = 3 then ((some (x5.set (x11 : Int).toNat (⟨(rd_T149 x5 x11).f0, wrap64 (((rd_T149 x5 x11).f1) + x0), (rd_T149 x5 x11).f2, (⟨(rd_T149 x5 x11).f3.f0, (rd_T149 x5 x11).f3.f1⟩ : S28)⟩ : S149) : List (S149))).bind fun y424 => (zero_behind.l0 k x0 (y424.set (x11 : Int).toNat (⟨(rd_T149 y424 x11).f0, (rd_T149 y424 x11).f1, wrap64 (((rd_T149 y424 x11).f2) + x0), (⟨(rd_T149 y424 x11).f3.f0, (rd_T149 y424 x11).f3.f1⟩ : S28)⟩ : S149)) x10 (wrap64 (x11 + 1)))) else (if ((rd_T149 x5 x11).f0) = 4 then ((some (x5.set (x11 : Int).toNat (⟨(rd_T149 x5 x11).f0, wrap64 (((rd_T149 x5 x11).f1) + x0), (rd_T149 x5 x11).f2, (⟨(rd_T149 x5 x11).f3.f0, (rd_T149 x5 x11).f3.f1⟩ : S28)⟩ : S149) : List (S149))).bind fun y429 => (zero_behind.l0 k x0 (y429.set (x11 : Int).toNat (⟨(rd_T149 y429 x11).f0, (rd_T149 y429 x11).f1, wrap64 (((rd_T149 y429 x11).f2) + x0), (⟨(rd_T149 y429 x11).f3.f0, (rd_T149 y429 x11).f3.f1⟩ : S28)⟩ : S149)) x10 (wrap64 (x11 + 1)))) else (zero_behind.l0 k x0 x5 x10 (wrap64 (x11 + 1))))) else (none)) else (none)) else (some x5)
def zero_behind.f (k : Nat) (a0 : Int) (l1 : List (S149)) : Option ((List (S149))) := (api_Op.f l1).bind fun t419 => (zero_behind.l0 k a0 t419 (t419.length : Int) 0)
set_option maxHeartbeats 8000000 in
set_option maxRecDepth 100000 in
theorem zero_behind.calls (k : Nat) (a0 : Int) (A1 : Option Addr) (c1 : Nat) (l1 : List (S149)) (r : List (S149)) (w : World) (hr1 : Kd.C k149 w A1 l1.length l1) (hc1 : l1.length ≤ c1) (h : zero_behind.f k a0 l1 = some r) :
  Calls Try.prog 133 #[.int .i64 a0, .slice A1 l1.length c1] w fun e w' => ∃ v0_ : Value, e = .returned (v0_) ∧ Kd.R k149 149 w' w.heap.size (fun _ => True) v0_ r ∧ Below w.heap.size w w' := by
 have HR1 := Aside0.mk hr1
 have HC1 := Aside0.mk hc1
 clear hr1 hc1
 have HB := Aside0.mk (Below.refl w.heap.size w)
 have H : ((api_Op.f l1).bind fun t419 => (zero_behind.l0 k a0 t419 (t419.length : Int) 0)) = some r := h
 clear h
 replace H := Option.bind_eq_some_iff.mp H
 obtain ⟨t419, A30, H⟩ := H
 replace H : (zero_behind.l0 k a0 t419 (t419.length : Int) 0) = some r := H
 have A3 := Aside0.mk A30
 clear A30
 have H' := Aside0.mk H
 clear H
 go_enter Try.func133, Try.ntmps133
 go_wp2_with (first | ((with_reducible refine gate_callee (f := 165) rfl ?_); refine goesL_ (some 8) rfl rfl Try.func165 (by kernel_rfl) rfl #[.slice A1 l1.length c1] rfl (by (try simp only [List.map_toArray, List.map_cons, List.map_nil]); first | done | rfl | (simp only [List.length_drop, List.length_take]; rfl)) ?_; (with_reducible refine (api_Op.calls _ _ l1 t419 _ ?side1 ?side2 A3.out).mono ?_); (case side1 => repeat (first | exact HR1.out | (with_reducible refine Kd.C_alloc ?_ _) | (with_reducible refine Kd.C_drewN ?_ _) | (with_reducible refine Kd.C_drew ?_))); (case side2 => exact HC1.out); rintro e w4 ⟨v420, rfl, ho0, hb⟩; refine ⟨_, rfl, ?_⟩; have n0_ := Aside0.mk (Kd.R_lower ho0 (below_size (by exact lF HB.out))); have n1_ := Aside0.mk (below_step (by exact lF HB.out) hb); clear HB; have HO421 := n0_; have HB := n1_; clear n0_ n1_; (try clear hb); (try clear hb2); (try clear hk); (try clear hi); (try clear ho0); obtain ⟨Ao5, co5, eo5⟩ := Kd.R_slice HO421.out; subst eo5))
 go_loopg [11] k (fun kq v11 w' => ∃ (x5_1 : List (S149)) (x11_1 : Int), v11 = .int .i64 x11_1 ∧ Aside0 (zero_behind.l0 kq a0 x5_1 (t419.length : Int) x11_1 = some r) ∧ Aside0 (kq ≤ k) ∧ Aside0 (Kd.R k149 149 w' w.heap.size (fun _ => True) (.slice Ao5 t419.length co5) x5_1) ∧ Aside0 (Below w.heap.size w w'))
 case atStart => exact ⟨(t419), (0), (by first | rfl | (simp; done) | (simp [*]; done)), H', ⟨Nat.le_refl _⟩, ⟨by exact rF HO421.out⟩, ⟨by repeat (first | (with_reducible first | exact HB.out | apply bA | apply bN | apply bD) | exact HB.out)⟩⟩
 case round =>
  clear H'
  try clear c1
  try clear p2
  obtain ⟨x5_1, x11_1, rfl, HA, HK1, HO_5, HB⟩ := hrel
  have hl5_1 := (Kd.R_reads' HO_5.out).1
  rw [hl5_1] at HO_5
  (try simp only [hl5_1])
  cases gk with
  | zero => exact absurd HA.out (by simp [zero_behind.l0])
  | succ k1 =>
   have H := HA.out
   clear HA
   simp only [zero_behind.l0] at H
   by_cases c6 : x11_1 < (t419.length : Int)
   ·rw [if_pos c6] at H
    have c6b0 : decide (x11_1 < (t419.length : Int)) = true := decide_eq_true c6
    (try rw [hl5_1] at c6b0)
    clear c6
    by_cases c7 : 0 ≤ x11_1
    ·rw [if_pos c7] at H
     have c7b0 : decide (0 ≤ x11_1) = true := decide_eq_true c7
     clear c7
     by_cases c8 : x11_1 < (x5_1.length : Int)
     ·rw [if_pos c8] at H
      have c8b0 : decide (x11_1 < (x5_1.length : Int)) = true := decide_eq_true c8
      (try rw [hl5_1] at c8b0)
      clear c8
      by_cases c9 : ((rd_T149 x5_1 x11_1).f0) = 3
      ·rw [if_pos c9] at H
       have c9b0 : (((rd_T149 x5_1 x11_1).f0) == 3) = true := beq_iff_eq.mpr c9
       have c9b1 : (((rd_T149 x5_1 x11_1).f0) != 3) = false := bne_eq_false_iff_eq.mpr c9
       clear c9
       obtain ⟨y424, hy424⟩ : ∃ y_ : List (S149), y_ = (x5_1.set (x11_1 : Int).toNat (⟨(rd_T149 x5_1 x11_1).f0, wrap64 (((rd_T149 x5_1 x11_1).f1) + a0), (rd_T149 x5_1 x11_1).f2, (⟨(rd_T149 x5_1 x11_1).f3.f0, (rd_T149 x5_1 x11_1).f3.f1⟩ : S28)⟩ : S149)) := ⟨_, rfl⟩
       replace H : (zero_behind.l0 k1 a0 (y424.set (x11_1 : Int).toNat (⟨(rd_T149 y424 x11_1).f0, (rd_T149 y424 x11_1).f1, wrap64 (((rd_T149 y424 x11_1).f2) + a0), (⟨(rd_T149 y424 x11_1).f3.f0, (rd_T149 y424 x11_1).f3.f1⟩ : S28)⟩ : S149)) (t419.length : Int) (wrap64 (x11_1 + 1))) = some r := by first | (rw [hy424]; with_reducible exact H) | (have H2_ := (Option.bind_some _ _).symm.trans H; rw [hy424]; with_reducible exact H2_) | (have H2_ := (Option.bind_some _ _).symm.trans H; with_reducible exact H2_) | with_reducible exact H | (rw [hy424]; exact H) | exact H
       have Ny424 := Aside0.mk hy424
       clear hy424
       obtain ⟨y426, hy426⟩ : ∃ y_ : List (S149), y_ = (y424.set (x11_1 : Int).toNat (⟨(rd_T149 y424 x11_1).f0, (rd_T149 y424 x11_1).f1, wrap64 (((rd_T149 y424 x11_1).f2) + a0), (⟨(rd_T149 y424 x11_1).f3.f0, (rd_T149 y424 x11_1).f3.f1⟩ : S28)⟩ : S149)) := ⟨_, rfl⟩
       replace H : (zero_behind.l0 k1 a0 y426 (t419.length : Int) (wrap64 (x11_1 + 1))) = some r := by first | (rw [hy426]; with_reducible exact H) | (have H2_ := (Option.bind_some _ _).symm.trans H; rw [hy426]; with_reducible exact H2_) | (have H2_ := (Option.bind_some _ _).symm.trans H; with_reducible exact H2_) | with_reducible exact H | (rw [hy426]; exact H) | exact H
       have Ny426 := Aside0.mk hy426
       clear hy426
       have H' := Aside0.mk H
       clear H
       have p422 : 0 ≤ (x11_1 : Int) := of_decide_eq_true (by first | (with_reducible assumption) | assumption)
       have q422 : x11_1 < (x5_1.length : Int) := of_decide_eq_true (by first | (with_reducible assumption) | assumption)
       obtain ⟨ad422, e422, hx422_0, hx422_1, hx422_2, hx422_3, hx422_4⟩ := at_T149 (Kd.R_reads' HO_5.out).2.2 x11_1 p422 q422
       cases e422
       replace p422 := eq_true p422
       replace q422 := eq_true q422
       have p423 : 0 ≤ (x11_1 : Int) := of_decide_eq_true (by first | (with_reducible assumption) | assumption)
       have q423 : x11_1 < (x5_1.length : Int) := of_decide_eq_true (by first | (with_reducible assumption) | assumption)
       obtain ⟨ad423, e423, hx423_0, hx423_1, hx423_2, hx423_3, hx423_4⟩ := at_T149 (Kd.R_reads' HO_5.out).2.2 x11_1 p423 q423
       obtain rfl : ad422 = ad423 := (by injection e423)
       replace p423 := eq_true p423
       replace q423 := eq_true q423
       have p10 : 0 ≤ (x11_1 : Int) := of_decide_eq_true (by first | (with_reducible assumption) | assumption)
       have q10 : (x11_1 : Int) < ((x5_1.length : Int) : Int) := of_decide_eq_true (by first | (with_reducible assumption) | assumption)
       obtain ⟨go10, co10, eo10, gb10, gl10, cl10, HG10⟩ := Kd.R_form HO_5.out (by omega)
       (first | cases eo10 | (injection eo10 with ea_ en_ ec_; (first | subst ea_ | (injection ea_ with ea_; subst ea_)); subst ec_; clear en_))
       have GB10 := Aside0.mk gb10
       have GG10 := Aside0.mk HG10
       clear gb10 gl10 HG10
       (first | simp only [add_plain] at hx422_0 | skip)
       (first | simp only [add_plain] at hx422_1 | skip)
       (first | simp only [add_plain] at hx422_2 | skip)
       (first | simp only [add_plain] at hx422_3 | skip)
       (first | simp only [add_plain] at hx422_4 | skip)
       (first | simp only [add_plain] at hx423_0 | skip)
       (first | simp only [add_plain] at hx423_1 | skip)
       (first | simp only [add_plain] at hx423_2 | skip)
       (first | simp only [add_plain] at hx423_3 | skip)
       (first | simp only [add_plain] at hx423_4 | skip)
       obtain ⟨ce10, hcl10, hM10, hcc10, hfr10⟩ := Kd.R_elem HO_5.out z149 (x11_1 : Int) p10 q10
       obtain rfl := k149_openM hM10
       have hx10_0 : wr.cell? ⟨go10, (x11_1 : Int).toNat * 5, none⟩ = some (.int .i64 ((rd_T149 x5_1 x11_1).f0)) := hcc10 0 _ rfl
       have hx10_1 : wr.cell? ⟨go10, (x11_1 : Int).toNat * 5 + 1, none⟩ = some (.int .i64 ((rd_T149 x5_1 x11_1).f1)) := hcc10 1 _ rfl
       have hx10_2 : wr.cell? ⟨go10, (x11_1 : Int).toNat * 5 + 2, none⟩ = some (.int .i64 ((rd_T149 x5_1 x11_1).f2)) := hcc10 2 _ rfl
       have hx10_3 : wr.cell? ⟨go10, (x11_1 : Int).toNat * 5 + 3, none⟩ = some (.int .u64 ((rd_T149 x5_1 x11_1).f3.f0)) := hcc10 3 _ rfl
       have hx10_4 : wr.cell? ⟨go10, (x11_1 : Int).toNat * 5 + 4, none⟩ = some (.int .u64 ((rd_T149 x5_1 x11_1).f3.f1)) := hcc10 4 _ rfl
       have hf10_0 : wr.frozen? ⟨go10, (x11_1 : Int).toNat * 5, none⟩ = false := hfr10 0
       have hf10_1 : wr.frozen? ⟨go10, (x11_1 : Int).toNat * 5 + 1, none⟩ = false := hfr10 1
       have hf10_2 : wr.frozen? ⟨go10, (x11_1 : Int).toNat * 5 + 2, none⟩ = false := hfr10 2
       have hf10_3 : wr.frozen? ⟨go10, (x11_1 : Int).toNat * 5 + 3, none⟩ = false := hfr10 3
       have hf10_4 : wr.frozen? ⟨go10, (x11_1 : Int).toNat * 5 + 4, none⟩ = false := hfr10 4
       clear hcl10 hcc10 hfr10 hM10
       replace p10 := eq_true p10
       replace q10 := eq_true q10
       have HX12 := Aside0.mk (show Kd.R k149 149 wr w.heap.size (fun _ => True) (.slice (some ⟨go10, 0, none⟩) x5_1.length co5) x5_1 from (by exact rF HO_5.out))
       obtain ⟨ce12, hcl12, hM12, hcc12, hfr12⟩ := Kd.R_elem HX12.out z149 (x11_1 : Int) (of_decide_eq_true (by first | (with_reducible assumption) | assumption)) (by have h_ : (x11_1 : Int) < ((x5_1.length : Int) : Int) := of_decide_eq_true (by first | (with_reducible assumption) | assumption); first | exact h_ | (have e_ := (Kd.R_reads' HO_5.out).1; omega) | simpa using h_)
       obtain rfl := k149_openM hM12
       have HP12 := Kd.R_seg HX12.out (x11_1 : Int) (of_decide_eq_true (by first | (with_reducible assumption) | assumption)) (by have h_ : (x11_1 : Int) < ((x5_1.length : Int) : Int) := of_decide_eq_true (by first | (with_reducible assumption) | assumption); first | exact h_ | (have e_ := (Kd.R_reads' HO_5.out).1; omega) | simpa using h_) (seg := [.int .i64 (wrap64 (((rd_T149 x5_1 x11_1).f1) + a0))]) (j := 1) hcl12 hcc12 (show 2 ≤ 5 from by decide) (x' := (⟨(rd_T149 x5_1 x11_1).f0, wrap64 (((rd_T149 x5_1 x11_1).f1) + a0), (rd_T149 x5_1 x11_1).f2, (⟨(rd_T149 x5_1 x11_1).f3.f0, (rd_T149 x5_1 x11_1).f3.f1⟩ : S28)⟩ : S149)) (k149_mkM _ _ _ (⟨(rd_T149 x5_1 x11_1).f0, wrap64 (((rd_T149 x5_1 x11_1).f1) + a0), (rd_T149 x5_1 x11_1).f2, (⟨(rd_T149 x5_1 x11_1).f3.f0, (rd_T149 x5_1 x11_1).f3.f1⟩ : S28)⟩ : S149) ) (fun _ hk => hk)
       have hx12_1 := hcc12 1 _ rfl
       (try simp only [show (k149).sz = 5 from rfl, Nat.mul_one, Nat.add_zero] at hx12_1)
       have hf12_1 := hfr12 1
       (try simp only [show (k149).sz = 5 from rfl, Nat.mul_one, Nat.add_zero] at hf12_1)
       clear hcl12 hcc12 hfr12 hM12
       go_wp2_with (first | ((with_reducible refine gate_store (t := 3) (p := 36) rfl ?_); refine store_event (t := 3) (p := 36) (v := ?vo_w13) (w1 := (wr.setCell ⟨go10, (x11_1 : Int).toNat * 5 + 1, none⟩ (.int .i64 (wrap64 (((rd_T149 x5_1 x11_1).f1) + a0))))) ?hg ?ho ?hn ?hr ?_; (case ho => rfl); (case hg => rfl); (case hn => rfl); (case hr => first | (go_simp; done) | (go_simp; rfl)); intro w13 hw; have hg : wr.grownBy w13 (some go10) := (by rw [hw]; exact HP12.2); have hp_ : Kd.R k149 149 w13 w.heap.size (fun _ => True) (.slice (some ⟨go10, 0, none⟩) x5_1.length co5) y424 := (by rw [hw, Ny424.out]; exact HP12.1); clear HP12; have n0_ := Aside0.mk (hp_); have n1_ := Aside0.mk ((by rw [hw]; exact below_set (HB.out) GB10.out : Below w.heap.size w w13)); clear HO_5; clear HB; have HO_5 := n0_; have HB := n1_; clear n0_ n1_; clear hg hw hp_; have p425 : 0 ≤ (x11_1 : Int) := of_decide_eq_true (by first | (with_reducible assumption) | assumption); have q425 : x11_1 < (y424.length : Int) := (by have h_ : (x11_1 : Int) < ((x5_1.length : Int) : Int) := of_decide_eq_true (by first | (with_reducible assumption) | assumption); first | (have e_ := (Kd.R_reads' HO_5.out).1; omega) | simpa only [Ny424.out, List.length_set] using h_); have ql425 : ((x11_1 : Int) < ((x5_1.length : Int) : Int)) = True := eq_true (of_decide_eq_true (by first | (with_reducible assumption) | assumption)); obtain ⟨ad425, e425, hx425_0, hx425_1, hx425_2, hx425_3, hx425_4⟩ := at_T149 (Kd.R_reads' HO_5.out).2.2 x11_1 p425 q425; obtain rfl : (⟨go10, 0, none⟩ : Addr) = ad425 := (by injection e425); (first | simp only [add_plain] at hx425_0 | simp only [add_at] at hx425_0 | simp only [Addr.add, Nat.zero_add] at hx425_0 | skip); (first | simp only [add_plain] at hx425_1 | simp only [add_at] at hx425_1 | simp only [Addr.add, Nat.zero_add] at hx425_1 | skip); (first | simp only [add_plain] at hx425_2 | simp only [add_at] at hx425_2 | simp only [Addr.add, Nat.zero_add] at hx425_2 | skip); (first | simp only [add_plain] at hx425_3 | simp only [add_at] at hx425_3 | simp only [Addr.add, Nat.zero_add] at hx425_3 | skip); (first | simp only [add_plain] at hx425_4 | simp only [add_at] at hx425_4 | simp only [Addr.add, Nat.zero_add] at hx425_4 | skip); replace p425 := eq_true p425; replace q425 := eq_true q425; have p11 : 0 ≤ (x11_1 : Int) := of_decide_eq_true (by first | (with_reducible assumption) | assumption); have q11 : (x11_1 : Int) < ((x5_1.length : Int) : Int) := of_decide_eq_true (by first | (with_reducible assumption) | assumption); obtain ⟨ce11, hcl11, hM11, hcc11, hfr11⟩ := Kd.R_elem HO_5.out z149 (x11_1 : Int) p11 q11; obtain rfl := k149_openM hM11; have hx11_0 : w13.cell? ⟨go10, (x11_1 : Int).toNat * 5, none⟩ = some (.int .i64 ((rd_T149 y424 x11_1).f0)) := hcc11 0 _ rfl; have hx11_1 : w13.cell? ⟨go10, (x11_1 : Int).toNat * 5 + 1, none⟩ = some (.int .i64 ((rd_T149 y424 x11_1).f1)) := hcc11 1 _ rfl; have hx11_2 : w13.cell? ⟨go10, (x11_1 : Int).toNat * 5 + 2, none⟩ = some (.int .i64 ((rd_T149 y424 x11_1).f2)) := hcc11 2 _ rfl; have hx11_3 : w13.cell? ⟨go10, (x11_1 : Int).toNat * 5 + 3, none⟩ = some (.int .u64 ((rd_T149 y424 x11_1).f3.f0)) := hcc11 3 _ rfl; have hx11_4 : w13.cell? ⟨go10, (x11_1 : Int).toNat * 5 + 4, none⟩ = some (.int .u64 ((rd_T149 y424 x11_1).f3.f1)) := hcc11 4 _ rfl; have hf11_0 : w13.frozen? ⟨go10, (x11_1 : Int).toNat * 5, none⟩ = false := hfr11 0; have hf11_1 : w13.frozen? ⟨go10, (x11_1 : Int).toNat * 5 + 1, none⟩ = false := hfr11 1; have hf11_2 : w13.frozen? ⟨go10, (x11_1 : Int).toNat * 5 + 2, none⟩ = false := hfr11 2; have hf11_3 : w13.frozen? ⟨go10, (x11_1 : Int).toNat * 5 + 3, none⟩ = false := hfr11 3; have hf11_4 : w13.frozen? ⟨go10, (x11_1 : Int).toNat * 5 + 4, none⟩ = false := hfr11 4; clear hcl11 hcc11 hfr11 hM11; replace p11 := eq_true p11; replace q11 := eq_true q11; have HX14 := Aside0.mk (show Kd.R k149 149 w13 w.heap.size (fun _ => True) (.slice (some ⟨go10, 0, none⟩) x5_1.length co5) y424 from (by exact rF HO_5.out)); obtain ⟨ce14, hcl14, hM14, hcc14, hfr14⟩ := Kd.R_elem HX14.out z149 (x11_1 : Int) (of_decide_eq_true (by first | (with_reducible assumption) | assumption)) (by have h_ : (x11_1 : Int) < ((x5_1.length : Int) : Int) := of_decide_eq_true (by first | (with_reducible assumption) | assumption); first | exact h_ | (have e_ := (Kd.R_reads' HO_5.out).1; omega) | simpa using h_); obtain rfl := k149_openM hM14; have HP14 := Kd.R_seg HX14.out (x11_1 : Int) (of_decide_eq_true (by first | (with_reducible assumption) | assumption)) (by have h_ : (x11_1 : Int) < ((x5_1.length : Int) : Int) := of_decide_eq_true (by first | (with_reducible assumption) | assumption); first | exact h_ | (have e_ := (Kd.R_reads' HO_5.out).1; omega) | simpa using h_) (seg := [.int .i64 (wrap64 (((rd_T149 y424 x11_1).f2) + a0))]) (j := 2) hcl14 hcc14 (show 3 ≤ 5 from by decide) (x' := (⟨(rd_T149 y424 x11_1).f0, (rd_T149 y424 x11_1).f1, wrap64 (((rd_T149 y424 x11_1).f2) + a0), (⟨(rd_T149 y424 x11_1).f3.f0, (rd_T149 y424 x11_1).f3.f1⟩ : S28)⟩ : S149)) (k149_mkM _ _ _ (⟨(rd_T149 y424 x11_1).f0, (rd_T149 y424 x11_1).f1, wrap64 (((rd_T149 y424 x11_1).f2) + a0), (⟨(rd_T149 y424 x11_1).f3.f0, (rd_T149 y424 x11_1).f3.f1⟩ : S28)⟩ : S149) ) (fun _ hk => hk); have hx14_2 := hcc14 2 _ rfl; (try simp only [show (k149).sz = 5 from rfl, Nat.mul_one, Nat.add_zero] at hx14_2); have hf14_2 := hfr14 2; (try simp only [show (k149).sz = 5 from rfl, Nat.mul_one, Nat.add_zero] at hf14_2); clear hcl14 hcc14 hfr14 hM14) | ((with_reducible refine gate_store (t := 3) (p := 45) rfl ?_); refine store_event (t := 3) (p := 45) (v := ?vo_w15) (w1 := (w13.setCell ⟨go10, (x11_1 : Int).toNat * 5 + 2, none⟩ (.int .i64 (wrap64 (((rd_T149 y424 x11_1).f2) + a0))))) ?hg ?ho ?hn ?hr ?_; (case ho => rfl); (case hg => rfl); (case hn => rfl); (case hr => first | (go_simp; done) | (go_simp; rfl)); intro w15 hw; have hg : w13.grownBy w15 (some go10) := (by rw [hw]; exact HP14.2); have hp_ : Kd.R k149 149 w15 w.heap.size (fun _ => True) (.slice (some ⟨go10, 0, none⟩) x5_1.length co5) y426 := (by rw [hw, Ny426.out]; exact HP14.1); clear HP14; have n0_ := Aside0.mk (hp_); have n1_ := Aside0.mk ((by rw [hw]; exact below_set (HB.out) GB10.out : Below w.heap.size w w15)); clear HO_5; clear HB; have HO_5 := n0_; have HB := n1_; clear n0_ n1_; clear hg hw hp_))
       (try simp only [← hl5_1])
       go_roundg k1
       case measure => have := HK1.out; omega
       case rel => exact ⟨(y426), (wrap64 (x11_1 + 1)), (by first | rfl | (simp; done) | (simp [*]; done)), H', ⟨by have := HK1.out; omega⟩, ⟨by (try simp only [hl5_1]); exact rF HO_5.out⟩, ⟨by repeat (first | (with_reducible first | exact HB.out | apply bA | apply bN | apply bD) | exact HB.out)⟩⟩
      ·rw [if_neg c9] at H
       have c9b0 : (((rd_T149 x5_1 x11_1).f0) == 3) = false := beq_eq_false_iff_ne.mpr c9
       have c9b1 : (((rd_T149 x5_1 x11_1).f0) != 3) = true := bne_iff_ne.mpr c9
       by_cases c16 : ((rd_T149 x5_1 x11_1).f0) = 4
       ·rw [if_pos c16] at H
        have c16b0 : (((rd_T149 x5_1 x11_1).f0) == 4) = true := beq_iff_eq.mpr c16
        have c16b1 : (((rd_T149 x5_1 x11_1).f0) != 4) = false := bne_eq_false_iff_eq.mpr c16
        clear c16
        obtain ⟨y429, hy429⟩ : ∃ y_ : List (S149), y_ = (x5_1.set (x11_1 : Int).toNat (⟨(rd_T149 x5_1 x11_1).f0, wrap64 (((rd_T149 x5_1 x11_1).f1) + a0), (rd_T149 x5_1 x11_1).f2, (⟨(rd_T149 x5_1 x11_1).f3.f0, (rd_T149 x5_1 x11_1).f3.f1⟩ : S28)⟩ : S149)) := ⟨_, rfl⟩
        replace H : (zero_behind.l0 k1 a0 (y429.set (x11_1 : Int).toNat (⟨(rd_T149 y429 x11_1).f0, (rd_T149 y429 x11_1).f1, wrap64 (((rd_T149 y429 x11_1).f2) + a0), (⟨(rd_T149 y429 x11_1).f3.f0, (rd_T149 y429 x11_1).f3.f1⟩ : S28)⟩ : S149)) (t419.length : Int) (wrap64 (x11_1 + 1))) = some r := by first | (rw [hy429]; with_reducible exact H) | (have H2_ := (Option.bind_some _ _).symm.trans H; rw [hy429]; with_reducible exact H2_) | (have H2_ := (Option.bind_some _ _).symm.trans H; with_reducible exact H2_) | with_reducible exact H | (rw [hy429]; exact H) | exact H
        have Ny429 := Aside0.mk hy429
        clear hy429
        obtain ⟨y431, hy431⟩ : ∃ y_ : List (S149), y_ = (y429.set (x11_1 : Int).toNat (⟨(rd_T149 y429 x11_1).f0, (rd_T149 y429 x11_1).f1, wrap64 (((rd_T149 y429 x11_1).f2) + a0), (⟨(rd_T149 y429 x11_1).f3.f0, (rd_T149 y429 x11_1).f3.f1⟩ : S28)⟩ : S149)) := ⟨_, rfl⟩
        replace H : (zero_behind.l0 k1 a0 y431 (t419.length : Int) (wrap64 (x11_1 + 1))) = some r := by first | (rw [hy431]; with_reducible exact H) | (have H2_ := (Option.bind_some _ _).symm.trans H; rw [hy431]; with_reducible exact H2_) | (have H2_ := (Option.bind_some _ _).symm.trans H; with_reducible exact H2_) | with_reducible exact H | (rw [hy431]; exact H) | exact H
        have Ny431 := Aside0.mk hy431
        clear hy431
        have H' := Aside0.mk H
        clear H
        have p422 : 0 ≤ (x11_1 : Int) := of_decide_eq_true (by first | (with_reducible assumption) | assumption)
        have q422 : x11_1 < (x5_1.length : Int) := of_decide_eq_true (by first | (with_reducible assumption) | assumption)
        obtain ⟨ad422, e422, hx422_0, hx422_1, hx422_2, hx422_3, hx422_4⟩ := at_T149 (Kd.R_reads' HO_5.out).2.2 x11_1 p422 q422
        cases e422
        replace p422 := eq_true p422
        replace q422 := eq_true q422
        have p427 : 0 ≤ (x11_1 : Int) := of_decide_eq_true (by first | (with_reducible assumption) | assumption)
        have q427 : x11_1 < (x5_1.length : Int) := of_decide_eq_true (by first | (with_reducible assumption) | assumption)
        obtain ⟨ad427, e427, hx427_0, hx427_1, hx427_2, hx427_3, hx427_4⟩ := at_T149 (Kd.R_reads' HO_5.out).2.2 x11_1 p427 q427
        obtain rfl : ad422 = ad427 := (by injection e427)
        replace p427 := eq_true p427
        replace q427 := eq_true q427
        have p428 : 0 ≤ (x11_1 : Int) := of_decide_eq_true (by first | (with_reducible assumption) | assumption)
        have q428 : x11_1 < (x5_1.length : Int) := of_decide_eq_true (by first | (with_reducible assumption) | assumption)
        obtain ⟨ad428, e428, hx428_0, hx428_1, hx428_2, hx428_3, hx428_4⟩ := at_T149 (Kd.R_reads' HO_5.out).2.2 x11_1 p428 q428
        obtain rfl : ad422 = ad428 := (by injection e428)
        replace p428 := eq_true p428
        replace q428 := eq_true q428
        have p17 : 0 ≤ (x11_1 : Int) := of_decide_eq_true (by first | (with_reducible assumption) | assumption)
        have q17 : (x11_1 : Int) < ((x5_1.length : Int) : Int) := of_decide_eq_true (by first | (with_reducible assumption) | assumption)
        obtain ⟨go17, co17, eo17, gb17, gl17, cl17, HG17⟩ := Kd.R_form HO_5.out (by omega)
        (first | cases eo17 | (injection eo17 with ea_ en_ ec_; (first | subst ea_ | (injection ea_ with ea_; subst ea_)); subst ec_; clear en_))
        have GB17 := Aside0.mk gb17
        have GG17 := Aside0.mk HG17
        clear gb17 gl17 HG17
        (first | simp only [add_plain] at hx422_0 | skip)
        (first | simp only [add_plain] at hx422_1 | skip)
        (first | simp only [add_plain] at hx422_2 | skip)
        (first | simp only [add_plain] at hx422_3 | skip)
        (first | simp only [add_plain] at hx422_4 | skip)
        (first | simp only [add_plain] at hx427_0 | skip)
        (first | simp only [add_plain] at hx427_1 | skip)
        (first | simp only [add_plain] at hx427_2 | skip)
        (first | simp only [add_plain] at hx427_3 | skip)
        (first | simp only [add_plain] at hx427_4 | skip)
        (first | simp only [add_plain] at hx428_0 | skip)
        (first | simp only [add_plain] at hx428_1 | skip)
        (first | simp only [add_plain] at hx428_2 | skip)
        (first | simp only [add_plain] at hx428_3 | skip)
        (first | simp only [add_plain] at hx428_4 | skip)
        obtain ⟨ce17, hcl17, hM17, hcc17, hfr17⟩ := Kd.R_elem HO_5.out z149 (x11_1 : Int) p17 q17
        obtain rfl := k149_openM hM17
        have hx17_0 : wr.cell? ⟨go17, (x11_1 : Int).toNat * 5, none⟩ = some (.int .i64 ((rd_T149 x5_1 x11_1).f0)) := hcc17 0 _ rfl
        have hx17_1 : wr.cell? ⟨go17, (x11_1 : Int).toNat * 5 + 1, none⟩ = some (.int .i64 ((rd_T149 x5_1 x11_1).f1)) := hcc17 1 _ rfl
        have hx17_2 : wr.cell? ⟨go17, (x11_1 : Int).toNat * 5 + 2, none⟩ = some (.int .i64 ((rd_T149 x5_1 x11_1).f2)) := hcc17 2 _ rfl
        have hx17_3 : wr.cell? ⟨go17, (x11_1 : Int).toNat * 5 + 3, none⟩ = some (.int .u64 ((rd_T149 x5_1 x11_1).f3.f0)) := hcc17 3 _ rfl
        have hx17_4 : wr.cell? ⟨go17, (x11_1 : Int).toNat * 5 + 4, none⟩ = some (.int .u64 ((rd_T149 x5_1 x11_1).f3.f1)) := hcc17 4 _ rfl
        have hf17_0 : wr.frozen? ⟨go17, (x11_1 : Int).toNat * 5, none⟩ = false := hfr17 0
        have hf17_1 : wr.frozen? ⟨go17, (x11_1 : Int).toNat * 5 + 1, none⟩ = false := hfr17 1
        have hf17_2 : wr.frozen? ⟨go17, (x11_1 : Int).toNat * 5 + 2, none⟩ = false := hfr17 2
        have hf17_3 : wr.frozen? ⟨go17, (x11_1 : Int).toNat * 5 + 3, none⟩ = false := hfr17 3
        have hf17_4 : wr.frozen? ⟨go17, (x11_1 : Int).toNat * 5 + 4, none⟩ = false := hfr17 4
        clear hcl17 hcc17 hfr17 hM17
        replace p17 := eq_true p17
        replace q17 := eq_true q17
        have HX19 := Aside0.mk (show Kd.R k149 149 wr w.heap.size (fun _ => True) (.slice (some ⟨go17, 0, none⟩) x5_1.length co5) x5_1 from (by exact rF HO_5.out))
        obtain ⟨ce19, hcl19, hM19, hcc19, hfr19⟩ := Kd.R_elem HX19.out z149 (x11_1 : Int) (of_decide_eq_true (by first | (with_reducible assumption) | assumption)) (by have h_ : (x11_1 : Int) < ((x5_1.length : Int) : Int) := of_decide_eq_true (by first | (with_reducible assumption) | assumption); first | exact h_ | (have e_ := (Kd.R_reads' HO_5.out).1; omega) | simpa using h_)
        obtain rfl := k149_openM hM19
        have HP19 := Kd.R_seg HX19.out (x11_1 : Int) (of_decide_eq_true (by first | (with_reducible assumption) | assumption)) (by have h_ : (x11_1 : Int) < ((x5_1.length : Int) : Int) := of_decide_eq_true (by first | (with_reducible assumption) | assumption); first | exact h_ | (have e_ := (Kd.R_reads' HO_5.out).1; omega) | simpa using h_) (seg := [.int .i64 (wrap64 (((rd_T149 x5_1 x11_1).f1) + a0))]) (j := 1) hcl19 hcc19 (show 2 ≤ 5 from by decide) (x' := (⟨(rd_T149 x5_1 x11_1).f0, wrap64 (((rd_T149 x5_1 x11_1).f1) + a0), (rd_T149 x5_1 x11_1).f2, (⟨(rd_T149 x5_1 x11_1).f3.f0, (rd_T149 x5_1 x11_1).f3.f1⟩ : S28)⟩ : S149)) (k149_mkM _ _ _ (⟨(rd_T149 x5_1 x11_1).f0, wrap64 (((rd_T149 x5_1 x11_1).f1) + a0), (rd_T149 x5_1 x11_1).f2, (⟨(rd_T149 x5_1 x11_1).f3.f0, (rd_T149 x5_1 x11_1).f3.f1⟩ : S28)⟩ : S149) ) (fun _ hk => hk)
        have hx19_1 := hcc19 1 _ rfl
        (try simp only [show (k149).sz = 5 from rfl, Nat.mul_one, Nat.add_zero] at hx19_1)
        have hf19_1 := hfr19 1
        (try simp only [show (k149).sz = 5 from rfl, Nat.mul_one, Nat.add_zero] at hf19_1)
        clear hcl19 hcc19 hfr19 hM19
        go_wp2_with (first | ((with_reducible refine gate_store (t := 3) (p := 36) rfl ?_); refine store_event (t := 3) (p := 36) (v := ?vo_w20) (w1 := (wr.setCell ⟨go17, (x11_1 : Int).toNat * 5 + 1, none⟩ (.int .i64 (wrap64 (((rd_T149 x5_1 x11_1).f1) + a0))))) ?hg ?ho ?hn ?hr ?_; (case ho => rfl); (case hg => rfl); (case hn => rfl); (case hr => first | (go_simp; done) | (go_simp; rfl)); intro w20 hw; have hg : wr.grownBy w20 (some go17) := (by rw [hw]; exact HP19.2); have hp_ : Kd.R k149 149 w20 w.heap.size (fun _ => True) (.slice (some ⟨go17, 0, none⟩) x5_1.length co5) y429 := (by rw [hw, Ny429.out]; exact HP19.1); clear HP19; have n0_ := Aside0.mk (hp_); have n1_ := Aside0.mk ((by rw [hw]; exact below_set (HB.out) GB17.out : Below w.heap.size w w20)); clear HO_5; clear HB; have HO_5 := n0_; have HB := n1_; clear n0_ n1_; clear hg hw hp_; have p430 : 0 ≤ (x11_1 : Int) := of_decide_eq_true (by first | (with_reducible assumption) | assumption); have q430 : x11_1 < (y429.length : Int) := (by have h_ : (x11_1 : Int) < ((x5_1.length : Int) : Int) := of_decide_eq_true (by first | (with_reducible assumption) | assumption); first | (have e_ := (Kd.R_reads' HO_5.out).1; omega) | simpa only [Ny429.out, List.length_set] using h_); have ql430 : ((x11_1 : Int) < ((x5_1.length : Int) : Int)) = True := eq_true (of_decide_eq_true (by first | (with_reducible assumption) | assumption)); obtain ⟨ad430, e430, hx430_0, hx430_1, hx430_2, hx430_3, hx430_4⟩ := at_T149 (Kd.R_reads' HO_5.out).2.2 x11_1 p430 q430; obtain rfl : (⟨go17, 0, none⟩ : Addr) = ad430 := (by injection e430); (first | simp only [add_plain] at hx430_0 | simp only [add_at] at hx430_0 | simp only [Addr.add, Nat.zero_add] at hx430_0 | skip); (first | simp only [add_plain] at hx430_1 | simp only [add_at] at hx430_1 | simp only [Addr.add, Nat.zero_add] at hx430_1 | skip); (first | simp only [add_plain] at hx430_2 | simp only [add_at] at hx430_2 | simp only [Addr.add, Nat.zero_add] at hx430_2 | skip); (first | simp only [add_plain] at hx430_3 | simp only [add_at] at hx430_3 | simp only [Addr.add, Nat.zero_add] at hx430_3 | skip); (first | simp only [add_plain] at hx430_4 | simp only [add_at] at hx430_4 | simp only [Addr.add, Nat.zero_add] at hx430_4 | skip); replace p430 := eq_true p430; replace q430 := eq_true q430; have p18 : 0 ≤ (x11_1 : Int) := of_decide_eq_true (by first | (with_reducible assumption) | assumption); have q18 : (x11_1 : Int) < ((x5_1.length : Int) : Int) := of_decide_eq_true (by first | (with_reducible assumption) | assumption); obtain ⟨ce18, hcl18, hM18, hcc18, hfr18⟩ := Kd.R_elem HO_5.out z149 (x11_1 : Int) p18 q18; obtain rfl := k149_openM hM18; have hx18_0 : w20.cell? ⟨go17, (x11_1 : Int).toNat * 5, none⟩ = some (.int .i64 ((rd_T149 y429 x11_1).f0)) := hcc18 0 _ rfl; have hx18_1 : w20.cell? ⟨go17, (x11_1 : Int).toNat * 5 + 1, none⟩ = some (.int .i64 ((rd_T149 y429 x11_1).f1)) := hcc18 1 _ rfl; have hx18_2 : w20.cell? ⟨go17, (x11_1 : Int).toNat * 5 + 2, none⟩ = some (.int .i64 ((rd_T149 y429 x11_1).f2)) := hcc18 2 _ rfl; have hx18_3 : w20.cell? ⟨go17, (x11_1 : Int).toNat * 5 + 3, none⟩ = some (.int .u64 ((rd_T149 y429 x11_1).f3.f0)) := hcc18 3 _ rfl; have hx18_4 : w20.cell? ⟨go17, (x11_1 : Int).toNat * 5 + 4, none⟩ = some (.int .u64 ((rd_T149 y429 x11_1).f3.f1)) := hcc18 4 _ rfl; have hf18_0 : w20.frozen? ⟨go17, (x11_1 : Int).toNat * 5, none⟩ = false := hfr18 0; have hf18_1 : w20.frozen? ⟨go17, (x11_1 : Int).toNat * 5 + 1, none⟩ = false := hfr18 1; have hf18_2 : w20.frozen? ⟨go17, (x11_1 : Int).toNat * 5 + 2, none⟩ = false := hfr18 2; have hf18_3 : w20.frozen? ⟨go17, (x11_1 : Int).toNat * 5 + 3, none⟩ = false := hfr18 3; have hf18_4 : w20.frozen? ⟨go17, (x11_1 : Int).toNat * 5 + 4, none⟩ = false := hfr18 4; clear hcl18 hcc18 hfr18 hM18; replace p18 := eq_true p18; replace q18 := eq_true q18; have HX21 := Aside0.mk (show Kd.R k149 149 w20 w.heap.size (fun _ => True) (.slice (some ⟨go17, 0, none⟩) x5_1.length co5) y429 from (by exact rF HO_5.out)); obtain ⟨ce21, hcl21, hM21, hcc21, hfr21⟩ := Kd.R_elem HX21.out z149 (x11_1 : Int) (of_decide_eq_true (by first | (with_reducible assumption) | assumption)) (by have h_ : (x11_1 : Int) < ((x5_1.length : Int) : Int) := of_decide_eq_true (by first | (with_reducible assumption) | assumption); first | exact h_ | (have e_ := (Kd.R_reads' HO_5.out).1; omega) | simpa using h_); obtain rfl := k149_openM hM21; have HP21 := Kd.R_seg HX21.out (x11_1 : Int) (of_decide_eq_true (by first | (with_reducible assumption) | assumption)) (by have h_ : (x11_1 : Int) < ((x5_1.length : Int) : Int) := of_decide_eq_true (by first | (with_reducible assumption) | assumption); first | exact h_ | (have e_ := (Kd.R_reads' HO_5.out).1; omega) | simpa using h_) (seg := [.int .i64 (wrap64 (((rd_T149 y429 x11_1).f2) + a0))]) (j := 2) hcl21 hcc21 (show 3 ≤ 5 from by decide) (x' := (⟨(rd_T149 y429 x11_1).f0, (rd_T149 y429 x11_1).f1, wrap64 (((rd_T149 y429 x11_1).f2) + a0), (⟨(rd_T149 y429 x11_1).f3.f0, (rd_T149 y429 x11_1).f3.f1⟩ : S28)⟩ : S149)) (k149_mkM _ _ _ (⟨(rd_T149 y429 x11_1).f0, (rd_T149 y429 x11_1).f1, wrap64 (((rd_T149 y429 x11_1).f2) + a0), (⟨(rd_T149 y429 x11_1).f3.f0, (rd_T149 y429 x11_1).f3.f1⟩ : S28)⟩ : S149) ) (fun _ hk => hk); have hx21_2 := hcc21 2 _ rfl; (try simp only [show (k149).sz = 5 from rfl, Nat.mul_one, Nat.add_zero] at hx21_2); have hf21_2 := hfr21 2; (try simp only [show (k149).sz = 5 from rfl, Nat.mul_one, Nat.add_zero] at hf21_2); clear hcl21 hcc21 hfr21 hM21) | ((with_reducible refine gate_store (t := 3) (p := 45) rfl ?_); refine store_event (t := 3) (p := 45) (v := ?vo_w22) (w1 := (w20.setCell ⟨go17, (x11_1 : Int).toNat * 5 + 2, none⟩ (.int .i64 (wrap64 (((rd_T149 y429 x11_1).f2) + a0))))) ?hg ?ho ?hn ?hr ?_; (case ho => rfl); (case hg => rfl); (case hn => rfl); (case hr => first | (go_simp; done) | (go_simp; rfl)); intro w22 hw; have hg : w20.grownBy w22 (some go17) := (by rw [hw]; exact HP21.2); have hp_ : Kd.R k149 149 w22 w.heap.size (fun _ => True) (.slice (some ⟨go17, 0, none⟩) x5_1.length co5) y431 := (by rw [hw, Ny431.out]; exact HP21.1); clear HP21; have n0_ := Aside0.mk (hp_); have n1_ := Aside0.mk ((by rw [hw]; exact below_set (HB.out) GB17.out : Below w.heap.size w w22)); clear HO_5; clear HB; have HO_5 := n0_; have HB := n1_; clear n0_ n1_; clear hg hw hp_))
        (try simp only [← hl5_1])
        go_roundg k1
        case measure => have := HK1.out; omega
        case rel => exact ⟨(y431), (wrap64 (x11_1 + 1)), (by first | rfl | (simp; done) | (simp [*]; done)), H', ⟨by have := HK1.out; omega⟩, ⟨by (try simp only [hl5_1]); exact rF HO_5.out⟩, ⟨by repeat (first | (with_reducible first | exact HB.out | apply bA | apply bN | apply bD) | exact HB.out)⟩⟩
       ·rw [if_neg c16] at H
        have c16b0 : (((rd_T149 x5_1 x11_1).f0) == 4) = false := beq_eq_false_iff_ne.mpr c16
        have c16b1 : (((rd_T149 x5_1 x11_1).f0) != 4) = true := bne_iff_ne.mpr c16
        have H' := Aside0.mk H
        clear H
        have p422 : 0 ≤ (x11_1 : Int) := of_decide_eq_true (by first | (with_reducible assumption) | assumption)
        have q422 : x11_1 < (x5_1.length : Int) := of_decide_eq_true (by first | (with_reducible assumption) | assumption)
        obtain ⟨ad422, e422, hx422_0, hx422_1, hx422_2, hx422_3, hx422_4⟩ := at_T149 (Kd.R_reads' HO_5.out).2.2 x11_1 p422 q422
        cases e422
        replace p422 := eq_true p422
        replace q422 := eq_true q422
        have p427 : 0 ≤ (x11_1 : Int) := of_decide_eq_true (by first | (with_reducible assumption) | assumption)
        have q427 : x11_1 < (x5_1.length : Int) := of_decide_eq_true (by first | (with_reducible assumption) | assumption)
        obtain ⟨ad427, e427, hx427_0, hx427_1, hx427_2, hx427_3, hx427_4⟩ := at_T149 (Kd.R_reads' HO_5.out).2.2 x11_1 p427 q427
        obtain rfl : ad422 = ad427 := (by injection e427)
        replace p427 := eq_true p427
        replace q427 := eq_true q427
        go_wp2
        (try simp only [← hl5_1])
        go_roundg k1
        case measure => have := HK1.out; omega
        case rel => exact ⟨(x5_1), (wrap64 (x11_1 + 1)), (by first | rfl | (simp; done) | (simp [*]; done)), H', ⟨by have := HK1.out; omega⟩, ⟨by (try simp only [hl5_1]); exact rF HO_5.out⟩, ⟨by repeat (first | (with_reducible first | exact HB.out | apply bA | apply bN | apply bD) | exact HB.out)⟩⟩
     ·rw [if_neg c8] at H
      exact absurd H (by simp)
    ·rw [if_neg c7] at H
     exact absurd H (by simp)
   ·rw [if_neg c6] at H
    have c6b0 : decide (x11_1 < (t419.length : Int)) = false := decide_eq_false c6
    (try rw [hl5_1] at c6b0)
    clear c6
    obtain rfl := Option.some.inj H
    go_wp2
    go_ret
    exact ⟨_, by first | rfl | (simp [errW_none, errW_some] <;> rfl) | (simp [*, errW_none, errW_some] <;> rfl), by exact rF HO_5.out, by repeat (first | (with_reducible first | exact HB.out | apply bA | apply bN | apply bD) | exact HB.out)⟩
def zero_mix.l0 : Nat → Int → Int → List (S149) → Int → List (List (S149)) → Int → Int → Int → Int → Int → Int → Option ((List (S149)))
 | 0, _, _, _, _, _, _, _, _, _, _, _ => none
 | k + 1, x0, x1, x9, x10, x16, x17, x18, x433000, x433001, x436000, x436001 => if x18 < x17 then (if 0 ≤ x18 then (if x18 < (x16.length : Int) then ((zero_behind.f k (x9.length : Int) (rd_L13 x16 x18)).bind fun t443 => (if x9.length + t443.length < 3518437208883 then ((some (x9 ++ t443 : List (S149))).bind fun y446 => (if x18 = 0 then (zero_mix.l0 k x0 x1 y446 (wrap64 ((y446.length : Int) - 1)) x16 x17 (wrap64 (x18 + 1)) x433000 x433001 x436000 x436001) else ((tower_Mul.f k x0 x436000 x436001 x433000 x433001).bind fun bt449 => ((some (([(⟨1, 0, 0, (⟨bt449.1, bt449.2⟩ : S28)⟩ : S149), (⟨4, wrap64 ((wrap64 ((y446.length : Int) - 1)) + 1), wrap64 ((y446.length : Int) - 1), (⟨0, 0⟩ : S28)⟩ : S149), (⟨3, x10, wrap64 ((wrap64 ((y446.length : Int) - 1)) + 2), (⟨0, 0⟩ : S28)⟩ : S149)] : List (S149)) : List (S149))).bind fun y451 => (if y446.length + y451.length < 3518437208883 then (zero_mix.l0 k x0 x1 (y446 ++ y451) (wrap64 ((wrap64 ((y446.length : Int) - 1)) + 3)) x16 x17 (wrap64 (x18 + 1)) x433000 x433001 bt449.1 bt449.2) else (none)))))) else (none))) else (none)) else (none)) else ((some (([(⟨2, x1, 0, (⟨0, 0⟩ : S28)⟩ : S149), (⟨4, (x9.length : Int), x10, (⟨0, 0⟩ : S28)⟩ : S149)] : List (S149)) : List (S149))).bind fun y436 => (if x9.length + y436.length < 3518437208883 then (some (x9 ++ y436)) else (none)))
def zero_mix.f (k : Nat) (a0 : Int) (a1 : Int) (l2 : List (List (S149))) (a3_0 : Int) (a3_1 : Int) : Option ((List (S149))) := (tower_One.f).bind fun bt433 => (zero_mix.l0 k a0 a1 ([] : List (S149)) 0 l2 (l2.length : Int) 0 a3_0 a3_1 bt433.1 bt433.2)
set_option maxHeartbeats 8000000 in
set_option maxRecDepth 100000 in
theorem zero_mix.calls (k : Nat) (a0 : Int) (a1 : Int) (A2 : Option Addr) (c2 : Nat) (l2 : List (List (S149))) (a3_0 : Int) (a3_1 : Int) (r : List (S149)) (w : World) (hr2 : Kd.C (Kd.slice 149 k149) w A2 l2.length l2) (hc2 : l2.length ≤ c2) (h : zero_mix.f k a0 a1 l2 a3_0 a3_1 = some r) :
  Calls Try.prog 92 #[.int .i64 a0, .int .i64 a1, .slice A2 l2.length c2, .agg #[.int .u64 a3_0, .int .u64 a3_1]] w fun e w' => ∃ v0_ : Value, e = .returned (v0_) ∧ Kd.R k149 149 w' w.heap.size (fun _ => True) v0_ r ∧ Below w.heap.size w w' := by
 have hu28 := Try.underlying28
 have hu149 := Try.underlying149
 have HR2 := Aside0.mk hr2
 have HC2 := Aside0.mk hc2
 clear hr2 hc2
 have HB := Aside0.mk (Below.refl w.heap.size w)
 have H : ((tower_One.f).bind fun bt433 => (zero_mix.l0 k a0 a1 ([] : List (S149)) 0 l2 (l2.length : Int) 0 a3_0 a3_1 bt433.1 bt433.2)) = some r := h
 clear h
 replace H := Option.bind_eq_some_iff.mp H
 obtain ⟨⟨t433, t434⟩, A50, H⟩ := H
 replace H : (zero_mix.l0 k a0 a1 ([] : List (S149)) 0 l2 (l2.length : Int) 0 a3_0 a3_1 t433 t434) = some r := H
 have A5 := Aside0.mk A50
 clear A50
 have H' := Aside0.mk H
 clear H
 go_enter Try.func92, Try.ntmps92
 go_wp2_with (first | ((with_reducible refine gate_dst (N := 7) rfl ?_); refine box_event ?hg (N := 7) ?hd (cs := #[.int .u64 a3_0, .int .u64 a3_1]) (t := 28) ?hr ?_; (case hd => rfl); (case hg => rfl); (case hr => first | (go_simp; done) | (go_simp; rfl)); intro gb432 hg w6 hbox hb; have n0_ := Aside0.mk (below_step (by exact lF HB.out) hb); have n1_ := Aside0.mk (hbox); have n2_ := Aside0.mk ((by rw [hg]; exact (below_size (by exact lF HB.out)) : w.heap.size ≤ gb432)); have n3_ := Aside0.mk ((by rw [hg]; exact (below_size (by exact lF HB.out)) : w.heap.size ≤ gb432)); clear HB; have HB := n0_; have BK432 := n1_; have GW432 := n2_; have GE432 := n3_; clear n0_ n1_ n2_ n3_; clear hb hbox hg) | ((with_reducible refine gate_callee (f := 130) rfl ?_); refine goesL_ (some 15) rfl rfl Try.func130 (by kernel_rfl) rfl #[] rfl (by (try simp only [List.map_toArray, List.map_cons, List.map_nil]); first | done | rfl | (simp only [List.length_drop, List.length_take]; rfl)) ?_; (with_reducible refine (tower_One.calls  t433 t434 _ A5.out).mono ?_); rintro e w7 ⟨rfl, hb⟩; refine ⟨_, rfl, ?_⟩; have n0_ := Aside0.mk (blk_below (g := gb432) (o := .cells #[.int .u64 a3_0, .int .u64 a3_1] 28 (0, 0)) (by exact bF BK432.out) hb); have n1_ := Aside0.mk (below_step (by repeat (first | (with_reducible first | exact HB.out | apply bA | apply bN | apply bD | refine bS ?_ GE432.out) | exact HB.out)) hb); clear BK432; clear HB; have BK432 := n0_; have HB := n1_; clear n0_ n1_; (try clear hb); (try clear hb2); (try clear hk); (try clear hi)) | ((with_reducible refine gate_dst (N := 11) rfl ?_); refine box_event ?hg (N := 11) ?hd (cs := #[.int .u64 0, .int .u64 0]) (t := 28) ?hr ?_; (case hd => rfl); (case hg => rfl); (case hr => first | (go_simp; done) | (go_simp; rfl)); intro gb435 hg w8 hbox hb; have n0_ := Aside0.mk (blk_below (g := gb432) (o := .cells #[.int .u64 a3_0, .int .u64 a3_1] 28 (0, 0)) (by exact bF BK432.out) hb); have n1_ := Aside0.mk (below_step (by repeat (first | (with_reducible first | exact HB.out | apply bA | apply bN | apply bD | refine bS ?_ GE432.out) | exact HB.out)) hb); have n2_ := Aside0.mk (hbox); have n3_ := Aside0.mk ((by rw [hg]; exact (below_size (by repeat (first | (with_reducible first | exact HB.out | apply bA | apply bN | apply bD | refine bS ?_ GE432.out) | exact HB.out))) : w.heap.size ≤ gb435)); have n4_ := Aside0.mk ((by rw [hg]; exact (below_size (by repeat (first | (with_reducible first | exact HB.out | apply bA | apply bN | apply bD | refine bS ?_ GE432.out) | exact HB.out))) : w.heap.size ≤ gb435)); have n5_ := Aside0.mk ((by rw [hg]; exact Nat.ne_of_lt (blk_lt (g := gb432) (o := .cells #[.int .u64 a3_0, .int .u64 a3_1] 28 (0, 0)) (by exact bF BK432.out)) : gb432 ≠ gb435)); have n6_ := Aside0.mk ((by rw [hg]; exact Nat.ne_of_gt (blk_lt (g := gb432) (o := .cells #[.int .u64 a3_0, .int .u64 a3_1] 28 (0, 0)) (by exact bF BK432.out)) : gb435 ≠ gb432)); clear BK432; clear HB; have BK432 := n0_; have HB := n1_; have BK435 := n2_; have GW435 := n3_; have GE435 := n4_; have NB432_435 := n5_; have NB435_432 := n6_; clear n0_ n1_ n2_ n3_ n4_ n5_ n6_; clear hb hbox hg; have hnb9 := NB435_432.out; have hnc9 := NB432_435.out; have hcz10_0 : w8.cell? ⟨gb435, 0, none⟩ = some (.int .u64 0) := (blk_cell BK435.out 0).trans rfl; have hcz10_1 : w8.cell? ⟨gb435, 1, none⟩ = some (.int .u64 0) := (blk_cell BK435.out 1).trans rfl; have hfz10_0 := blk_frozen BK435.out 0; have hfz10_1 := blk_frozen BK435.out 1))
 go_step3
 go_wp2_with (first | ((with_reducible refine gate_dst (N := 7) rfl ?_); refine box_event ?hg (N := 7) ?hd (cs := #[.int .u64 a3_0, .int .u64 a3_1]) (t := 28) ?hr ?_; (case hd => rfl); (case hg => rfl); (case hr => first | (go_simp; done) | (go_simp; rfl)); intro gb432 hg w6 hbox hb; have n0_ := Aside0.mk (below_step (by exact lF HB.out) hb); have n1_ := Aside0.mk (hbox); have n2_ := Aside0.mk ((by rw [hg]; exact (below_size (by exact lF HB.out)) : w.heap.size ≤ gb432)); have n3_ := Aside0.mk ((by rw [hg]; exact (below_size (by exact lF HB.out)) : w.heap.size ≤ gb432)); clear HB; have HB := n0_; have BK432 := n1_; have GW432 := n2_; have GE432 := n3_; clear n0_ n1_ n2_ n3_; clear hb hbox hg) | ((with_reducible refine gate_callee (f := 130) rfl ?_); refine goesL_ (some 15) rfl rfl Try.func130 (by kernel_rfl) rfl #[] rfl (by (try simp only [List.map_toArray, List.map_cons, List.map_nil]); first | done | rfl | (simp only [List.length_drop, List.length_take]; rfl)) ?_; (with_reducible refine (tower_One.calls  t433 t434 _ A5.out).mono ?_); rintro e w7 ⟨rfl, hb⟩; refine ⟨_, rfl, ?_⟩; have n0_ := Aside0.mk (blk_below (g := gb432) (o := .cells #[.int .u64 a3_0, .int .u64 a3_1] 28 (0, 0)) (by exact bF BK432.out) hb); have n1_ := Aside0.mk (below_step (by repeat (first | (with_reducible first | exact HB.out | apply bA | apply bN | apply bD | refine bS ?_ GE432.out) | exact HB.out)) hb); clear BK432; clear HB; have BK432 := n0_; have HB := n1_; clear n0_ n1_; (try clear hb); (try clear hb2); (try clear hk); (try clear hi)) | ((with_reducible refine gate_dst (N := 11) rfl ?_); refine box_event ?hg (N := 11) ?hd (cs := #[.int .u64 0, .int .u64 0]) (t := 28) ?hr ?_; (case hd => rfl); (case hg => rfl); (case hr => first | (go_simp; done) | (go_simp; rfl)); intro gb435 hg w8 hbox hb; have n0_ := Aside0.mk (blk_below (g := gb432) (o := .cells #[.int .u64 a3_0, .int .u64 a3_1] 28 (0, 0)) (by exact bF BK432.out) hb); have n1_ := Aside0.mk (below_step (by repeat (first | (with_reducible first | exact HB.out | apply bA | apply bN | apply bD | refine bS ?_ GE432.out) | exact HB.out)) hb); have n2_ := Aside0.mk (hbox); have n3_ := Aside0.mk ((by rw [hg]; exact (below_size (by repeat (first | (with_reducible first | exact HB.out | apply bA | apply bN | apply bD | refine bS ?_ GE432.out) | exact HB.out))) : w.heap.size ≤ gb435)); have n4_ := Aside0.mk ((by rw [hg]; exact (below_size (by repeat (first | (with_reducible first | exact HB.out | apply bA | apply bN | apply bD | refine bS ?_ GE432.out) | exact HB.out))) : w.heap.size ≤ gb435)); have n5_ := Aside0.mk ((by rw [hg]; exact Nat.ne_of_lt (blk_lt (g := gb432) (o := .cells #[.int .u64 a3_0, .int .u64 a3_1] 28 (0, 0)) (by exact bF BK432.out)) : gb432 ≠ gb435)); have n6_ := Aside0.mk ((by rw [hg]; exact Nat.ne_of_gt (blk_lt (g := gb432) (o := .cells #[.int .u64 a3_0, .int .u64 a3_1] 28 (0, 0)) (by exact bF BK432.out)) : gb435 ≠ gb432)); clear BK432; clear HB; have BK432 := n0_; have HB := n1_; have BK435 := n2_; have GW435 := n3_; have GE435 := n4_; have NB432_435 := n5_; have NB435_432 := n6_; clear n0_ n1_ n2_ n3_ n4_ n5_ n6_; clear hb hbox hg; have hnb9 := NB435_432.out; have hnc9 := NB432_435.out; have hcz10_0 : w8.cell? ⟨gb435, 0, none⟩ = some (.int .u64 0) := (blk_cell BK435.out 0).trans rfl; have hcz10_1 : w8.cell? ⟨gb435, 1, none⟩ = some (.int .u64 0) := (blk_cell BK435.out 1).trans rfl; have hfz10_0 := blk_frozen BK435.out 0; have hfz10_1 := blk_frozen BK435.out 1))
 go_step3
 go_wp2
 go_loopg [9, 10, 18] k (fun kq v9 v10 v18 w' => ∃ (x9_1 : List (S149)) (x10_1 : Int) (x18_1 : Int) (x436000_1 : Int) (x436001_1 : Int), v10 = .int .i64 x10_1 ∧ v18 = .int .i64 x18_1 ∧ Aside0 (zero_mix.l0 kq a0 a1 x9_1 x10_1 l2 (l2.length : Int) x18_1 a3_0 a3_1 x436000_1 x436001_1 = some r) ∧ Aside0 (kq ≤ k) ∧ Aside0 (Kd.R k149 149 w' w.heap.size (fun _ => True) v9 x9_1) ∧ Aside0 (w'.heap[gb432]? = some (.cells #[.int .u64 a3_0, .int .u64 a3_1] 28 (0, 0))) ∧ Aside0 (w'.heap[gb435]? = some (.cells #[.int .u64 x436000_1, .int .u64 x436001_1] 28 (0, 0))) ∧ Aside0 (Below w.heap.size w w'))
 case atStart => exact ⟨(([] : List (S149))), (0), (0), (t433), (t434), (by first | rfl | (simp; done) | (simp [*]; done)), (by first | rfl | (simp; done) | (simp [*]; done)), H', ⟨Nat.le_refl _⟩, ⟨by first | exact Kd.R_nil _ _ _ _ _ | exact Kd.N_nil _ _ _ _ _ | exact Kd.V_nil _ _ _ _ _ | exact Kd.Q_nil _ _ _ _ _ | exact Kd.S_nil _ _ _ _ _⟩, ⟨by (with_reducible repeat (first | refine blk_drewN ?_ _ | refine blk_drew ?_ | refine blk_alloc ?_ _)); refine blk_far ?_ NB432_435.out _; (with_reducible repeat (first | refine blk_drewN ?_ _ | refine blk_drew ?_ | refine blk_alloc ?_ _)); refine blk_far ?_ NB432_435.out _; exact bF BK432.out⟩, ⟨by (with_reducible repeat (first | refine blk_drewN ?_ _ | refine blk_drew ?_ | refine blk_alloc ?_ _)); refine blk_put (cs := #[.int .u64 t433, .int .u64 0]) ?_ 1 _ rfl; (with_reducible repeat (first | refine blk_drewN ?_ _ | refine blk_drew ?_ | refine blk_alloc ?_ _)); refine blk_put (cs := #[.int .u64 0, .int .u64 0]) ?_ 0 _ rfl; exact bF BK435.out⟩, ⟨by repeat (first | (with_reducible first | exact HB.out | apply bA | apply bN | apply bD | refine bS ?_ GE432.out | refine bS ?_ GE435.out) | exact HB.out)⟩⟩
 case round =>
  clear H'
  try clear c1
  try clear c2
  try clear p2
  try clear c9
  try clear hcz10_0
  try clear hcz10_1
  try clear hfz10_0
  try clear hfz10_1
  obtain ⟨x9_1, x10_1, x18_1, x436000_1, x436001_1, rfl, rfl, HA, HK1, HO_9, BK432, BK435, HB⟩ := hrel
  cases gk with
  | zero => exact absurd HA.out (by simp [zero_mix.l0])
  | succ k1 =>
   have H := HA.out
   clear HA
   simp only [zero_mix.l0] at H
   by_cases c11 : x18_1 < (l2.length : Int)
   ·rw [if_pos c11] at H
    have c11b0 : decide (x18_1 < (l2.length : Int)) = true := decide_eq_true c11
    clear c11
    by_cases c12 : 0 ≤ x18_1
    ·rw [if_pos c12] at H
     have c12b0 : decide (0 ≤ x18_1) = true := decide_eq_true c12
     clear c12
     by_cases c13 : x18_1 < (l2.length : Int)
     ·rw [if_pos c13] at H
      have c13b0 : decide (x18_1 < (l2.length : Int)) = true := decide_eq_true c13
      clear c13
      replace H := Option.bind_eq_some_iff.mp H
      obtain ⟨t443, A140, H⟩ := H
      replace H : (if x9_1.length + t443.length < 3518437208883 then ((some (x9_1 ++ t443 : List (S149))).bind fun y446 => (if x18_1 = 0 then (zero_mix.l0 k1 a0 a1 y446 (wrap64 ((y446.length : Int) - 1)) l2 (l2.length : Int) (wrap64 (x18_1 + 1)) a3_0 a3_1 x436000_1 x436001_1) else ((tower_Mul.f k1 a0 x436000_1 x436001_1 a3_0 a3_1).bind fun bt449 => ((some (([(⟨1, 0, 0, (⟨bt449.1, bt449.2⟩ : S28)⟩ : S149), (⟨4, wrap64 ((wrap64 ((y446.length : Int) - 1)) + 1), wrap64 ((y446.length : Int) - 1), (⟨0, 0⟩ : S28)⟩ : S149), (⟨3, x10_1, wrap64 ((wrap64 ((y446.length : Int) - 1)) + 2), (⟨0, 0⟩ : S28)⟩ : S149)] : List (S149)) : List (S149))).bind fun y451 => (if y446.length + y451.length < 3518437208883 then (zero_mix.l0 k1 a0 a1 (y446 ++ y451) (wrap64 ((wrap64 ((y446.length : Int) - 1)) + 3)) l2 (l2.length : Int) (wrap64 (x18_1 + 1)) a3_0 a3_1 bt449.1 bt449.2) else (none)))))) else (none)) = some r := H
      have A14 := Aside0.mk A140
      clear A140
      by_cases c15 : x9_1.length + t443.length < 3518437208883
      ·rw [if_pos c15] at H
       have LMc15 := Aside0.mk c15
       clear c15
       obtain ⟨y446, hy446⟩ : ∃ y_ : List (S149), y_ = (x9_1 ++ t443) := ⟨_, rfl⟩
       replace H : (if x18_1 = 0 then (zero_mix.l0 k1 a0 a1 y446 (wrap64 ((y446.length : Int) - 1)) l2 (l2.length : Int) (wrap64 (x18_1 + 1)) a3_0 a3_1 x436000_1 x436001_1) else ((tower_Mul.f k1 a0 x436000_1 x436001_1 a3_0 a3_1).bind fun bt449 => ((some (([(⟨1, 0, 0, (⟨bt449.1, bt449.2⟩ : S28)⟩ : S149), (⟨4, wrap64 ((wrap64 ((y446.length : Int) - 1)) + 1), wrap64 ((y446.length : Int) - 1), (⟨0, 0⟩ : S28)⟩ : S149), (⟨3, x10_1, wrap64 ((wrap64 ((y446.length : Int) - 1)) + 2), (⟨0, 0⟩ : S28)⟩ : S149)] : List (S149)) : List (S149))).bind fun y451 => (if y446.length + y451.length < 3518437208883 then (zero_mix.l0 k1 a0 a1 (y446 ++ y451) (wrap64 ((wrap64 ((y446.length : Int) - 1)) + 3)) l2 (l2.length : Int) (wrap64 (x18_1 + 1)) a3_0 a3_1 bt449.1 bt449.2) else (none))))) = some r := by first | (rw [hy446]; with_reducible exact H) | (have H2_ := (Option.bind_some _ _).symm.trans H; rw [hy446]; with_reducible exact H2_) | (have H2_ := (Option.bind_some _ _).symm.trans H; with_reducible exact H2_) | with_reducible exact H | (rw [hy446]; exact H) | exact H
       have Ny446 := Aside0.mk hy446
       clear hy446
       by_cases c16 : x18_1 = 0
       ·rw [if_pos c16] at H
        have c16b0 : (x18_1 == 0) = true := beq_iff_eq.mpr c16
        have c16b1 : (x18_1 != 0) = false := bne_eq_false_iff_eq.mpr c16
        clear c16
        have H' := Aside0.mk H
        clear H
        have p442 : 0 ≤ (x18_1 : Int) := of_decide_eq_true (by first | (with_reducible assumption) | assumption)
        have q442 : x18_1 < (l2.length : Int) := of_decide_eq_true (by first | (with_reducible assumption) | assumption)
        obtain ⟨ad442, A442_0, c442_0, e442, hx442_0, hl442_0, hi442_0⟩ := at_L13 HR2.out x18_1 p442 q442
        cases e442
        replace hx442_0 := (HB.out.cell (World.block_lt_of_cell? w _ hx442_0)).trans hx442_0
        have HR442_0 := Aside0.mk hi442_0
        have HC442_0 := Aside0.mk hl442_0
        clear hi442_0 hl442_0
        replace p442 := eq_true p442
        replace q442 := eq_true q442
        obtain ⟨Ao17, co17, eo17⟩ := Kd.R_slice HO_9.out
        subst eo17
        go_wp2_with (first | ((with_reducible refine gate_callee (f := 133) rfl ?_); refine goesL_ (some 27) rfl rfl Try.func133 (by kernel_rfl) rfl #[.int .i64 (x9_1.length : Int), .slice A442_0 (rd_L13 l2 x18_1).length c442_0] rfl (by (try simp only [List.map_toArray, List.map_cons, List.map_nil]); first | done | rfl | (simp only [List.length_drop, List.length_take]; rfl)) ?_; (with_reducible refine (zero_behind.calls k1 (x9_1.length : Int) _ _ (rd_L13 l2 x18_1) t443 _ ?side1 ?side2 A14.out).mono ?_); (case side1 => repeat (first | exact (Kd.C_below HR442_0.out HB.out) | (with_reducible refine Kd.C_alloc ?_ _) | (with_reducible refine Kd.C_drewN ?_ _) | (with_reducible refine Kd.C_drew ?_))); (case side2 => exact HC442_0.out); rintro e w18 ⟨v444, rfl, ho0, hb⟩; refine ⟨_, rfl, ?_⟩; have n0_ := Aside0.mk (Kd.R_elder' (by exact rF HO_9.out) (Kd.R_base ho0) hb); have n1_ := Aside0.mk (Kd.R_lower (Kd.R_new' ho0 (Kd.R_lt (by exact rF HO_9.out))) (below_size (by repeat (first | (with_reducible first | exact HB.out | apply bA | apply bN | apply bD | refine bS ?_ GE432.out | refine bS ?_ GE435.out) | exact HB.out)))); have n2_ := Aside0.mk (blk_below (g := gb432) (o := .cells #[.int .u64 a3_0, .int .u64 a3_1] 28 (0, 0)) (by exact bF BK432.out) hb); have n3_ := Aside0.mk (blk_below (g := gb435) (o := .cells #[.int .u64 x436000_1, .int .u64 x436001_1] 28 (0, 0)) (by exact bF BK435.out) hb); have n4_ := Aside0.mk (below_step (by repeat (first | (with_reducible first | exact HB.out | apply bA | apply bN | apply bD | refine bS ?_ GE432.out | refine bS ?_ GE435.out) | exact HB.out)) hb); clear HO_9; clear BK432; clear BK435; clear HB; have HO_9 := n0_; have HO445 := n1_; have BK432 := n2_; have BK435 := n3_; have HB := n4_; clear n0_ n1_ n2_ n3_ n4_; (try clear hb); (try clear hb2); (try clear hk); (try clear hi); (try clear ho0); obtain ⟨Ao20, co20, eo20⟩ := Kd.R_slice HO445.out; subst eo20) | ((with_reducible refine gate_builtin (b := .append) (xs := #[.tmp 23, .tmp 27]) rfl ?_); at_builtin; refine Kd.R_append_rows k149 (w0 := w) w.heap.size rfl (.tmp 23) (.tmp 27) 83 149 (.agg #[(.int .i64 0), (.int .i64 0), (.int .i64 0), (.int .u64 0), (.int .u64 0)]) 40 rfl Try.underlying83 info149 rfl (by decide) (by omega) (.slice Ao17 x9_1.length co17) x9_1 t443 _ _ _ (fun k_ => some k_ ≠ (.slice Ao20 t443.length co20 : Value).ownBlock) (fun _ => False) rfl rfl ?aO ?aR (fun _ _ h => h) (fun _ h => h.elim) ?aF ?aB ?aS ?aL ?_; (case aR => repeat (first | exact (Kd.R_reads' HO445.out).2.2 | (with_reducible refine Kd.C_alloc ?_ _) | (with_reducible refine Kd.C_drewN ?_ _) | (with_reducible refine Kd.C_drew ?_))); (case aB => exact (by repeat (first | (with_reducible first | exact HB.out | apply bA | apply bN | apply bD | refine bS ?_ GE432.out | refine bS ?_ GE435.out) | exact HB.out))); (case aF => exact (fun k_ hk => Kd.fresh' (Kd.R_lt (by exact rF HO445.out)) k_ hk)); (case aO => exact (by (with_reducible repeat (first | apply Kd.R_alloc | apply Kd.R_drewN | apply Kd.R_drew)); exact Kd.R_mono HO_9.out (fun _ hk => hk.2))); (case aS => exact (below_size (by repeat (first | (with_reducible first | exact HB.out | apply bA | apply bN | apply bD | refine bS ?_ GE432.out | refine bS ?_ GE435.out) | exact HB.out)))); (case aL => have := LMc15.out; omega); intro v447 w19 ho hb hg hat; rw [← Ny446.out] at ho; have n0_ := Aside0.mk (blk_grown (g := gb432) (o := .cells #[.int .u64 a3_0, .int .u64 a3_1] 28 (0, 0)) (by exact bF BK432.out) hg (Kd.R_ne HO_9.out BK432.out (by decide))); have n1_ := Aside0.mk (blk_grown (g := gb435) (o := .cells #[.int .u64 x436000_1, .int .u64 x436001_1] 28 (0, 0)) (by exact bF BK435.out) hg (Kd.R_ne HO_9.out BK435.out (by decide))); have n2_ := Aside0.mk (Kd.R_after (ok := (fun _ => True)) (by exact rF HO445.out) hg hat); have n3_ := Aside0.mk (hb); have n4_ := Aside0.mk (ho); clear BK432; clear BK435; clear HO445; clear HB; clear HO_9; have BK432 := n0_; have BK435 := n1_; have HO445 := n2_; have HB := n3_; have HO448 := n4_; clear n0_ n1_ n2_ n3_ n4_; clear ho hb hg hat; obtain ⟨Ao21, co21, eo21⟩ := Kd.R_slice HO448.out; subst eo21))
        go_roundg k1
        case measure => have := HK1.out; omega
        case rel => exact ⟨(y446), (wrap64 ((y446.length : Int) - 1)), (wrap64 (x18_1 + 1)), (x436000_1), (x436001_1), (by first | rfl | (simp; done) | (simp [*]; done)), (by first | rfl | (simp; done) | (simp [*]; done)), H', ⟨by have := HK1.out; omega⟩, ⟨by (with_reducible repeat (first | apply Kd.R_alloc | apply Kd.R_drewN | apply Kd.R_drew)); exact Kd.R_mono HO448.out (fun _ hk => trivial)⟩, ⟨by exact bF BK432.out⟩, ⟨by exact bF BK435.out⟩, ⟨by repeat (first | (with_reducible first | exact HB.out | apply bA | apply bN | apply bD | refine bS ?_ GE432.out | refine bS ?_ GE435.out) | exact HB.out)⟩⟩
       ·rw [if_neg c16] at H
        have c16b0 : (x18_1 == 0) = false := beq_eq_false_iff_ne.mpr c16
        have c16b1 : (x18_1 != 0) = true := bne_iff_ne.mpr c16
        replace H := Option.bind_eq_some_iff.mp H
        obtain ⟨⟨t449, t450⟩, A220, H⟩ := H
        replace H : ((some (([(⟨1, 0, 0, (⟨t449, t450⟩ : S28)⟩ : S149), (⟨4, wrap64 ((wrap64 ((y446.length : Int) - 1)) + 1), wrap64 ((y446.length : Int) - 1), (⟨0, 0⟩ : S28)⟩ : S149), (⟨3, x10_1, wrap64 ((wrap64 ((y446.length : Int) - 1)) + 2), (⟨0, 0⟩ : S28)⟩ : S149)] : List (S149)) : List (S149))).bind fun y451 => (if y446.length + y451.length < 3518437208883 then (zero_mix.l0 k1 a0 a1 (y446 ++ y451) (wrap64 ((wrap64 ((y446.length : Int) - 1)) + 3)) l2 (l2.length : Int) (wrap64 (x18_1 + 1)) a3_0 a3_1 t449 t450) else (none))) = some r := H
        have A22 := Aside0.mk A220
        clear A220
        obtain ⟨y451, hy451⟩ : ∃ y_ : List (S149), y_ = (([(⟨1, 0, 0, (⟨t449, t450⟩ : S28)⟩ : S149), (⟨4, wrap64 ((wrap64 ((y446.length : Int) - 1)) + 1), wrap64 ((y446.length : Int) - 1), (⟨0, 0⟩ : S28)⟩ : S149), (⟨3, x10_1, wrap64 ((wrap64 ((y446.length : Int) - 1)) + 2), (⟨0, 0⟩ : S28)⟩ : S149)] : List (S149))) := ⟨_, rfl⟩
        replace H : (if y446.length + y451.length < 3518437208883 then (zero_mix.l0 k1 a0 a1 (y446 ++ y451) (wrap64 ((wrap64 ((y446.length : Int) - 1)) + 3)) l2 (l2.length : Int) (wrap64 (x18_1 + 1)) a3_0 a3_1 t449 t450) else (none)) = some r := by first | (rw [hy451]; with_reducible exact H) | (have H2_ := (Option.bind_some _ _).symm.trans H; rw [hy451]; with_reducible exact H2_) | (have H2_ := (Option.bind_some _ _).symm.trans H; with_reducible exact H2_) | with_reducible exact H | (rw [hy451]; exact H) | exact H
        have Ny451 := Aside0.mk hy451
        clear hy451
        by_cases c23 : y446.length + y451.length < 3518437208883
        ·rw [if_pos c23] at H
         have LMc23 := Aside0.mk c23
         clear c23
         obtain ⟨y454, hy454⟩ : ∃ y_ : List (S149), y_ = (y446 ++ y451) := ⟨_, rfl⟩
         replace H : (zero_mix.l0 k1 a0 a1 y454 (wrap64 ((wrap64 ((y446.length : Int) - 1)) + 3)) l2 (l2.length : Int) (wrap64 (x18_1 + 1)) a3_0 a3_1 t449 t450) = some r := by first | (rw [hy454]; with_reducible exact H) | (have H2_ := (Option.bind_some _ _).symm.trans H; rw [hy454]; with_reducible exact H2_) | (have H2_ := (Option.bind_some _ _).symm.trans H; with_reducible exact H2_) | with_reducible exact H | (rw [hy454]; exact H) | exact H
         have Ny454 := Aside0.mk hy454
         clear hy454
         have H' := Aside0.mk H
         clear H
         have p442 : 0 ≤ (x18_1 : Int) := of_decide_eq_true (by first | (with_reducible assumption) | assumption)
         have q442 : x18_1 < (l2.length : Int) := of_decide_eq_true (by first | (with_reducible assumption) | assumption)
         obtain ⟨ad442, A442_0, c442_0, e442, hx442_0, hl442_0, hi442_0⟩ := at_L13 HR2.out x18_1 p442 q442
         cases e442
         replace hx442_0 := (HB.out.cell (World.block_lt_of_cell? w _ hx442_0)).trans hx442_0
         have HR442_0 := Aside0.mk hi442_0
         have HC442_0 := Aside0.mk hl442_0
         clear hi442_0 hl442_0
         replace p442 := eq_true p442
         replace q442 := eq_true q442
         obtain ⟨Ao24, co24, eo24⟩ := Kd.R_slice HO_9.out
         subst eo24
         go_wp2_with (first | ((with_reducible refine gate_callee (f := 133) rfl ?_); refine goesL_ (some 27) rfl rfl Try.func133 (by kernel_rfl) rfl #[.int .i64 (x9_1.length : Int), .slice A442_0 (rd_L13 l2 x18_1).length c442_0] rfl (by (try simp only [List.map_toArray, List.map_cons, List.map_nil]); first | done | rfl | (simp only [List.length_drop, List.length_take]; rfl)) ?_; (with_reducible refine (zero_behind.calls k1 (x9_1.length : Int) _ _ (rd_L13 l2 x18_1) t443 _ ?side1 ?side2 A14.out).mono ?_); (case side1 => repeat (first | exact (Kd.C_below HR442_0.out HB.out) | (with_reducible refine Kd.C_alloc ?_ _) | (with_reducible refine Kd.C_drewN ?_ _) | (with_reducible refine Kd.C_drew ?_))); (case side2 => exact HC442_0.out); rintro e w25 ⟨v444, rfl, ho0, hb⟩; refine ⟨_, rfl, ?_⟩; have n0_ := Aside0.mk (Kd.R_elder' (by exact rF HO_9.out) (Kd.R_base ho0) hb); have n1_ := Aside0.mk (Kd.R_lower (Kd.R_new' ho0 (Kd.R_lt (by exact rF HO_9.out))) (below_size (by repeat (first | (with_reducible first | exact HB.out | apply bA | apply bN | apply bD | refine bS ?_ GE432.out | refine bS ?_ GE435.out) | exact HB.out)))); have n2_ := Aside0.mk (blk_below (g := gb432) (o := .cells #[.int .u64 a3_0, .int .u64 a3_1] 28 (0, 0)) (by exact bF BK432.out) hb); have n3_ := Aside0.mk (blk_below (g := gb435) (o := .cells #[.int .u64 x436000_1, .int .u64 x436001_1] 28 (0, 0)) (by exact bF BK435.out) hb); have n4_ := Aside0.mk (below_step (by repeat (first | (with_reducible first | exact HB.out | apply bA | apply bN | apply bD | refine bS ?_ GE432.out | refine bS ?_ GE435.out) | exact HB.out)) hb); clear HO_9; clear BK432; clear BK435; clear HB; have HO_9 := n0_; have HO445 := n1_; have BK432 := n2_; have BK435 := n3_; have HB := n4_; clear n0_ n1_ n2_ n3_ n4_; (try clear hb); (try clear hb2); (try clear hk); (try clear hi); (try clear ho0); obtain ⟨Ao27, co27, eo27⟩ := Kd.R_slice HO445.out; subst eo27) | ((with_reducible refine gate_builtin (b := .append) (xs := #[.tmp 23, .tmp 27]) rfl ?_); at_builtin; refine Kd.R_append_rows k149 (w0 := w) w.heap.size rfl (.tmp 23) (.tmp 27) 83 149 (.agg #[(.int .i64 0), (.int .i64 0), (.int .i64 0), (.int .u64 0), (.int .u64 0)]) 40 rfl Try.underlying83 info149 rfl (by decide) (by omega) (.slice Ao24 x9_1.length co24) x9_1 t443 _ _ _ (fun k_ => some k_ ≠ (.slice Ao27 t443.length co27 : Value).ownBlock) (fun _ => False) rfl rfl ?aO ?aR (fun _ _ h => h) (fun _ h => h.elim) ?aF ?aB ?aS ?aL ?_; (case aR => repeat (first | exact (Kd.R_reads' HO445.out).2.2 | (with_reducible refine Kd.C_alloc ?_ _) | (with_reducible refine Kd.C_drewN ?_ _) | (with_reducible refine Kd.C_drew ?_))); (case aB => exact (by repeat (first | (with_reducible first | exact HB.out | apply bA | apply bN | apply bD | refine bS ?_ GE432.out | refine bS ?_ GE435.out) | exact HB.out))); (case aF => exact (fun k_ hk => Kd.fresh' (Kd.R_lt (by exact rF HO445.out)) k_ hk)); (case aO => exact (by (with_reducible repeat (first | apply Kd.R_alloc | apply Kd.R_drewN | apply Kd.R_drew)); exact Kd.R_mono HO_9.out (fun _ hk => hk.2))); (case aS => exact (below_size (by repeat (first | (with_reducible first | exact HB.out | apply bA | apply bN | apply bD | refine bS ?_ GE432.out | refine bS ?_ GE435.out) | exact HB.out)))); (case aL => have := LMc15.out; omega); intro v447 w26 ho hb hg hat; rw [← Ny446.out] at ho; have n0_ := Aside0.mk (blk_grown (g := gb432) (o := .cells #[.int .u64 a3_0, .int .u64 a3_1] 28 (0, 0)) (by exact bF BK432.out) hg (Kd.R_ne HO_9.out BK432.out (by decide))); have n1_ := Aside0.mk (blk_grown (g := gb435) (o := .cells #[.int .u64 x436000_1, .int .u64 x436001_1] 28 (0, 0)) (by exact bF BK435.out) hg (Kd.R_ne HO_9.out BK435.out (by decide))); have n2_ := Aside0.mk (Kd.R_after (ok := (fun _ => True)) (by exact rF HO445.out) hg hat); have n3_ := Aside0.mk (hb); have n4_ := Aside0.mk (ho); clear BK432; clear BK435; clear HO445; clear HB; clear HO_9; have BK432 := n0_; have BK435 := n1_; have HO445 := n2_; have HB := n3_; have HO448 := n4_; clear n0_ n1_ n2_ n3_ n4_; clear ho hb hg hat; obtain ⟨Ao28, co28, eo28⟩ := Kd.R_slice HO448.out; subst eo28; have hnb29 := NB435_432.out; have hnc29 := NB432_435.out; have hcz30_0 : w26.cell? ⟨gb435, 0, none⟩ = some (.int .u64 x436000_1) := (blk_cell BK435.out 0).trans rfl; have hcz30_1 : w26.cell? ⟨gb435, 1, none⟩ = some (.int .u64 x436001_1) := (blk_cell BK435.out 1).trans rfl; have hfz30_0 := blk_frozen BK435.out 0; have hfz30_1 := blk_frozen BK435.out 1; have hcz31_0 : w26.cell? ⟨gb432, 0, none⟩ = some (.int .u64 a3_0) := (blk_cell BK432.out 0).trans rfl; have hcz31_1 : w26.cell? ⟨gb432, 1, none⟩ = some (.int .u64 a3_1) := (blk_cell BK432.out 1).trans rfl; have hfz31_0 := blk_frozen BK432.out 0; have hfz31_1 := blk_frozen BK432.out 1) | ((with_reducible refine gate_callee (f := 114) rfl ?_); refine goesL_ (some 38) rfl rfl Try.func114 (by kernel_rfl) rfl #[.int .i64 a0, .agg #[.int .u64 x436000_1, .int .u64 x436001_1], .agg #[.int .u64 a3_0, .int .u64 a3_1]] rfl (by (try simp only [List.map_toArray, List.map_cons, List.map_nil]); first | done | rfl | (simp only [List.length_drop, List.length_take]; rfl)) ?_; (with_reducible refine (tower_Mul.calls k1 a0 x436000_1 x436001_1 a3_0 a3_1 t449 t450 _ A22.out).mono ?_); rintro e w32 ⟨rfl, hb⟩; refine ⟨_, rfl, ?_⟩; have n0_ := Aside0.mk (Kd.R_below (by exact rF HO445.out) hb); have n1_ := Aside0.mk (Kd.R_below (by exact rF HO448.out) hb); have n2_ := Aside0.mk (blk_below (g := gb432) (o := .cells #[.int .u64 a3_0, .int .u64 a3_1] 28 (0, 0)) (by exact bF BK432.out) hb); have n3_ := Aside0.mk (blk_below (g := gb435) (o := .cells #[.int .u64 x436000_1, .int .u64 x436001_1] 28 (0, 0)) (by exact bF BK435.out) hb); have n4_ := Aside0.mk (below_step (by repeat (first | (with_reducible first | exact HB.out | apply bA | apply bN | apply bD | refine bS ?_ GE432.out | refine bS ?_ GE435.out) | exact HB.out)) hb); clear HO445; clear HO448; clear BK432; clear BK435; clear HB; have HO445 := n0_; have HO448 := n1_; have BK432 := n2_; have BK435 := n3_; have HB := n4_; clear n0_ n1_ n2_ n3_ n4_; (try clear hb); (try clear hb2); (try clear hk); (try clear hi); have hcz33_0 : w32.cell? ⟨gb435, 0, none⟩ = some (.int .u64 x436000_1) := (blk_cell BK435.out 0).trans rfl; have hcz33_1 : w32.cell? ⟨gb435, 1, none⟩ = some (.int .u64 x436001_1) := (blk_cell BK435.out 1).trans rfl; have hfz33_0 := blk_frozen BK435.out 0; have hfz33_1 := blk_frozen BK435.out 1) | ((with_reducible refine gate_dst (N := 50) rfl ?_); refine Kd.R_lit k149 _ 149 ?hg (N := 50) ?hd (xs := ([(⟨1, 0, 0, (⟨t449, t450⟩ : S28)⟩ : S149), (⟨4, wrap64 ((wrap64 ((y446.length : Int) - 1)) + 1), wrap64 ((y446.length : Int) - 1), (⟨0, 0⟩ : S28)⟩ : S149), (⟨3, x10_1, wrap64 ((wrap64 ((y446.length : Int) - 1)) + 2), (⟨0, 0⟩ : S28)⟩ : S149)] : List (S149))) (inner := [.int .i64 1, .int .i64 0, .int .i64 0, .int .u64 t449, .int .u64 t450, .int .i64 4, .int .i64 (wrap64 ((wrap64 ((y446.length : Int) - 1)) + 1)), .int .i64 (wrap64 ((y446.length : Int) - 1)), .int .u64 0, .int .u64 0, .int .i64 3, .int .i64 x10_1, .int .i64 (wrap64 ((wrap64 ((y446.length : Int) - 1)) + 2)), .int .u64 0, .int .u64 0]) (ok := fun _ => True) (okp := fun _ => True) ?hr ?hp (fun _ hk => hk) trivial (Below.refl _ _) (Nat.le_refl _) (by simp) ?_; (case hd => rfl); (case hg => rfl); (case hr => first | (go_simp; done) | (go_simp; rfl)); (case hp => exact (Reps.c5 (show Kd.M k149 _ _ _ (⟨1, 0, 0, (⟨t449, t450⟩ : S28)⟩ : S149) [.int .i64 1, .int .i64 0, .int .i64 0, .int .u64 t449, .int .u64 t450] from (k149_mkM _ _ _ (⟨1, 0, 0, (⟨t449, t450⟩ : S28)⟩ : S149) )) (Reps.c5 (show Kd.M k149 _ _ _ (⟨4, wrap64 ((wrap64 ((y446.length : Int) - 1)) + 1), wrap64 ((y446.length : Int) - 1), (⟨0, 0⟩ : S28)⟩ : S149) [.int .i64 4, .int .i64 (wrap64 ((wrap64 ((y446.length : Int) - 1)) + 1)), .int .i64 (wrap64 ((y446.length : Int) - 1)), .int .u64 0, .int .u64 0] from (k149_mkM _ _ _ (⟨4, wrap64 ((wrap64 ((y446.length : Int) - 1)) + 1), wrap64 ((y446.length : Int) - 1), (⟨0, 0⟩ : S28)⟩ : S149) )) (Reps.c5 (show Kd.M k149 _ _ _ (⟨3, x10_1, wrap64 ((wrap64 ((y446.length : Int) - 1)) + 2), (⟨0, 0⟩ : S28)⟩ : S149) [.int .i64 3, .int .i64 x10_1, .int .i64 (wrap64 ((wrap64 ((y446.length : Int) - 1)) + 2)), .int .u64 0, .int .u64 0] from (k149_mkM _ _ _ (⟨3, x10_1, wrap64 ((wrap64 ((y446.length : Int) - 1)) + 2), (⟨0, 0⟩ : S28)⟩ : S149) )) (Reps.none _ _))))); intro v452 w34 ho35 hb hg_ hnew_; clear hg_ hnew_; (first | rw [← Ny451.out] at ho35 | (simp only [Int.reduceToNat] at ho35; rw [← Ny451.out] at ho35)); have n0_ := Aside0.mk (Kd.R_elder' (by (with_reducible repeat (first | apply Kd.R_alloc | apply Kd.R_drewN | apply Kd.R_drew)); exact (Kd.R_mono (Kd.R_far (p := ⟨gb435, 1, none⟩) (Kd.R_far (p := ⟨gb435, 0, none⟩) (Kd.R_types HO445.out BK435.out (by decide)) (fun _ hk => hk.2) (.int .u64 t449)) (fun _ hk => hk.2) (.int .u64 t450)) (fun _ h_ => h_.1))) (Kd.R_base ho35) hb); have n1_ := Aside0.mk (Kd.R_elder' (by (with_reducible repeat (first | apply Kd.R_alloc | apply Kd.R_drewN | apply Kd.R_drew)); exact (Kd.R_mono (Kd.R_far (p := ⟨gb435, 1, none⟩) (Kd.R_far (p := ⟨gb435, 0, none⟩) (Kd.R_types HO448.out BK435.out (by decide)) (fun _ hk => hk.2) (.int .u64 t449)) (fun _ hk => hk.2) (.int .u64 t450)) (fun _ h_ => h_.1))) (Kd.R_base ho35) hb); have n2_ := Aside0.mk (Kd.R_lower (Kd.R_new' (Kd.R_new' ho35 (Kd.R_lt (by (with_reducible repeat (first | apply Kd.R_alloc | apply Kd.R_drewN | apply Kd.R_drew)); exact (Kd.R_mono (Kd.R_far (p := ⟨gb435, 1, none⟩) (Kd.R_far (p := ⟨gb435, 0, none⟩) (Kd.R_types HO445.out BK435.out (by decide)) (fun _ hk => hk.2) (.int .u64 t449)) (fun _ hk => hk.2) (.int .u64 t450)) (fun _ h_ => h_.1))))) (Kd.R_lt (by (with_reducible repeat (first | apply Kd.R_alloc | apply Kd.R_drewN | apply Kd.R_drew)); exact (Kd.R_mono (Kd.R_far (p := ⟨gb435, 1, none⟩) (Kd.R_far (p := ⟨gb435, 0, none⟩) (Kd.R_types HO448.out BK435.out (by decide)) (fun _ hk => hk.2) (.int .u64 t449)) (fun _ hk => hk.2) (.int .u64 t450)) (fun _ h_ => h_.1))))) (below_size (by repeat (first | (with_reducible first | exact HB.out | apply bA | apply bN | apply bD | refine bS ?_ GE432.out | refine bS ?_ GE435.out) | exact HB.out)))); have n3_ := Aside0.mk (blk_below (g := gb432) (o := .cells #[.int .u64 a3_0, .int .u64 a3_1] 28 (0, 0)) (by (with_reducible repeat (first | refine blk_drewN ?_ _ | refine blk_drew ?_ | refine blk_alloc ?_ _)); refine blk_far ?_ NB432_435.out _; (with_reducible repeat (first | refine blk_drewN ?_ _ | refine blk_drew ?_ | refine blk_alloc ?_ _)); refine blk_far ?_ NB432_435.out _; exact bF BK432.out) hb); have n4_ := Aside0.mk (blk_below (g := gb435) (o := .cells #[.int .u64 t449, .int .u64 t450] 28 (0, 0)) (by (with_reducible repeat (first | refine blk_drewN ?_ _ | refine blk_drew ?_ | refine blk_alloc ?_ _)); refine blk_put (cs := #[.int .u64 t449, .int .u64 x436001_1]) ?_ 1 _ rfl; (with_reducible repeat (first | refine blk_drewN ?_ _ | refine blk_drew ?_ | refine blk_alloc ?_ _)); refine blk_put (cs := #[.int .u64 x436000_1, .int .u64 x436001_1]) ?_ 0 _ rfl; exact bF BK435.out) hb); have n5_ := Aside0.mk (below_step (by repeat (first | (with_reducible first | exact HB.out | apply bA | apply bN | apply bD | refine bS ?_ GE432.out | refine bS ?_ GE435.out) | exact HB.out)) hb); clear HO445; clear HO448; clear BK432; clear BK435; clear HB; have HO445 := n0_; have HO448 := n1_; have HO453 := n2_; have BK432 := n3_; have BK435 := n4_; have HB := n5_; clear n0_ n1_ n2_ n3_ n4_ n5_; clear hb ho35; obtain ⟨Ao37, co37, eo37⟩ := Kd.R_slice HO453.out; subst eo37) | ((with_reducible refine gate_builtin (b := .append) (xs := #[.tmp 39, .tmp 50]) rfl ?_); at_builtin; refine Kd.R_append_rows k149 (w0 := w) w.heap.size rfl (.tmp 39) (.tmp 50) 83 149 (.agg #[(.int .i64 0), (.int .i64 0), (.int .i64 0), (.int .u64 0), (.int .u64 0)]) 40 rfl Try.underlying83 info149 rfl (by decide) (by omega) (.slice Ao28 y446.length co28) y446 y451 _ _ _ (fun k_ => some k_ ≠ (.slice Ao27 t443.length co27 : Value).ownBlock ∧ some k_ ≠ (.slice Ao37 y451.length co37 : Value).ownBlock) (fun _ => False) rfl rfl ?aO ?aR (fun _ _ h => h) (fun _ h => h.elim) ?aF ?aB ?aS ?aL ?_; (case aR => repeat (first | exact (Kd.R_reads' HO453.out).2.2 | (with_reducible refine Kd.C_alloc ?_ _) | (with_reducible refine Kd.C_drewN ?_ _) | (with_reducible refine Kd.C_drew ?_))); (case aB => exact (by repeat (first | (with_reducible first | exact HB.out | apply bA | apply bN | apply bD | refine bS ?_ GE432.out | refine bS ?_ GE435.out) | exact HB.out))); (case aF => exact (fun k_ hk => ⟨Kd.fresh' (Kd.R_lt (by exact rF HO445.out)) k_ hk, Kd.fresh' (Kd.R_lt (by exact rF HO453.out)) k_ hk⟩)); (case aO => exact (by exact rF HO448.out)); (case aS => exact (below_size (by repeat (first | (with_reducible first | exact HB.out | apply bA | apply bN | apply bD | refine bS ?_ GE432.out | refine bS ?_ GE435.out) | exact HB.out)))); (case aL => have := LMc23.out; omega); intro v455 w36 ho hb hg hat; rw [← Ny454.out] at ho; have n0_ := Aside0.mk (blk_grown (g := gb432) (o := .cells #[.int .u64 a3_0, .int .u64 a3_1] 28 (0, 0)) (by exact bF BK432.out) hg (Kd.R_ne HO448.out BK432.out (by decide))); have n1_ := Aside0.mk (blk_grown (g := gb435) (o := .cells #[.int .u64 t449, .int .u64 t450] 28 (0, 0)) (by exact bF BK435.out) hg (Kd.R_ne HO448.out BK435.out (by decide))); have n2_ := Aside0.mk (Kd.R_after (ok := (fun k_ => some k_ ≠ (.slice Ao37 y451.length co37 : Value).ownBlock)) (by (with_reducible repeat (first | apply Kd.R_alloc | apply Kd.R_drewN | apply Kd.R_drew)); exact Kd.R_mono HO445.out (fun _ hk => ⟨hk.2, hk.1.2⟩)) hg hat); have n3_ := Aside0.mk (Kd.R_after (ok := (fun k_ => some k_ ≠ (.slice Ao27 t443.length co27 : Value).ownBlock)) (by (with_reducible repeat (first | apply Kd.R_alloc | apply Kd.R_drewN | apply Kd.R_drew)); exact Kd.R_mono HO453.out (fun _ hk => ⟨hk.1.2, hk.2⟩)) hg hat); have n4_ := Aside0.mk (hb); have n5_ := Aside0.mk (ho); clear BK432; clear BK435; clear HO445; clear HO453; clear HB; clear HO448; have BK432 := n0_; have BK435 := n1_; have HO445 := n2_; have HO453 := n3_; have HB := n4_; have HO456 := n5_; clear n0_ n1_ n2_ n3_ n4_ n5_; clear ho hb hg hat))
         go_roundg k1
         case measure => have := HK1.out; omega
         case rel => exact ⟨(y454), (wrap64 ((wrap64 ((y446.length : Int) - 1)) + 3)), (wrap64 (x18_1 + 1)), (t449), (t450), (by first | rfl | (simp; done) | (simp [*]; done)), (by first | rfl | (simp; done) | (simp [*]; done)), H', ⟨by have := HK1.out; omega⟩, ⟨by (with_reducible repeat (first | apply Kd.R_alloc | apply Kd.R_drewN | apply Kd.R_drew)); exact Kd.R_mono HO456.out (fun _ hk => trivial)⟩, ⟨by exact bF BK432.out⟩, ⟨by exact bF BK435.out⟩, ⟨by repeat (first | (with_reducible first | exact HB.out | apply bA | apply bN | apply bD | refine bS ?_ GE432.out | refine bS ?_ GE435.out) | exact HB.out)⟩⟩
        ·rw [if_neg c23] at H
         exact absurd H (by simp)
      ·rw [if_neg c15] at H
       exact absurd H (by simp)
     ·rw [if_neg c13] at H
      exact absurd H (by simp)
    ·rw [if_neg c12] at H
     exact absurd H (by simp)
   ·rw [if_neg c11] at H
    have c11b0 : decide (x18_1 < (l2.length : Int)) = false := decide_eq_false c11
    clear c11
    obtain ⟨y436, hy436⟩ : ∃ y_ : List (S149), y_ = (([(⟨2, a1, 0, (⟨0, 0⟩ : S28)⟩ : S149), (⟨4, (x9_1.length : Int), x10_1, (⟨0, 0⟩ : S28)⟩ : S149)] : List (S149))) := ⟨_, rfl⟩
    replace H : (if x9_1.length + y436.length < 3518437208883 then (some (x9_1 ++ y436)) else (none)) = some r := by first | (rw [hy436]; with_reducible exact H) | (have H2_ := (Option.bind_some _ _).symm.trans H; rw [hy436]; with_reducible exact H2_) | (have H2_ := (Option.bind_some _ _).symm.trans H; with_reducible exact H2_) | with_reducible exact H | (rw [hy436]; exact H) | exact H
    have Ny436 := Aside0.mk hy436
    clear hy436
    by_cases c38 : x9_1.length + y436.length < 3518437208883
    ·rw [if_pos c38] at H
     have LMc38 := Aside0.mk c38
     clear c38
     obtain ⟨y439, hy439⟩ : ∃ y_ : List (S149), y_ = (x9_1 ++ y436) := ⟨_, rfl⟩
     replace H : (some y439) = some r := by first | (rw [hy439]; with_reducible exact H) | (have H2_ := (Option.bind_some _ _).symm.trans H; rw [hy439]; with_reducible exact H2_) | (have H2_ := (Option.bind_some _ _).symm.trans H; with_reducible exact H2_) | with_reducible exact H | (rw [hy439]; exact H) | exact H
     have Ny439 := Aside0.mk hy439
     clear hy439
     obtain rfl := Option.some.inj H
     obtain ⟨Ao39, co39, eo39⟩ := Kd.R_slice HO_9.out
     subst eo39
     go_wp2_with (first | ((with_reducible refine gate_dst (N := 62) rfl ?_); refine Kd.R_lit k149 _ 149 ?hg (N := 62) ?hd (xs := ([(⟨2, a1, 0, (⟨0, 0⟩ : S28)⟩ : S149), (⟨4, (x9_1.length : Int), x10_1, (⟨0, 0⟩ : S28)⟩ : S149)] : List (S149))) (inner := [.int .i64 2, .int .i64 a1, .int .i64 0, .int .u64 0, .int .u64 0, .int .i64 4, .int .i64 (x9_1.length : Int), .int .i64 x10_1, .int .u64 0, .int .u64 0]) (ok := fun _ => True) (okp := fun _ => True) ?hr ?hp (fun _ hk => hk) trivial (Below.refl _ _) (Nat.le_refl _) (by simp) ?_; (case hd => rfl); (case hg => rfl); (case hr => first | (go_simp; done) | (go_simp; rfl)); (case hp => exact (Reps.c5 (show Kd.M k149 _ _ _ (⟨2, a1, 0, (⟨0, 0⟩ : S28)⟩ : S149) [.int .i64 2, .int .i64 a1, .int .i64 0, .int .u64 0, .int .u64 0] from (k149_mkM _ _ _ (⟨2, a1, 0, (⟨0, 0⟩ : S28)⟩ : S149) )) (Reps.c5 (show Kd.M k149 _ _ _ (⟨4, (x9_1.length : Int), x10_1, (⟨0, 0⟩ : S28)⟩ : S149) [.int .i64 4, .int .i64 (x9_1.length : Int), .int .i64 x10_1, .int .u64 0, .int .u64 0] from (k149_mkM _ _ _ (⟨4, (x9_1.length : Int), x10_1, (⟨0, 0⟩ : S28)⟩ : S149) )) (Reps.none _ _)))); intro v437 w40 ho41 hb hg_ hnew_; clear hg_ hnew_; (first | rw [← Ny436.out] at ho41 | (simp only [Int.reduceToNat] at ho41; rw [← Ny436.out] at ho41)); have n0_ := Aside0.mk (Kd.R_elder' (by exact rF HO_9.out) (Kd.R_base ho41) hb); have n1_ := Aside0.mk (Kd.R_lower (Kd.R_new' ho41 (Kd.R_lt (by exact rF HO_9.out))) (below_size (by repeat (first | (with_reducible first | exact HB.out | apply bA | apply bN | apply bD | refine bS ?_ GE432.out | refine bS ?_ GE435.out) | exact HB.out)))); have n2_ := Aside0.mk (blk_below (g := gb432) (o := .cells #[.int .u64 a3_0, .int .u64 a3_1] 28 (0, 0)) (by exact bF BK432.out) hb); have n3_ := Aside0.mk (blk_below (g := gb435) (o := .cells #[.int .u64 x436000_1, .int .u64 x436001_1] 28 (0, 0)) (by exact bF BK435.out) hb); have n4_ := Aside0.mk (below_step (by repeat (first | (with_reducible first | exact HB.out | apply bA | apply bN | apply bD | refine bS ?_ GE432.out | refine bS ?_ GE435.out) | exact HB.out)) hb); clear HO_9; clear BK432; clear BK435; clear HB; have HO_9 := n0_; have HO438 := n1_; have BK432 := n2_; have BK435 := n3_; have HB := n4_; clear n0_ n1_ n2_ n3_ n4_; clear hb ho41; obtain ⟨Ao43, co43, eo43⟩ := Kd.R_slice HO438.out; subst eo43) | ((with_reducible refine gate_builtin (b := .append) (xs := #[.tmp 55, .tmp 62]) rfl ?_); at_builtin; refine Kd.R_append_rows k149 (w0 := w) w.heap.size rfl (.tmp 55) (.tmp 62) 83 149 (.agg #[(.int .i64 0), (.int .i64 0), (.int .i64 0), (.int .u64 0), (.int .u64 0)]) 40 rfl Try.underlying83 info149 rfl (by decide) (by omega) (.slice Ao39 x9_1.length co39) x9_1 y436 _ _ _ (fun k_ => some k_ ≠ (.slice Ao43 y436.length co43 : Value).ownBlock) (fun _ => False) rfl rfl ?aO ?aR (fun _ _ h => h) (fun _ h => h.elim) ?aF ?aB ?aS ?aL ?_; (case aR => repeat (first | exact (Kd.R_reads' HO438.out).2.2 | (with_reducible refine Kd.C_alloc ?_ _) | (with_reducible refine Kd.C_drewN ?_ _) | (with_reducible refine Kd.C_drew ?_))); (case aB => exact (by repeat (first | (with_reducible first | exact HB.out | apply bA | apply bN | apply bD | refine bS ?_ GE432.out | refine bS ?_ GE435.out) | exact HB.out))); (case aF => exact (fun k_ hk => Kd.fresh' (Kd.R_lt (by exact rF HO438.out)) k_ hk)); (case aO => exact (by (with_reducible repeat (first | apply Kd.R_alloc | apply Kd.R_drewN | apply Kd.R_drew)); exact Kd.R_mono HO_9.out (fun _ hk => hk.2))); (case aS => exact (below_size (by repeat (first | (with_reducible first | exact HB.out | apply bA | apply bN | apply bD | refine bS ?_ GE432.out | refine bS ?_ GE435.out) | exact HB.out)))); (case aL => have := LMc38.out; omega); intro v440 w42 ho hb hg hat; rw [← Ny439.out] at ho; have n0_ := Aside0.mk (blk_grown (g := gb432) (o := .cells #[.int .u64 a3_0, .int .u64 a3_1] 28 (0, 0)) (by exact bF BK432.out) hg (Kd.R_ne HO_9.out BK432.out (by decide))); have n1_ := Aside0.mk (blk_grown (g := gb435) (o := .cells #[.int .u64 x436000_1, .int .u64 x436001_1] 28 (0, 0)) (by exact bF BK435.out) hg (Kd.R_ne HO_9.out BK435.out (by decide))); have n2_ := Aside0.mk (Kd.R_after (ok := (fun _ => True)) (by exact rF HO438.out) hg hat); have n3_ := Aside0.mk (hb); have n4_ := Aside0.mk (ho); clear BK432; clear BK435; clear HO438; clear HB; clear HO_9; have BK432 := n0_; have BK435 := n1_; have HO438 := n2_; have HB := n3_; have HO441 := n4_; clear n0_ n1_ n2_ n3_ n4_; clear ho hb hg hat))
     go_ret
     exact ⟨_, by first | rfl | (simp [errW_none, errW_some] <;> rfl) | (simp [*, errW_none, errW_some] <;> rfl), by (with_reducible repeat (first | apply Kd.R_alloc | apply Kd.R_drewN | apply Kd.R_drew)); exact Kd.R_mono HO441.out (fun _ hk => trivial), by repeat (first | (with_reducible first | exact HB.out | apply bA | apply bN | apply bD | refine bS ?_ GE432.out | refine bS ?_ GE435.out) | exact HB.out)⟩
    ·rw [if_neg c38] at H
     exact absurd H (by simp)
def zero_Mix.l0 : Nat → Int → Int → List (List (S149)) → List (List (S149)) → Int → Int → Int → Int → Option ((List (S149)) × Int)
 | 0, _, _, _, _, _, _, _, _ => none
 | k + 1, x0, x1, x2, x21, x22, x23, x458000, x458001 => if x23 < x22 then (if 0 ≤ x23 then (if x23 < (x21.length : Int) then ((expr_Check.f k x0 x1 (rd_L13 x21 x23)).bind fun t460 => (if t460 = 0 then (zero_Mix.l0 k x0 x1 x2 x21 x22 (wrap64 (x23 + 1)) x458000 x458001) else (some (([] : List (S149)), t460)))) else (none)) else (none)) else ((octet_Of.f x0 x458000 x458001).bind fun t461 => (if t461 = true then ((zero_mix.f k x0 x1 x2 x458000 x458001).bind fun t462 => ((expr_Check.f k x0 (wrap64 (x1 + 1)) t462).bind fun t465 => (if t465 = 0 then (some (t462, 0)) else (some (([] : List (S149)), t465))))) else (some (([] : List (S149)), 5))))
def zero_Mix.f (k : Nat) (a0 : Int) (a1 : Int) (l2 : List (List (S149))) (a3_0 : Int) (a3_1 : Int) : Option ((List (S149)) × Int) := (zero_many.f l2).bind fun t458 => (if t458 = 0 then (zero_Mix.l0 k a0 a1 l2 l2 (l2.length : Int) 0 a3_0 a3_1) else (some (([] : List (S149)), t458)))
set_option maxHeartbeats 8000000 in
set_option maxRecDepth 100000 in
theorem zero_Mix.calls (k : Nat) (a0 : Int) (a1 : Int) (A2 : Option Addr) (c2 : Nat) (l2 : List (List (S149))) (a3_0 : Int) (a3_1 : Int) (r1 : List (S149)) (r2 : Int) (w : World) (hr2 : Kd.C (Kd.slice 149 k149) w A2 l2.length l2) (hc2 : l2.length ≤ c2) (h : zero_Mix.f k a0 a1 l2 a3_0 a3_1 = some (r1, r2)) :
  Calls Try.prog 39 #[.int .i64 a0, .int .i64 a1, .slice A2 l2.length c2, .agg #[.int .u64 a3_0, .int .u64 a3_1]] w fun e w' => ∃ v0_ : Value, e = .returned (.tuple #[v0_, .int .i64 r2]) ∧ Kd.R k149 149 w' w.heap.size (fun _ => True) v0_ r1 ∧ Below w.heap.size w w' := by
 have hu28 := Try.underlying28
 have HR2 := Aside0.mk hr2
 have HC2 := Aside0.mk hc2
 clear hr2 hc2
 have HB := Aside0.mk (Below.refl w.heap.size w)
 have H : ((zero_many.f l2).bind fun t458 => (if t458 = 0 then (zero_Mix.l0 k a0 a1 l2 l2 (l2.length : Int) 0 a3_0 a3_1) else (some (([] : List (S149)), t458)))) = some (r1, r2) := h
 clear h
 replace H := Option.bind_eq_some_iff.mp H
 obtain ⟨t458, A50, H⟩ := H
 replace H : (if t458 = 0 then (zero_Mix.l0 k a0 a1 l2 l2 (l2.length : Int) 0 a3_0 a3_1) else (some (([] : List (S149)), t458))) = some (r1, r2) := H
 have A5 := Aside0.mk A50
 clear A50
 by_cases c6 : t458 = 0
 ·rw [if_pos c6] at H
  have c6b0 : (t458 == 0) = true := beq_iff_eq.mpr c6
  have c6b1 : (t458 != 0) = false := bne_eq_false_iff_eq.mpr c6
  clear c6
  have H' := Aside0.mk H
  clear H
  go_enter Try.func39, Try.ntmps39
  go_wp2_with (first | ((with_reducible refine gate_dst (N := 7) rfl ?_); refine box_event ?hg (N := 7) ?hd (cs := #[.int .u64 a3_0, .int .u64 a3_1]) (t := 28) ?hr ?_; (case hd => rfl); (case hg => rfl); (case hr => first | (go_simp; done) | (go_simp; rfl)); intro gb457 hg w7 hbox hb; have n0_ := Aside0.mk (below_step (by exact lF HB.out) hb); have n1_ := Aside0.mk (hbox); have n2_ := Aside0.mk ((by rw [hg]; exact (below_size (by exact lF HB.out)) : w.heap.size ≤ gb457)); have n3_ := Aside0.mk ((by rw [hg]; exact (below_size (by exact lF HB.out)) : w.heap.size ≤ gb457)); clear HB; have HB := n0_; have BK457 := n1_; have GW457 := n2_; have GE457 := n3_; clear n0_ n1_ n2_ n3_; clear hb hbox hg) | ((with_reducible refine gate_callee (f := 90) rfl ?_); refine goesL_ (some 17) rfl rfl Try.func90 (by kernel_rfl) rfl #[.slice A2 l2.length c2] rfl (by (try simp only [List.map_toArray, List.map_cons, List.map_nil]); first | done | rfl | (simp only [List.length_drop, List.length_take]; rfl)) ?_; (with_reducible refine (zero_many.calls _ _ l2 t458 _ ?side1 ?side2 A5.out).mono ?_); (case side1 => repeat (first | exact (Kd.C_below HR2.out HB.out) | (with_reducible refine Kd.C_alloc ?_ _) | (with_reducible refine Kd.C_drewN ?_ _) | (with_reducible refine Kd.C_drew ?_))); (case side2 => exact HC2.out); rintro e w' ⟨rfl, ⟨nd, rfl⟩⟩; refine ⟨_, rfl, ?_⟩))
  go_loopg [23] k (fun kq v23 w' => ∃ (x23_1 : Int), v23 = .int .i64 x23_1 ∧ Aside0 (zero_Mix.l0 kq a0 a1 l2 l2 (l2.length : Int) x23_1 a3_0 a3_1 = some (r1, r2)) ∧ Aside0 (kq ≤ k) ∧ Aside0 (w'.heap[gb457]? = some (.cells #[.int .u64 a3_0, .int .u64 a3_1] 28 (0, 0))) ∧ Aside0 (Below w.heap.size w w'))
  case atStart => exact ⟨(0), (by first | rfl | (simp; done) | (simp [*]; done)), H', ⟨Nat.le_refl _⟩, ⟨by exact bF BK457.out⟩, ⟨by repeat (first | (with_reducible first | exact HB.out | apply bA | apply bN | apply bD | refine bS ?_ GE457.out) | exact HB.out)⟩⟩
  case round =>
   clear H'
   try clear c2
   try clear p2
   try clear c3
   try clear c6
   try clear c6b0
   try clear c6b1
   obtain ⟨x23_1, rfl, HA, HK1, BK457, HB⟩ := hrel
   cases gk with
   | zero => exact absurd HA.out (by simp [zero_Mix.l0])
   | succ k1 =>
    have H := HA.out
    clear HA
    simp only [zero_Mix.l0] at H
    by_cases c8 : x23_1 < (l2.length : Int)
    ·rw [if_pos c8] at H
     have c8b0 : decide (x23_1 < (l2.length : Int)) = true := decide_eq_true c8
     clear c8
     by_cases c9 : 0 ≤ x23_1
     ·rw [if_pos c9] at H
      have c9b0 : decide (0 ≤ x23_1) = true := decide_eq_true c9
      clear c9
      by_cases c10 : x23_1 < (l2.length : Int)
      ·rw [if_pos c10] at H
       have c10b0 : decide (x23_1 < (l2.length : Int)) = true := decide_eq_true c10
       clear c10
       replace H := Option.bind_eq_some_iff.mp H
       obtain ⟨t460, A110, H⟩ := H
       replace H : (if t460 = 0 then (zero_Mix.l0 k1 a0 a1 l2 l2 (l2.length : Int) (wrap64 (x23_1 + 1)) a3_0 a3_1) else (some (([] : List (S149)), t460))) = some (r1, r2) := H
       have A11 := Aside0.mk A110
       clear A110
       by_cases c12 : t460 = 0
       ·rw [if_pos c12] at H
        have c12b0 : (t460 == 0) = true := beq_iff_eq.mpr c12
        have c12b1 : (t460 != 0) = false := bne_eq_false_iff_eq.mpr c12
        clear c12
        have H' := Aside0.mk H
        clear H
        have p459 : 0 ≤ (x23_1 : Int) := of_decide_eq_true (by first | (with_reducible assumption) | assumption)
        have q459 : x23_1 < (l2.length : Int) := of_decide_eq_true (by first | (with_reducible assumption) | assumption)
        obtain ⟨ad459, A459_0, c459_0, e459, hx459_0, hl459_0, hi459_0⟩ := at_L13 HR2.out x23_1 p459 q459
        cases e459
        replace hx459_0 := (HB.out.cell (World.block_lt_of_cell? w _ hx459_0)).trans hx459_0
        have HR459_0 := Aside0.mk hi459_0
        have HC459_0 := Aside0.mk hl459_0
        clear hi459_0 hl459_0
        replace p459 := eq_true p459
        replace q459 := eq_true q459
        go_wp2_with (first | ((with_reducible refine gate_callee (f := 91) rfl ?_); refine goesL_ (some 30) rfl rfl Try.func91 (by kernel_rfl) rfl #[.int .i64 a0, .int .i64 a1, .slice A459_0 (rd_L13 l2 x23_1).length c459_0] rfl (by (try simp only [List.map_toArray, List.map_cons, List.map_nil]); first | done | rfl | (simp only [List.length_drop, List.length_take]; rfl)) ?_; (with_reducible refine (expr_Check.calls k1 a0 a1 _ _ (rd_L13 l2 x23_1) t460 _ ?side1 ?side2 A11.out).mono ?_); (case side1 => repeat (first | exact (Kd.C_below HR459_0.out HB.out) | (with_reducible refine Kd.C_alloc ?_ _) | (with_reducible refine Kd.C_drewN ?_ _) | (with_reducible refine Kd.C_drew ?_))); (case side2 => exact HC459_0.out); rintro e w13 ⟨rfl, hb⟩; refine ⟨_, rfl, ?_⟩; have n0_ := Aside0.mk (blk_below (g := gb457) (o := .cells #[.int .u64 a3_0, .int .u64 a3_1] 28 (0, 0)) (by exact bF BK457.out) hb); have n1_ := Aside0.mk (below_step (by repeat (first | (with_reducible first | exact HB.out | apply bA | apply bN | apply bD | refine bS ?_ GE457.out) | exact HB.out)) hb); clear BK457; clear HB; have BK457 := n0_; have HB := n1_; clear n0_ n1_; (try clear hb); (try clear hb2); (try clear hk); (try clear hi)))
        go_roundg k1
        case measure => have := HK1.out; omega
        case rel => exact ⟨(wrap64 (x23_1 + 1)), (by first | rfl | (simp; done) | (simp [*]; done)), H', ⟨by have := HK1.out; omega⟩, ⟨by exact bF BK457.out⟩, ⟨by repeat (first | (with_reducible first | exact HB.out | apply bA | apply bN | apply bD | refine bS ?_ GE457.out) | exact HB.out)⟩⟩
       ·rw [if_neg c12] at H
        have c12b0 : (t460 == 0) = false := beq_eq_false_iff_ne.mpr c12
        have c12b1 : (t460 != 0) = true := bne_iff_ne.mpr c12
        simp only [Option.some.injEq, Prod.mk.injEq] at H
        obtain ⟨rfl, rfl⟩ := H
        have p459 : 0 ≤ (x23_1 : Int) := of_decide_eq_true (by first | (with_reducible assumption) | assumption)
        have q459 : x23_1 < (l2.length : Int) := of_decide_eq_true (by first | (with_reducible assumption) | assumption)
        obtain ⟨ad459, A459_0, c459_0, e459, hx459_0, hl459_0, hi459_0⟩ := at_L13 HR2.out x23_1 p459 q459
        cases e459
        replace hx459_0 := (HB.out.cell (World.block_lt_of_cell? w _ hx459_0)).trans hx459_0
        have HR459_0 := Aside0.mk hi459_0
        have HC459_0 := Aside0.mk hl459_0
        clear hi459_0 hl459_0
        replace p459 := eq_true p459
        replace q459 := eq_true q459
        go_wp2_with (first | ((with_reducible refine gate_callee (f := 91) rfl ?_); refine goesL_ (some 30) rfl rfl Try.func91 (by kernel_rfl) rfl #[.int .i64 a0, .int .i64 a1, .slice A459_0 (rd_L13 l2 x23_1).length c459_0] rfl (by (try simp only [List.map_toArray, List.map_cons, List.map_nil]); first | done | rfl | (simp only [List.length_drop, List.length_take]; rfl)) ?_; (with_reducible refine (expr_Check.calls k1 a0 a1 _ _ (rd_L13 l2 x23_1) t460 _ ?side1 ?side2 A11.out).mono ?_); (case side1 => repeat (first | exact (Kd.C_below HR459_0.out HB.out) | (with_reducible refine Kd.C_alloc ?_ _) | (with_reducible refine Kd.C_drewN ?_ _) | (with_reducible refine Kd.C_drew ?_))); (case side2 => exact HC459_0.out); rintro e w14 ⟨rfl, hb⟩; refine ⟨_, rfl, ?_⟩; have n0_ := Aside0.mk (blk_below (g := gb457) (o := .cells #[.int .u64 a3_0, .int .u64 a3_1] 28 (0, 0)) (by exact bF BK457.out) hb); have n1_ := Aside0.mk (below_step (by repeat (first | (with_reducible first | exact HB.out | apply bA | apply bN | apply bD | refine bS ?_ GE457.out) | exact HB.out)) hb); clear BK457; clear HB; have BK457 := n0_; have HB := n1_; clear n0_ n1_; (try clear hb); (try clear hb2); (try clear hk); (try clear hi)))
        go_ret2
        exact ⟨_, by first | rfl | (simp [errW_none, errW_some] <;> rfl) | (simp [*, errW_none, errW_some] <;> rfl), by first | exact Kd.R_nil _ _ _ _ _ | exact Kd.N_nil _ _ _ _ _ | exact Kd.V_nil _ _ _ _ _ | exact Kd.Q_nil _ _ _ _ _ | exact Kd.S_nil _ _ _ _ _, by repeat (first | (with_reducible first | exact HB.out | apply bA | apply bN | apply bD | refine bS ?_ GE457.out) | exact HB.out)⟩
      ·rw [if_neg c10] at H
       exact absurd H (by simp)
     ·rw [if_neg c9] at H
      exact absurd H (by simp)
    ·rw [if_neg c8] at H
     have c8b0 : decide (x23_1 < (l2.length : Int)) = false := decide_eq_false c8
     clear c8
     replace H := Option.bind_eq_some_iff.mp H
     obtain ⟨t461, A150, H⟩ := H
     replace H : (if t461 = true then ((zero_mix.f k1 a0 a1 l2 a3_0 a3_1).bind fun t462 => ((expr_Check.f k1 a0 (wrap64 (a1 + 1)) t462).bind fun t465 => (if t465 = 0 then (some (t462, 0)) else (some (([] : List (S149)), t465))))) else (some (([] : List (S149)), 5))) = some (r1, r2) := H
     have A15 := Aside0.mk A150
     clear A150
     by_cases c16 : t461 = true
     ·subst c16
      have H1 : ((zero_mix.f k1 a0 a1 l2 a3_0 a3_1).bind fun t462 => ((expr_Check.f k1 a0 (wrap64 (a1 + 1)) t462).bind fun t465 => (if t465 = 0 then (some (t462, 0)) else (some (([] : List (S149)), t465))))) = some (r1, r2) := by rw [if_pos rfl] at H; exact H
      clear H
      have H := H1
      clear H1
      replace H := Option.bind_eq_some_iff.mp H
      obtain ⟨t462, A170, H⟩ := H
      replace H : ((expr_Check.f k1 a0 (wrap64 (a1 + 1)) t462).bind fun t465 => (if t465 = 0 then (some (t462, 0)) else (some (([] : List (S149)), t465)))) = some (r1, r2) := H
      have A17 := Aside0.mk A170
      clear A170
      replace H := Option.bind_eq_some_iff.mp H
      obtain ⟨t465, A180, H⟩ := H
      replace H : (if t465 = 0 then (some (t462, 0)) else (some (([] : List (S149)), t465))) = some (r1, r2) := H
      have A18 := Aside0.mk A180
      clear A180
      by_cases c19 : t465 = 0
      ·rw [if_pos c19] at H
       have c19b0 : (t465 == 0) = true := beq_iff_eq.mpr c19
       have c19b1 : (t465 != 0) = false := bne_eq_false_iff_eq.mpr c19
       clear c19
       simp only [Option.some.injEq, Prod.mk.injEq] at H
       obtain ⟨rfl, rfl⟩ := H
       have hcz20_0 : wr.cell? ⟨gb457, 0, none⟩ = some (.int .u64 a3_0) := (blk_cell BK457.out 0).trans rfl
       have hcz20_1 : wr.cell? ⟨gb457, 1, none⟩ = some (.int .u64 a3_1) := (blk_cell BK457.out 1).trans rfl
       have hfz20_0 := blk_frozen BK457.out 0
       have hfz20_1 := blk_frozen BK457.out 1
       go_wp2_with (first | ((with_reducible refine gate_callee (f := 81) rfl ?_); refine goesL_ (some 37) rfl rfl Try.func81 (by kernel_rfl) rfl #[.int .i64 a0, .agg #[.int .u64 a3_0, .int .u64 a3_1]] rfl (by (try simp only [List.map_toArray, List.map_cons, List.map_nil]); first | done | rfl | (simp only [List.length_drop, List.length_take]; rfl)) ?_; (with_reducible refine (octet_Of.calls a0 a3_0 a3_1 true _ A15.out).mono ?_); rintro e w21 ⟨rfl, hb⟩; refine ⟨_, rfl, ?_⟩; have n0_ := Aside0.mk (blk_below (g := gb457) (o := .cells #[.int .u64 a3_0, .int .u64 a3_1] 28 (0, 0)) (by exact bF BK457.out) hb); have n1_ := Aside0.mk (below_step (by repeat (first | (with_reducible first | exact HB.out | apply bA | apply bN | apply bD | refine bS ?_ GE457.out) | exact HB.out)) hb); clear BK457; clear HB; have BK457 := n0_; have HB := n1_; clear n0_ n1_; (try clear hb); (try clear hb2); (try clear hk); (try clear hi); have hcz22_0 : w21.cell? ⟨gb457, 0, none⟩ = some (.int .u64 a3_0) := (blk_cell BK457.out 0).trans rfl; have hcz22_1 : w21.cell? ⟨gb457, 1, none⟩ = some (.int .u64 a3_1) := (blk_cell BK457.out 1).trans rfl; have hfz22_0 := blk_frozen BK457.out 0; have hfz22_1 := blk_frozen BK457.out 1) | ((with_reducible refine gate_callee (f := 92) rfl ?_); refine goesL_ (some 43) rfl rfl Try.func92 (by kernel_rfl) rfl #[.int .i64 a0, .int .i64 a1, .slice A2 l2.length c2, .agg #[.int .u64 a3_0, .int .u64 a3_1]] rfl (by (try simp only [List.map_toArray, List.map_cons, List.map_nil]); first | done | rfl | (simp only [List.length_drop, List.length_take]; rfl)) ?_; (with_reducible refine (zero_mix.calls k1 a0 a1 _ _ l2 a3_0 a3_1 t462 _ ?side1 ?side2 A17.out).mono ?_); (case side1 => repeat (first | exact (Kd.C_below HR2.out HB.out) | (with_reducible refine Kd.C_alloc ?_ _) | (with_reducible refine Kd.C_drewN ?_ _) | (with_reducible refine Kd.C_drew ?_))); (case side2 => exact HC2.out); rintro e w23 ⟨v463, rfl, ho0, hb⟩; refine ⟨_, rfl, ?_⟩; have n0_ := Aside0.mk (Kd.R_lower ho0 (below_size (by repeat (first | (with_reducible first | exact HB.out | apply bA | apply bN | apply bD | refine bS ?_ GE457.out) | exact HB.out)))); have n1_ := Aside0.mk (blk_below (g := gb457) (o := .cells #[.int .u64 a3_0, .int .u64 a3_1] 28 (0, 0)) (by exact bF BK457.out) hb); have n2_ := Aside0.mk (below_step (by repeat (first | (with_reducible first | exact HB.out | apply bA | apply bN | apply bD | refine bS ?_ GE457.out) | exact HB.out)) hb); clear BK457; clear HB; have HO464 := n0_; have BK457 := n1_; have HB := n2_; clear n0_ n1_ n2_; (try clear hb); (try clear hb2); (try clear hk); (try clear hi); (try clear ho0); obtain ⟨Ao24, co24, eo24⟩ := Kd.R_slice HO464.out; subst eo24) | ((with_reducible refine gate_callee (f := 91) rfl ?_); refine goesL_ (some 48) rfl rfl Try.func91 (by kernel_rfl) rfl #[.int .i64 a0, .int .i64 (wrap64 (a1 + 1)), .slice Ao24 t462.length co24] rfl (by (try simp only [List.map_toArray, List.map_cons, List.map_nil]); first | done | rfl | (simp only [List.length_drop, List.length_take]; rfl)) ?_; (with_reducible refine (expr_Check.calls k1 a0 (wrap64 (a1 + 1)) _ _ t462 t465 _ ?side1 ?side2 A18.out).mono ?_); (case side1 => repeat (first | exact (Kd.R_reads' HO464.out).2.2 | (with_reducible refine Kd.C_alloc ?_ _) | (with_reducible refine Kd.C_drewN ?_ _) | (with_reducible refine Kd.C_drew ?_))); (case side2 => exact (Kd.R_reads' HO464.out).2.1); rintro e w25 ⟨rfl, hb⟩; refine ⟨_, rfl, ?_⟩; have n0_ := Aside0.mk (Kd.R_below (by exact rF HO464.out) hb); have n1_ := Aside0.mk (blk_below (g := gb457) (o := .cells #[.int .u64 a3_0, .int .u64 a3_1] 28 (0, 0)) (by exact bF BK457.out) hb); have n2_ := Aside0.mk (below_step (by repeat (first | (with_reducible first | exact HB.out | apply bA | apply bN | apply bD | refine bS ?_ GE457.out) | exact HB.out)) hb); clear HO464; clear BK457; clear HB; have HO464 := n0_; have BK457 := n1_; have HB := n2_; clear n0_ n1_ n2_; (try clear hb); (try clear hb2); (try clear hk); (try clear hi)))
       go_ret2
       exact ⟨_, by first | rfl | (simp [errW_none, errW_some] <;> rfl) | (simp [*, errW_none, errW_some] <;> rfl), by exact rF HO464.out, by repeat (first | (with_reducible first | exact HB.out | apply bA | apply bN | apply bD | refine bS ?_ GE457.out) | exact HB.out)⟩
      ·rw [if_neg c19] at H
       have c19b0 : (t465 == 0) = false := beq_eq_false_iff_ne.mpr c19
       have c19b1 : (t465 != 0) = true := bne_iff_ne.mpr c19
       simp only [Option.some.injEq, Prod.mk.injEq] at H
       obtain ⟨rfl, rfl⟩ := H
       have hcz26_0 : wr.cell? ⟨gb457, 0, none⟩ = some (.int .u64 a3_0) := (blk_cell BK457.out 0).trans rfl
       have hcz26_1 : wr.cell? ⟨gb457, 1, none⟩ = some (.int .u64 a3_1) := (blk_cell BK457.out 1).trans rfl
       have hfz26_0 := blk_frozen BK457.out 0
       have hfz26_1 := blk_frozen BK457.out 1
       go_wp2_with (first | ((with_reducible refine gate_callee (f := 81) rfl ?_); refine goesL_ (some 37) rfl rfl Try.func81 (by kernel_rfl) rfl #[.int .i64 a0, .agg #[.int .u64 a3_0, .int .u64 a3_1]] rfl (by (try simp only [List.map_toArray, List.map_cons, List.map_nil]); first | done | rfl | (simp only [List.length_drop, List.length_take]; rfl)) ?_; (with_reducible refine (octet_Of.calls a0 a3_0 a3_1 true _ A15.out).mono ?_); rintro e w27 ⟨rfl, hb⟩; refine ⟨_, rfl, ?_⟩; have n0_ := Aside0.mk (blk_below (g := gb457) (o := .cells #[.int .u64 a3_0, .int .u64 a3_1] 28 (0, 0)) (by exact bF BK457.out) hb); have n1_ := Aside0.mk (below_step (by repeat (first | (with_reducible first | exact HB.out | apply bA | apply bN | apply bD | refine bS ?_ GE457.out) | exact HB.out)) hb); clear BK457; clear HB; have BK457 := n0_; have HB := n1_; clear n0_ n1_; (try clear hb); (try clear hb2); (try clear hk); (try clear hi); have hcz28_0 : w27.cell? ⟨gb457, 0, none⟩ = some (.int .u64 a3_0) := (blk_cell BK457.out 0).trans rfl; have hcz28_1 : w27.cell? ⟨gb457, 1, none⟩ = some (.int .u64 a3_1) := (blk_cell BK457.out 1).trans rfl; have hfz28_0 := blk_frozen BK457.out 0; have hfz28_1 := blk_frozen BK457.out 1) | ((with_reducible refine gate_callee (f := 92) rfl ?_); refine goesL_ (some 43) rfl rfl Try.func92 (by kernel_rfl) rfl #[.int .i64 a0, .int .i64 a1, .slice A2 l2.length c2, .agg #[.int .u64 a3_0, .int .u64 a3_1]] rfl (by (try simp only [List.map_toArray, List.map_cons, List.map_nil]); first | done | rfl | (simp only [List.length_drop, List.length_take]; rfl)) ?_; (with_reducible refine (zero_mix.calls k1 a0 a1 _ _ l2 a3_0 a3_1 t462 _ ?side1 ?side2 A17.out).mono ?_); (case side1 => repeat (first | exact (Kd.C_below HR2.out HB.out) | (with_reducible refine Kd.C_alloc ?_ _) | (with_reducible refine Kd.C_drewN ?_ _) | (with_reducible refine Kd.C_drew ?_))); (case side2 => exact HC2.out); rintro e w29 ⟨v463, rfl, ho0, hb⟩; refine ⟨_, rfl, ?_⟩; have n0_ := Aside0.mk (Kd.R_lower ho0 (below_size (by repeat (first | (with_reducible first | exact HB.out | apply bA | apply bN | apply bD | refine bS ?_ GE457.out) | exact HB.out)))); have n1_ := Aside0.mk (blk_below (g := gb457) (o := .cells #[.int .u64 a3_0, .int .u64 a3_1] 28 (0, 0)) (by exact bF BK457.out) hb); have n2_ := Aside0.mk (below_step (by repeat (first | (with_reducible first | exact HB.out | apply bA | apply bN | apply bD | refine bS ?_ GE457.out) | exact HB.out)) hb); clear BK457; clear HB; have HO464 := n0_; have BK457 := n1_; have HB := n2_; clear n0_ n1_ n2_; (try clear hb); (try clear hb2); (try clear hk); (try clear hi); (try clear ho0); obtain ⟨Ao30, co30, eo30⟩ := Kd.R_slice HO464.out; subst eo30) | ((with_reducible refine gate_callee (f := 91) rfl ?_); refine goesL_ (some 48) rfl rfl Try.func91 (by kernel_rfl) rfl #[.int .i64 a0, .int .i64 (wrap64 (a1 + 1)), .slice Ao30 t462.length co30] rfl (by (try simp only [List.map_toArray, List.map_cons, List.map_nil]); first | done | rfl | (simp only [List.length_drop, List.length_take]; rfl)) ?_; (with_reducible refine (expr_Check.calls k1 a0 (wrap64 (a1 + 1)) _ _ t462 t465 _ ?side1 ?side2 A18.out).mono ?_); (case side1 => repeat (first | exact (Kd.R_reads' HO464.out).2.2 | (with_reducible refine Kd.C_alloc ?_ _) | (with_reducible refine Kd.C_drewN ?_ _) | (with_reducible refine Kd.C_drew ?_))); (case side2 => exact (Kd.R_reads' HO464.out).2.1); rintro e w31 ⟨rfl, hb⟩; refine ⟨_, rfl, ?_⟩; have n0_ := Aside0.mk (Kd.R_below (by exact rF HO464.out) hb); have n1_ := Aside0.mk (blk_below (g := gb457) (o := .cells #[.int .u64 a3_0, .int .u64 a3_1] 28 (0, 0)) (by exact bF BK457.out) hb); have n2_ := Aside0.mk (below_step (by repeat (first | (with_reducible first | exact HB.out | apply bA | apply bN | apply bD | refine bS ?_ GE457.out) | exact HB.out)) hb); clear HO464; clear BK457; clear HB; have HO464 := n0_; have BK457 := n1_; have HB := n2_; clear n0_ n1_ n2_; (try clear hb); (try clear hb2); (try clear hk); (try clear hi)))
       go_ret2
       exact ⟨_, by first | rfl | (simp [errW_none, errW_some] <;> rfl) | (simp [*, errW_none, errW_some] <;> rfl), by first | exact Kd.R_nil _ _ _ _ _ | exact Kd.N_nil _ _ _ _ _ | exact Kd.V_nil _ _ _ _ _ | exact Kd.Q_nil _ _ _ _ _ | exact Kd.S_nil _ _ _ _ _, by repeat (first | (with_reducible first | exact HB.out | apply bA | apply bN | apply bD | refine bS ?_ GE457.out) | exact HB.out)⟩
     ·replace c16 := Bool.eq_false_iff.mpr c16
      subst c16
      have H1 : (some (([] : List (S149)), 5)) = some (r1, r2) := by rw [if_neg (show ¬ (false = true) by decide)] at H; exact H
      clear H
      have H := H1
      clear H1
      simp only [Option.some.injEq, Prod.mk.injEq] at H
      obtain ⟨rfl, rfl⟩ := H
      have hcz32_0 : wr.cell? ⟨gb457, 0, none⟩ = some (.int .u64 a3_0) := (blk_cell BK457.out 0).trans rfl
      have hcz32_1 : wr.cell? ⟨gb457, 1, none⟩ = some (.int .u64 a3_1) := (blk_cell BK457.out 1).trans rfl
      have hfz32_0 := blk_frozen BK457.out 0
      have hfz32_1 := blk_frozen BK457.out 1
      go_wp2_with (first | ((with_reducible refine gate_callee (f := 81) rfl ?_); refine goesL_ (some 37) rfl rfl Try.func81 (by kernel_rfl) rfl #[.int .i64 a0, .agg #[.int .u64 a3_0, .int .u64 a3_1]] rfl (by (try simp only [List.map_toArray, List.map_cons, List.map_nil]); first | done | rfl | (simp only [List.length_drop, List.length_take]; rfl)) ?_; (with_reducible refine (octet_Of.calls a0 a3_0 a3_1 false _ A15.out).mono ?_); rintro e w33 ⟨rfl, hb⟩; refine ⟨_, rfl, ?_⟩; have n0_ := Aside0.mk (blk_below (g := gb457) (o := .cells #[.int .u64 a3_0, .int .u64 a3_1] 28 (0, 0)) (by exact bF BK457.out) hb); have n1_ := Aside0.mk (below_step (by repeat (first | (with_reducible first | exact HB.out | apply bA | apply bN | apply bD | refine bS ?_ GE457.out) | exact HB.out)) hb); clear BK457; clear HB; have BK457 := n0_; have HB := n1_; clear n0_ n1_; (try clear hb); (try clear hb2); (try clear hk); (try clear hi)))
      go_ret2
      exact ⟨_, by first | rfl | (simp [errW_none, errW_some] <;> rfl) | (simp [*, errW_none, errW_some] <;> rfl), by first | exact Kd.R_nil _ _ _ _ _ | exact Kd.N_nil _ _ _ _ _ | exact Kd.V_nil _ _ _ _ _ | exact Kd.Q_nil _ _ _ _ _ | exact Kd.S_nil _ _ _ _ _, by repeat (first | (with_reducible first | exact HB.out | apply bA | apply bN | apply bD | refine bS ?_ GE457.out) | exact HB.out)⟩
 ·rw [if_neg c6] at H
  have c6b0 : (t458 == 0) = false := beq_eq_false_iff_ne.mpr c6
  have c6b1 : (t458 != 0) = true := bne_iff_ne.mpr c6
  simp only [Option.some.injEq, Prod.mk.injEq] at H
  obtain ⟨rfl, rfl⟩ := H
  go_enter Try.func39, Try.ntmps39
  go_wp2_with (first | ((with_reducible refine gate_dst (N := 7) rfl ?_); refine box_event ?hg (N := 7) ?hd (cs := #[.int .u64 a3_0, .int .u64 a3_1]) (t := 28) ?hr ?_; (case hd => rfl); (case hg => rfl); (case hr => first | (go_simp; done) | (go_simp; rfl)); intro gb457 hg w34 hbox hb; have n0_ := Aside0.mk (below_step (by exact lF HB.out) hb); have n1_ := Aside0.mk (hbox); have n2_ := Aside0.mk ((by rw [hg]; exact (below_size (by exact lF HB.out)) : w.heap.size ≤ gb457)); have n3_ := Aside0.mk ((by rw [hg]; exact (below_size (by exact lF HB.out)) : w.heap.size ≤ gb457)); clear HB; have HB := n0_; have BK457 := n1_; have GW457 := n2_; have GE457 := n3_; clear n0_ n1_ n2_ n3_; clear hb hbox hg) | ((with_reducible refine gate_callee (f := 90) rfl ?_); refine goesL_ (some 17) rfl rfl Try.func90 (by kernel_rfl) rfl #[.slice A2 l2.length c2] rfl (by (try simp only [List.map_toArray, List.map_cons, List.map_nil]); first | done | rfl | (simp only [List.length_drop, List.length_take]; rfl)) ?_; (with_reducible refine (zero_many.calls _ _ l2 t458 _ ?side1 ?side2 A5.out).mono ?_); (case side1 => repeat (first | exact (Kd.C_below HR2.out HB.out) | (with_reducible refine Kd.C_alloc ?_ _) | (with_reducible refine Kd.C_drewN ?_ _) | (with_reducible refine Kd.C_drew ?_))); (case side2 => exact HC2.out); rintro e w' ⟨rfl, ⟨nd, rfl⟩⟩; refine ⟨_, rfl, ?_⟩))
  go_ret2
  exact ⟨_, by first | rfl | (simp [errW_none, errW_some] <;> rfl) | (simp [*, errW_none, errW_some] <;> rfl), by first | exact Kd.R_nil _ _ _ _ _ | exact Kd.N_nil _ _ _ _ _ | exact Kd.V_nil _ _ _ _ _ | exact Kd.Q_nil _ _ _ _ _ | exact Kd.S_nil _ _ _ _ _, by repeat (first | (with_reducible first | exact HB.out | apply bA | apply bN | apply bD | refine bS ?_ GE457.out) | exact HB.out)⟩
mutual
def sumcheck_sum.l0 : Nat → Int → List (S149) → List (List (S28)) → Int → Int → Int → Int → Option (Int × Int)
 | 0, _, _, _, _, _, _, _ => none
 | k + 1, x0, x1, x2, x17, x18, x468000, x468001 => if x18 < x17 then (if 0 ≤ (x2.length : Int) then (if ((x2.length : Int) : Int).toNat ≤ 17592186044416 then (sumcheck_sum.l1 k x0 x1 x2 x18 (List.replicate ((x2.length : Int) : Int).toNat z28) x17 x18 x2 (x2.length : Int) 0 x468000 x468001) else (none)) else (none)) else (some (x468000, x468001))
def sumcheck_sum.l1 : Nat → Int → List (S149) → List (List (S28)) → Int → List (S28) → Int → Int → List (List (S28)) → Int → Int → Int → Int → Option (Int × Int)
 | 0, _, _, _, _, _, _, _, _, _, _, _, _ => none
 | k + 1, x0, x1, x2, x8, x9, x17, x18, x24, x25, x26, x468000, x468001 => if x26 < x25 then (if 0 ≤ x26 then (if x26 < (x24.length : Int) then (if 0 ≤ x8 then (if x8 < ((rd_L11 x24 x26).length : Int) then (if x26 < (x9.length : Int) then (sumcheck_sum.l1 k x0 x1 x2 x8 (x9.set (x26 : Int).toNat (⟨(rd_T28 (rd_L11 x24 x26) x8).f0, (rd_T28 (rd_L11 x24 x26) x8).f1⟩ : S28)) x17 x18 x24 x25 (wrap64 (x26 + 1)) x468000 x468001) else (none)) else (none)) else (none)) else (none)) else (none)) else ((expr_Eval.f k x0 x1 x9).bind fun bt475 => ((tower_Add.f x468000 x468001 bt475.1 bt475.2.1).bind fun bt479 => (sumcheck_sum.l0 k x0 x1 x2 x17 (wrap64 (x18 + 1)) bt479.1 bt479.2)))
end
def sumcheck_sum.f (k : Nat) (a0 : Int) (l1 : List (S149)) (l2 : List (List (S28))) : Option (Int × Int) := if 0 < (l2.length : Int) then (sumcheck_sum.l0 k a0 l1 l2 ((rd_L11 l2 0).length : Int) 0 0 0) else (none)
set_option maxHeartbeats 8000000 in
set_option maxRecDepth 100000 in
theorem sumcheck_sum.calls (k : Nat) (a0 : Int) (A1 : Option Addr) (c1 : Nat) (l1 : List (S149)) (A2 : Option Addr) (c2 : Nat) (l2 : List (List (S28))) (r1 : Int) (r2 : Int) (w : World) (hr1 : Kd.C k149 w A1 l1.length l1) (hc1 : l1.length ≤ c1) (hr2 : Kd.C (Kd.slice 28 k28) w A2 l2.length l2) (hc2 : l2.length ≤ c2) (h : sumcheck_sum.f k a0 l1 l2 = some (r1, r2)) :
  Calls Try.prog 108 #[.int .i64 a0, .slice A1 l1.length c1, .slice A2 l2.length c2] w fun e w' => e = .returned (.agg #[.int .u64 r1, .int .u64 r2]) ∧ Below w.heap.size w w' := by
 have hu28 := Try.underlying28
 have HR1 := Aside0.mk hr1
 have HC1 := Aside0.mk hc1
 clear hr1 hc1
 have HR2 := Aside0.mk hr2
 have HC2 := Aside0.mk hc2
 clear hr2 hc2
 have HB := Aside0.mk (Below.refl w.heap.size w)
 have H : (if 0 < (l2.length : Int) then (sumcheck_sum.l0 k a0 l1 l2 ((rd_L11 l2 0).length : Int) 0 0 0) else (none)) = some (r1, r2) := h
 clear h
 by_cases c4 : 0 < (l2.length : Int)
 ·rw [if_pos c4] at H
  have c4b0 : decide (0 < (l2.length : Int)) = true := decide_eq_true c4
  have c4b1 : decide (0 < l2.length) = true := decide_eq_true (by omega)
  clear c4
  have H' := Aside0.mk H
  clear H
  go_enter Try.func108, Try.ntmps108
  go_wp2_with (first | ((with_reducible refine gate_dst (N := 6) rfl ?_); refine box_event ?hg (N := 6) ?hd (cs := #[.int .u64 0, .int .u64 0]) (t := 28) ?hr ?_; (case hd => rfl); (case hg => rfl); (case hr => first | (go_simp; done) | (go_simp; rfl)); intro gb466 hg w5 hbox hb; have n0_ := Aside0.mk (below_step (by exact lF HB.out) hb); have n1_ := Aside0.mk (hbox); have n2_ := Aside0.mk ((by rw [hg]; exact (below_size (by exact lF HB.out)) : w.heap.size ≤ gb466)); have n3_ := Aside0.mk ((by rw [hg]; exact (below_size (by exact lF HB.out)) : w.heap.size ≤ gb466)); clear HB; have HB := n0_; have BK466 := n1_; have GW466 := n2_; have GE466 := n3_; clear n0_ n1_ n2_ n3_; clear hb hbox hg) | ((with_reducible refine gate_dst (N := 7) rfl ?_); refine box_event ?hg (N := 7) ?hd (cs := #[.int .u64 0, .int .u64 0]) (t := 28) ?hr ?_; (case hd => rfl); (case hg => rfl); (case hr => first | (go_simp; done) | (go_simp; rfl)); intro gb467 hg w6 hbox hb; have n0_ := Aside0.mk (blk_below (g := gb466) (o := .cells #[.int .u64 0, .int .u64 0] 28 (0, 0)) (by exact bF BK466.out) hb); have n1_ := Aside0.mk (below_step (by repeat (first | (with_reducible first | exact HB.out | apply bA | apply bN | apply bD | refine bS ?_ GE466.out) | exact HB.out)) hb); have n2_ := Aside0.mk (hbox); have n3_ := Aside0.mk ((by rw [hg]; exact (below_size (by repeat (first | (with_reducible first | exact HB.out | apply bA | apply bN | apply bD | refine bS ?_ GE466.out) | exact HB.out))) : w.heap.size ≤ gb467)); have n4_ := Aside0.mk ((by rw [hg]; exact (below_size (by repeat (first | (with_reducible first | exact HB.out | apply bA | apply bN | apply bD | refine bS ?_ GE466.out) | exact HB.out))) : w.heap.size ≤ gb467)); have n5_ := Aside0.mk ((by rw [hg]; exact Nat.ne_of_lt (blk_lt (g := gb466) (o := .cells #[.int .u64 0, .int .u64 0] 28 (0, 0)) (by exact bF BK466.out)) : gb466 ≠ gb467)); have n6_ := Aside0.mk ((by rw [hg]; exact Nat.ne_of_gt (blk_lt (g := gb466) (o := .cells #[.int .u64 0, .int .u64 0] 28 (0, 0)) (by exact bF BK466.out)) : gb467 ≠ gb466)); clear BK466; clear HB; have BK466 := n0_; have HB := n1_; have BK467 := n2_; have GW467 := n3_; have GE467 := n4_; have NB466_467 := n5_; have NB467_466 := n6_; clear n0_ n1_ n2_ n3_ n4_ n5_ n6_; clear hb hbox hg; have p468 : 0 ≤ (0 : Int) := (by omega); have q468 : 0 < (l2.length : Int) := of_decide_eq_true (by first | (with_reducible assumption) | assumption); obtain ⟨ad468, A468_0, c468_0, e468, hx468_0, hl468_0, hi468_0⟩ := at_L11 HR2.out 0 p468 q468; cases e468; have qi468 : (0 < l2.length) = True := eq_true (by omega); (try rw [show ((0 : Int)).toNat = 0 from rfl] at hx468_0); (try rw [Addr.add_zero'] at hx468_0); replace hx468_0 := (HB.out.cell (World.block_lt_of_cell? w _ hx468_0)).trans hx468_0; have HR468_0 := Aside0.mk hi468_0; have HC468_0 := Aside0.mk hl468_0; clear hi468_0 hl468_0; replace p468 := eq_true p468; replace q468 := eq_true q468))
  go_loopg [18] k (fun kq v18 w' => ∃ (x18_1 : Int) (x467000_1 : Int) (x467001_1 : Int) (x468000_1 : Int) (x468001_1 : Int), v18 = .int .i64 x18_1 ∧ Aside0 (sumcheck_sum.l0 kq a0 l1 l2 ((rd_L11 l2 0).length : Int) x18_1 x468000_1 x468001_1 = some (r1, r2)) ∧ Aside0 (kq ≤ k) ∧ Aside0 (w'.heap[gb466]? = some (.cells #[.int .u64 x467000_1, .int .u64 x467001_1] 28 (0, 0))) ∧ Aside0 (w'.heap[gb467]? = some (.cells #[.int .u64 x468000_1, .int .u64 x468001_1] 28 (0, 0))) ∧ Aside0 (Below w.heap.size w w'))
  case atStart => exact ⟨(0), (0), (0), (0), (0), (by first | rfl | (simp; done) | (simp [*]; done)), H', ⟨Nat.le_refl _⟩, ⟨by exact bF BK466.out⟩, ⟨by exact bF BK467.out⟩, ⟨by repeat (first | (with_reducible first | exact HB.out | apply bA | apply bN | apply bD | refine bS ?_ GE466.out | refine bS ?_ GE467.out) | exact HB.out)⟩⟩
  case round =>
   clear H'
   try clear c1
   try clear c2
   try clear p2
   try clear c4
   try clear c4b0
   try clear c4b1
   try clear p4
   try clear q4
   try clear hx4
   try clear qi4
   try clear hx468_0
   try clear p468
   try clear q468
   obtain ⟨x18_1, x467000_1, x467001_1, x468000_1, x468001_1, rfl, HA, HK1, BK466, BK467, HB⟩ := hrel
   cases gk with
   | zero => exact absurd HA.out (by simp [sumcheck_sum.l0])
   | succ k1 =>
    have H := HA.out
    clear HA
    simp only [sumcheck_sum.l0] at H
    by_cases c7 : x18_1 < ((rd_L11 l2 0).length : Int)
    ·rw [if_pos c7] at H
     have c7b0 : decide (x18_1 < ((rd_L11 l2 0).length : Int)) = true := decide_eq_true c7
     clear c7
     by_cases c8 : 0 ≤ (l2.length : Int)
     ·rw [if_pos c8] at H
      have c8b0 := eq_true c8
      have c8b1 : decide (0 ≤ (l2.length : Int)) = true := decide_eq_true c8
      clear c8
      by_cases c9 : ((l2.length : Int) : Int).toNat ≤ 17592186044416
      ·rw [if_pos c9] at H
       have c9b0 := eq_true c9
       have c9b1 : decide (((l2.length : Int) : Int).toNat ≤ 17592186044416) = true := decide_eq_true c9
       clear c9
       obtain ⟨y469, hy469⟩ : ∃ y_ : List (S28), y_ = (List.replicate ((l2.length : Int) : Int).toNat z28) := ⟨_, rfl⟩
       replace H : (sumcheck_sum.l1 k1 a0 l1 l2 x18_1 y469 ((rd_L11 l2 0).length : Int) x18_1 l2 (l2.length : Int) 0 x468000_1 x468001_1) = some (r1, r2) := by first | (rw [hy469]; with_reducible exact H) | (have H2_ := (Option.bind_some _ _).symm.trans H; rw [hy469]; with_reducible exact H2_) | (have H2_ := (Option.bind_some _ _).symm.trans H; with_reducible exact H2_) | with_reducible exact H | (rw [hy469]; exact H) | exact H
       have Ny469 := Aside0.mk hy469
       clear hy469
       have H' := Aside0.mk H
       clear H
       go_wp2_with (first | ((with_reducible refine gate_dst (N := 23) rfl ?_); refine Kd.R_make k28 _ 28 rfl (N := 23) rfl 53 _ _ rfl (l2.length : Int) rfl rfl Try.underlying53 (.agg #[(.int .u64 0), (.int .u64 0)]) 16 info28 rfl (by decide) (by omega) z28 (ok := fun _ => True) (okp := fun _ => True) (k28_mkM _ _ _ z28 ) (fun _ hk => hk) trivial (of_decide_eq_true (by first | (with_reducible assumption) | assumption)) (Nat.le_trans (Nat.mul_le_mul_right _ (of_decide_eq_true (by first | (with_reducible assumption) | assumption) : (l2.length : Int).toNat ≤ 17592186044416)) (by omega)) (Below.refl _ _) (Nat.le_refl _) ?_; intro v470 w10 ho11 hb hg_ hnew_; clear hg_ hnew_; (first | rw [← Ny469.out] at ho11 | (simp only [Int.reduceToNat] at ho11; rw [← Ny469.out] at ho11)); have n0_ := Aside0.mk (Kd.R_lower (Kd.R_newB (Kd.R_newB ho11 (g := gb466) (o := .cells #[.int .u64 x467000_1, .int .u64 x467001_1] 28 (0, 0)) (by exact bF BK466.out)) (g := gb467) (o := .cells #[.int .u64 x468000_1, .int .u64 x468001_1] 28 (0, 0)) (by exact bF BK467.out)) (below_size (by repeat (first | (with_reducible first | exact HB.out | apply bA | apply bN | apply bD | refine bS ?_ GE466.out | refine bS ?_ GE467.out) | exact HB.out)))); have n1_ := Aside0.mk (blk_below (g := gb466) (o := .cells #[.int .u64 x467000_1, .int .u64 x467001_1] 28 (0, 0)) (by exact bF BK466.out) hb); have n2_ := Aside0.mk (blk_below (g := gb467) (o := .cells #[.int .u64 x468000_1, .int .u64 x468001_1] 28 (0, 0)) (by exact bF BK467.out) hb); have n3_ := Aside0.mk (below_step (by repeat (first | (with_reducible first | exact HB.out | apply bA | apply bN | apply bD | refine bS ?_ GE466.out | refine bS ?_ GE467.out) | exact HB.out)) hb); clear BK466; clear BK467; clear HB; have HO471 := n0_; have BK466 := n1_; have BK467 := n2_; have HB := n3_; clear n0_ n1_ n2_ n3_; clear hb ho11))
       go_loopg [26] k1 (fun kq v26 w' => ∃ (x9_2 : List (S28)) (x26_2 : Int) (x467000_2 : Int) (x467001_2 : Int) (x468000_2 : Int) (x468001_2 : Int), v26 = .int .i64 x26_2 ∧ Aside0 (sumcheck_sum.l1 kq a0 l1 l2 x18_1 x9_2 ((rd_L11 l2 0).length : Int) x18_1 l2 (l2.length : Int) x26_2 x468000_2 x468001_2 = some (r1, r2)) ∧ Aside0 (kq ≤ k1) ∧ Aside0 (Kd.R k28 28 w' w.heap.size (fun k_ => k_ ≠ gb466 ∧ k_ ≠ gb467) v470 x9_2) ∧ Aside0 (w'.heap[gb466]? = some (.cells #[.int .u64 x467000_2, .int .u64 x467001_2] 28 (0, 0))) ∧ Aside0 (w'.heap[gb467]? = some (.cells #[.int .u64 x468000_2, .int .u64 x468001_2] 28 (0, 0))) ∧ Aside0 (Below w.heap.size w w'))
       case atStart => exact ⟨(y469), (0), (x467000_1), (x467001_1), (x468000_1), (x468001_1), (by first | rfl | (simp; done) | (simp [*]; done)), H', ⟨Nat.le_refl _⟩, ⟨by (with_reducible repeat (first | apply Kd.R_alloc | apply Kd.R_drewN | apply Kd.R_drew)); exact Kd.R_mono HO471.out (fun _ hk => ⟨hk.1.2, hk.2⟩)⟩, ⟨by exact bF BK466.out⟩, ⟨by exact bF BK467.out⟩, ⟨by repeat (first | (with_reducible first | exact HB.out | apply bA | apply bN | apply bD | refine bS ?_ GE466.out | refine bS ?_ GE467.out) | exact HB.out)⟩⟩
       case round =>
        clear H'
        try clear c1
        try clear c2
        try clear p2
        try clear c4
        try clear c4b0
        try clear c4b1
        try clear p4
        try clear q4
        try clear hx4
        try clear qi4
        try clear c7
        try clear c7b0
        try clear c8
        try clear c8b0
        try clear c8b1
        try clear c9
        try clear c9b0
        try clear c9b1
        try clear c10
        try clear hx468_0
        try clear p2
        try clear p4
        try clear p468
        try clear q4
        try clear q468
        obtain ⟨x9_2, x26_2, x467000_2, x467001_2, x468000_2, x468001_2, rfl, HA, HK2, HO_9, BK466, BK467, HB⟩ := hrel
        cases gk with
        | zero => exact absurd HA.out (by simp [sumcheck_sum.l1])
        | succ k2 =>
         have H := HA.out
         clear HA
         simp only [sumcheck_sum.l1] at H
         by_cases c12 : x26_2 < (l2.length : Int)
         ·rw [if_pos c12] at H
          have c12b0 : decide (x26_2 < (l2.length : Int)) = true := decide_eq_true c12
          clear c12
          by_cases c13 : 0 ≤ x26_2
          ·rw [if_pos c13] at H
           have c13b0 : decide (0 ≤ x26_2) = true := decide_eq_true c13
           clear c13
           by_cases c14 : x26_2 < (l2.length : Int)
           ·rw [if_pos c14] at H
            have c14b0 : decide (x26_2 < (l2.length : Int)) = true := decide_eq_true c14
            clear c14
            by_cases c15 : 0 ≤ x18_1
            ·rw [if_pos c15] at H
             have c15b0 : decide (0 ≤ x18_1) = true := decide_eq_true c15
             clear c15
             by_cases c16 : x18_1 < ((rd_L11 l2 x26_2).length : Int)
             ·rw [if_pos c16] at H
              have c16b0 : decide (x18_1 < ((rd_L11 l2 x26_2).length : Int)) = true := decide_eq_true c16
              clear c16
              by_cases c17 : x26_2 < (x9_2.length : Int)
              ·rw [if_pos c17] at H
               have c17b0 : decide (x26_2 < (x9_2.length : Int)) = true := decide_eq_true c17
               clear c17
               obtain ⟨y474, hy474⟩ : ∃ y_ : List (S28), y_ = (x9_2.set (x26_2 : Int).toNat (⟨(rd_T28 (rd_L11 l2 x26_2) x18_1).f0, (rd_T28 (rd_L11 l2 x26_2) x18_1).f1⟩ : S28)) := ⟨_, rfl⟩
               replace H : (sumcheck_sum.l1 k2 a0 l1 l2 x18_1 y474 ((rd_L11 l2 0).length : Int) x18_1 l2 (l2.length : Int) (wrap64 (x26_2 + 1)) x468000_2 x468001_2) = some (r1, r2) := by first | (rw [hy474]; with_reducible exact H) | (have H2_ := (Option.bind_some _ _).symm.trans H; rw [hy474]; with_reducible exact H2_) | (have H2_ := (Option.bind_some _ _).symm.trans H; with_reducible exact H2_) | with_reducible exact H | (rw [hy474]; exact H) | exact H
               have Ny474 := Aside0.mk hy474
               clear hy474
               have H' := Aside0.mk H
               clear H
               have p472 : 0 ≤ (x26_2 : Int) := of_decide_eq_true (by first | (with_reducible assumption) | assumption)
               have q472 : x26_2 < (l2.length : Int) := of_decide_eq_true (by first | (with_reducible assumption) | assumption)
               obtain ⟨ad472, A472_0, c472_0, e472, hx472_0, hl472_0, hi472_0⟩ := at_L11 HR2.out x26_2 p472 q472
               obtain rfl : ad468 = ad472 := (by injection e472)
               replace hx472_0 := (HB.out.cell (World.block_lt_of_cell? w _ hx472_0)).trans hx472_0
               have HR472_0 := Aside0.mk hi472_0
               have HC472_0 := Aside0.mk hl472_0
               clear hi472_0 hl472_0
               replace p472 := eq_true p472
               replace q472 := eq_true q472
               have p473 : 0 ≤ (x18_1 : Int) := of_decide_eq_true (by first | (with_reducible assumption) | assumption)
               have q473 : x18_1 < ((rd_L11 l2 x26_2).length : Int) := of_decide_eq_true (by first | (with_reducible assumption) | assumption)
               obtain ⟨ad473, e473, hx473_0, hx473_1⟩ := at_T28 HR472_0.out x18_1 p473 q473
               cases e473
               replace hx473_0 := (HB.out.cell (World.block_lt_of_cell? w _ hx473_0)).trans hx473_0
               replace hx473_1 := (HB.out.cell (World.block_lt_of_cell? w _ hx473_1)).trans hx473_1
               replace p473 := eq_true p473
               replace q473 := eq_true q473
               have p18 : 0 ≤ (x26_2 : Int) := of_decide_eq_true (by first | (with_reducible assumption) | assumption)
               have q18 : (x26_2 : Int) < ((x9_2.length : Int) : Int) := of_decide_eq_true (by first | (with_reducible assumption) | assumption)
               obtain ⟨go18, co18, eo18, gb18, gl18, cl18, HG18⟩ := Kd.R_form HO_9.out (by omega)
               (first | cases eo18 | (injection eo18 with ea_ en_ ec_; (first | subst ea_ | (injection ea_ with ea_; subst ea_)); subst ec_; clear en_))
               have GB18 := Aside0.mk gb18
               have GG18 := Aside0.mk HG18
               clear gb18 gl18 HG18
               obtain ⟨ce18, hcl18, hM18, hcc18, hfr18⟩ := Kd.R_elem HO_9.out z28 (x26_2 : Int) p18 q18
               obtain rfl := k28_openM hM18
               have hx18_0 : wr.cell? ⟨go18, (x26_2 : Int).toNat * 2, none⟩ = some (.int .u64 ((rd_T28 x9_2 x26_2).f0)) := hcc18 0 _ rfl
               have hx18_1 : wr.cell? ⟨go18, (x26_2 : Int).toNat * 2 + 1, none⟩ = some (.int .u64 ((rd_T28 x9_2 x26_2).f1)) := hcc18 1 _ rfl
               have hf18_0 : wr.frozen? ⟨go18, (x26_2 : Int).toNat * 2, none⟩ = false := hfr18 0
               have hf18_1 : wr.frozen? ⟨go18, (x26_2 : Int).toNat * 2 + 1, none⟩ = false := hfr18 1
               clear hcl18 hcc18 hfr18 hM18
               replace p18 := eq_true p18
               replace q18 := eq_true q18
               have HX19 := Aside0.mk (show Kd.R k28 28 wr w.heap.size (fun k_ => k_ ≠ gb466 ∧ k_ ≠ gb467) (.slice (some ⟨go18, 0, none⟩) x9_2.length co18) x9_2 from (by exact rF HO_9.out))
               obtain ⟨ce19, hcl19, hM19, hcc19, hfr19⟩ := Kd.R_elem HX19.out z28 (x26_2 : Int) (of_decide_eq_true (by first | (with_reducible assumption) | assumption)) (by have h_ : (x26_2 : Int) < ((x9_2.length : Int) : Int) := of_decide_eq_true (by first | (with_reducible assumption) | assumption); first | exact h_ | (have e_ := (Kd.R_reads' HO_9.out).1; omega) | simpa using h_)
               obtain rfl := k28_openM hM19
               have HP19 := Kd.R_seg HX19.out (x26_2 : Int) (of_decide_eq_true (by first | (with_reducible assumption) | assumption)) (by have h_ : (x26_2 : Int) < ((x9_2.length : Int) : Int) := of_decide_eq_true (by first | (with_reducible assumption) | assumption); first | exact h_ | (have e_ := (Kd.R_reads' HO_9.out).1; omega) | simpa using h_) (seg := [.int .u64 ((rd_T28 (rd_L11 l2 x26_2) x18_1).f0), .int .u64 ((rd_T28 (rd_L11 l2 x26_2) x18_1).f1)]) (j := 0) hcl19 hcc19 (show 2 ≤ 2 from by decide) (x' := (⟨(rd_T28 (rd_L11 l2 x26_2) x18_1).f0, (rd_T28 (rd_L11 l2 x26_2) x18_1).f1⟩ : S28)) (k28_mkM _ _ _ (⟨(rd_T28 (rd_L11 l2 x26_2) x18_1).f0, (rd_T28 (rd_L11 l2 x26_2) x18_1).f1⟩ : S28) ) (fun _ hk => hk)
               have hx19_0 := hcc19 0 _ rfl
               (try simp only [show (k28).sz = 2 from rfl, Nat.mul_one, Nat.add_zero] at hx19_0)
               have hf19_0 := hfr19 0
               (try simp only [show (k28).sz = 2 from rfl, Nat.mul_one, Nat.add_zero] at hf19_0)
               have hx19_1 := hcc19 1 _ rfl
               (try simp only [show (k28).sz = 2 from rfl, Nat.mul_one, Nat.add_zero] at hx19_1)
               have hf19_1 := hfr19 1
               (try simp only [show (k28).sz = 2 from rfl, Nat.mul_one, Nat.add_zero] at hf19_1)
               clear hcl19 hcc19 hfr19 hM19
               go_wp2_with (first | ((with_reducible refine gate_store (t := 28) (p := 37) rfl ?_); refine store_event (t := 28) (p := 37) (v := ?vo_w20) (w1 := ((wr.setCell ⟨go18, (x26_2 : Int).toNat * 2, none⟩ (.int .u64 ((rd_T28 (rd_L11 l2 x26_2) x18_1).f0))).setCell ⟨go18, (x26_2 : Int).toNat * 2 + 1, none⟩ (.int .u64 ((rd_T28 (rd_L11 l2 x26_2) x18_1).f1)))) ?hg ?ho ?hn ?hr ?_; (case ho => rfl); (case hg => rfl); (case hn => rfl); (case hr => first | (go_simp; done) | (go_simp; rfl)); intro w20 hw; have hg : wr.grownBy w20 (some go18) := (by rw [hw]; exact HP19.2); have hp_ : Kd.R k28 28 w20 w.heap.size (fun k_ => k_ ≠ gb466 ∧ k_ ≠ gb467) (.slice (some ⟨go18, 0, none⟩) x9_2.length co18) y474 := (by rw [hw, Ny474.out]; exact HP19.1); clear HP19; have n0_ := Aside0.mk (hp_); have n1_ := Aside0.mk (blk_grown (g := gb466) (o := .cells #[.int .u64 x467000_2, .int .u64 x467001_2] 28 (0, 0)) (by exact bF BK466.out) hg (Kd.R_away HO_9.out (fun _ hk => hk.1))); have n2_ := Aside0.mk (blk_grown (g := gb467) (o := .cells #[.int .u64 x468000_2, .int .u64 x468001_2] 28 (0, 0)) (by exact bF BK467.out) hg (Kd.R_away HO_9.out (fun _ hk => hk.2))); have n3_ := Aside0.mk ((by rw [hw]; exact below_set (below_set (HB.out) GB18.out) GB18.out : Below w.heap.size w w20)); clear HO_9; clear BK466; clear BK467; clear HB; have HO_9 := n0_; have BK466 := n1_; have BK467 := n2_; have HB := n3_; clear n0_ n1_ n2_ n3_; clear hg hw hp_))
               go_roundg k2
               case measure => have := HK1.out; have := HK2.out; omega
               case rel => exact ⟨(y474), (wrap64 (x26_2 + 1)), (x467000_2), (x467001_2), (x468000_2), (x468001_2), (by first | rfl | (simp; done) | (simp [*]; done)), H', ⟨by have := HK1.out; have := HK2.out; omega⟩, ⟨by exact rF HO_9.out⟩, ⟨by exact bF BK466.out⟩, ⟨by exact bF BK467.out⟩, ⟨by repeat (first | (with_reducible first | exact HB.out | apply bA | apply bN | apply bD | refine bS ?_ GE466.out | refine bS ?_ GE467.out) | exact HB.out)⟩⟩
              ·rw [if_neg c17] at H
               exact absurd H (by simp)
             ·rw [if_neg c16] at H
              exact absurd H (by simp)
            ·rw [if_neg c15] at H
             exact absurd H (by simp)
           ·rw [if_neg c14] at H
            exact absurd H (by simp)
          ·rw [if_neg c13] at H
           exact absurd H (by simp)
         ·rw [if_neg c12] at H
          have c12b0 : decide (x26_2 < (l2.length : Int)) = false := decide_eq_false c12
          clear c12
          replace H := Option.bind_eq_some_iff.mp H
          obtain ⟨⟨t475, t476, t477⟩, A210, H⟩ := H
          replace H : ((tower_Add.f x468000_2 x468001_2 t475 t476).bind fun bt479 => (sumcheck_sum.l0 k2 a0 l1 l2 ((rd_L11 l2 0).length : Int) (wrap64 (x18_1 + 1)) bt479.1 bt479.2)) = some (r1, r2) := H
          have A21 := Aside0.mk A210
          clear A210
          replace H := Option.bind_eq_some_iff.mp H
          obtain ⟨⟨t479, t480⟩, A220, H⟩ := H
          replace H : (sumcheck_sum.l0 k2 a0 l1 l2 ((rd_L11 l2 0).length : Int) (wrap64 (x18_1 + 1)) t479 t480) = some (r1, r2) := H
          have A22 := Aside0.mk A220
          clear A220
          have H' := Aside0.mk H
          clear H
          obtain ⟨Ao23, co23, eo23⟩ := Kd.R_slice HO_9.out
          subst eo23
          go_wp2_with (first | ((with_reducible refine gate_callee (f := 65) rfl ?_); refine goesL_ (some 43) rfl rfl Try.func65 (by kernel_rfl) rfl #[.int .i64 a0, .slice A1 l1.length c1, .slice Ao23 x9_2.length co23] rfl (by (try simp only [List.map_toArray, List.map_cons, List.map_nil]); first | done | rfl | (simp only [List.length_drop, List.length_take]; rfl)) ?_; (with_reducible refine (expr_Eval.calls k2 a0 _ _ l1 _ _ x9_2 t475 t476 t477 _ ?side1 ?side2 ?side3 ?side4 A21.out).mono ?_); (case side1 => repeat (first | exact (Kd.C_below HR1.out HB.out) | (with_reducible refine Kd.C_alloc ?_ _) | (with_reducible refine Kd.C_drewN ?_ _) | (with_reducible refine Kd.C_drew ?_))); (case side2 => exact HC1.out); (case side3 => repeat (first | exact (Kd.R_reads' HO_9.out).2.2 | (with_reducible refine Kd.C_alloc ?_ _) | (with_reducible refine Kd.C_drewN ?_ _) | (with_reducible refine Kd.C_drew ?_))); (case side4 => exact (Kd.R_reads' HO_9.out).2.1); rintro e w24 ⟨rfl, hb⟩; refine ⟨_, rfl, ?_⟩; have n0_ := Aside0.mk (Kd.R_below (by exact rF HO_9.out) hb); have n1_ := Aside0.mk (blk_below (g := gb466) (o := .cells #[.int .u64 x467000_2, .int .u64 x467001_2] 28 (0, 0)) (by exact bF BK466.out) hb); have n2_ := Aside0.mk (blk_below (g := gb467) (o := .cells #[.int .u64 x468000_2, .int .u64 x468001_2] 28 (0, 0)) (by exact bF BK467.out) hb); have n3_ := Aside0.mk (below_step (by repeat (first | (with_reducible first | exact HB.out | apply bA | apply bN | apply bD | refine bS ?_ GE466.out | refine bS ?_ GE467.out) | exact HB.out)) hb); clear HO_9; clear BK466; clear BK467; clear HB; have HO_9 := n0_; have BK466 := n1_; have BK467 := n2_; have HB := n3_; clear n0_ n1_ n2_ n3_; (try clear hb); (try clear hb2); (try clear hk); (try clear hi)) | ((with_reducible refine gate_dst (N := 12) rfl ?_); refine box_event ?hg (N := 12) ?hd (cs := #[.int .u64 0, .int .u64 0]) (t := 28) ?hr ?_; (case hd => rfl); (case hg => rfl); (case hr => first | (go_simp; done) | (go_simp; rfl)); intro gb478 hg w25 hbox hb; have n0_ := Aside0.mk (Kd.R_below (Kd.R_elderB (by exact rF HO_9.out) gb478 (Nat.le_of_eq hg.symm)) hb); have n1_ := Aside0.mk (blk_below (g := gb466) (o := .cells #[.int .u64 x467000_2, .int .u64 x467001_2] 28 (0, 0)) (by exact bF BK466.out) hb); have n2_ := Aside0.mk (blk_below (g := gb467) (o := .cells #[.int .u64 x468000_2, .int .u64 x468001_2] 28 (0, 0)) (by exact bF BK467.out) hb); have n3_ := Aside0.mk (below_step (by repeat (first | (with_reducible first | exact HB.out | apply bA | apply bN | apply bD | refine bS ?_ GE466.out | refine bS ?_ GE467.out) | exact HB.out)) hb); have n4_ := Aside0.mk (hbox); have n5_ := Aside0.mk ((by rw [hg]; exact (below_size (by repeat (first | (with_reducible first | exact HB.out | apply bA | apply bN | apply bD | refine bS ?_ GE466.out | refine bS ?_ GE467.out) | exact HB.out))) : w.heap.size ≤ gb478)); have n6_ := Aside0.mk ((by rw [hg]; exact (below_size (by repeat (first | (with_reducible first | exact HB.out | apply bA | apply bN | apply bD | refine bS ?_ GE466.out | refine bS ?_ GE467.out) | exact HB.out))) : w.heap.size ≤ gb478)); have n7_ := Aside0.mk ((by rw [hg]; exact Nat.ne_of_lt (blk_lt (g := gb466) (o := .cells #[.int .u64 x467000_2, .int .u64 x467001_2] 28 (0, 0)) (by exact bF BK466.out)) : gb466 ≠ gb478)); have n8_ := Aside0.mk ((by rw [hg]; exact Nat.ne_of_gt (blk_lt (g := gb466) (o := .cells #[.int .u64 x467000_2, .int .u64 x467001_2] 28 (0, 0)) (by exact bF BK466.out)) : gb478 ≠ gb466)); have n9_ := Aside0.mk ((by rw [hg]; exact Nat.ne_of_lt (blk_lt (g := gb467) (o := .cells #[.int .u64 x468000_2, .int .u64 x468001_2] 28 (0, 0)) (by exact bF BK467.out)) : gb467 ≠ gb478)); have n10_ := Aside0.mk ((by rw [hg]; exact Nat.ne_of_gt (blk_lt (g := gb467) (o := .cells #[.int .u64 x468000_2, .int .u64 x468001_2] 28 (0, 0)) (by exact bF BK467.out)) : gb478 ≠ gb467)); clear HO_9; clear BK466; clear BK467; clear HB; have HO_9 := n0_; have BK466 := n1_; have BK467 := n2_; have HB := n3_; have BK478 := n4_; have GW478 := n5_; have GE478 := n6_; have NB466_478 := n7_; have NB478_466 := n8_; have NB467_478 := n9_; have NB478_467 := n10_; clear n0_ n1_ n2_ n3_ n4_ n5_ n6_ n7_ n8_ n9_ n10_; clear hb hbox hg; have hnb26 := NB478_466.out; have hnc26 := NB466_478.out; have hnb27 := NB478_467.out; have hnc27 := NB467_478.out; have hcz28_0 : w25.cell? ⟨gb478, 0, none⟩ = some (.int .u64 0) := (blk_cell BK478.out 0).trans rfl; have hcz28_1 : w25.cell? ⟨gb478, 1, none⟩ = some (.int .u64 0) := (blk_cell BK478.out 1).trans rfl; have hfz28_0 := blk_frozen BK478.out 0; have hfz28_1 := blk_frozen BK478.out 1; have hnb29 := NB467_466.out; have hnc29 := NB466_467.out; have hcz30_0 : w25.cell? ⟨gb467, 0, none⟩ = some (.int .u64 x468000_2) := (blk_cell BK467.out 0).trans rfl; have hcz30_1 : w25.cell? ⟨gb467, 1, none⟩ = some (.int .u64 x468001_2) := (blk_cell BK467.out 1).trans rfl; have hfz30_0 := blk_frozen BK467.out 0; have hfz30_1 := blk_frozen BK467.out 1) | ((with_reducible refine gate_callee (f := 60) rfl ?_); refine goesL_ (some 48) rfl rfl Try.func60 (by kernel_rfl) rfl #[.agg #[.int .u64 x468000_2, .int .u64 x468001_2], .agg #[.int .u64 t475, .int .u64 t476]] rfl (by (try simp only [List.map_toArray, List.map_cons, List.map_nil]); first | done | rfl | (simp only [List.length_drop, List.length_take]; rfl)) ?_; (with_reducible refine (tower_Add.calls x468000_2 x468001_2 t475 t476 t479 t480 _ A22.out).mono ?_); rintro e w31 ⟨rfl, hb⟩; refine ⟨_, rfl, ?_⟩; have n0_ := Aside0.mk (Kd.R_below (by (with_reducible repeat (first | apply Kd.R_alloc | apply Kd.R_drewN | apply Kd.R_drew)); exact (Kd.R_mono (Kd.R_far (p := ⟨gb478, 1, none⟩) (Kd.R_far (p := ⟨gb478, 0, none⟩) (Kd.R_mono HO_9.out (fun k_ hk => (⟨hk, hk.2⟩ : _ ∧ k_ ≠ gb478))) (fun _ hk => hk.2) (.int .u64 t475)) (fun _ hk => hk.2) (.int .u64 t476)) (fun _ h_ => h_.1))) hb); have n1_ := Aside0.mk (blk_below (g := gb466) (o := .cells #[.int .u64 x467000_2, .int .u64 x467001_2] 28 (0, 0)) (by (with_reducible repeat (first | refine blk_drewN ?_ _ | refine blk_drew ?_ | refine blk_alloc ?_ _)); refine blk_far ?_ NB466_478.out _; (with_reducible repeat (first | refine blk_drewN ?_ _ | refine blk_drew ?_ | refine blk_alloc ?_ _)); refine blk_far ?_ NB466_478.out _; exact bF BK466.out) hb); have n2_ := Aside0.mk (blk_below (g := gb467) (o := .cells #[.int .u64 x468000_2, .int .u64 x468001_2] 28 (0, 0)) (by (with_reducible repeat (first | refine blk_drewN ?_ _ | refine blk_drew ?_ | refine blk_alloc ?_ _)); refine blk_far ?_ NB467_478.out _; (with_reducible repeat (first | refine blk_drewN ?_ _ | refine blk_drew ?_ | refine blk_alloc ?_ _)); refine blk_far ?_ NB467_478.out _; exact bF BK467.out) hb); have n3_ := Aside0.mk (blk_below (g := gb478) (o := .cells #[.int .u64 t475, .int .u64 t476] 28 (0, 0)) (by (with_reducible repeat (first | refine blk_drewN ?_ _ | refine blk_drew ?_ | refine blk_alloc ?_ _)); refine blk_put (cs := #[.int .u64 t475, .int .u64 0]) ?_ 1 _ rfl; (with_reducible repeat (first | refine blk_drewN ?_ _ | refine blk_drew ?_ | refine blk_alloc ?_ _)); refine blk_put (cs := #[.int .u64 0, .int .u64 0]) ?_ 0 _ rfl; exact bF BK478.out) hb); have n4_ := Aside0.mk (below_step (by repeat (first | (with_reducible first | exact HB.out | apply bA | apply bN | apply bD | refine bS ?_ GE466.out | refine bS ?_ GE467.out | refine bS ?_ GE478.out) | exact HB.out)) hb); clear HO_9; clear BK466; clear BK467; clear BK478; clear HB; have HO_9 := n0_; have BK466 := n1_; have BK467 := n2_; have BK478 := n3_; have HB := n4_; clear n0_ n1_ n2_ n3_ n4_; (try clear hb); (try clear hb2); (try clear hk); (try clear hi); have hcz32_0 : w31.cell? ⟨gb467, 0, none⟩ = some (.int .u64 x468000_2) := (blk_cell BK467.out 0).trans rfl; have hcz32_1 : w31.cell? ⟨gb467, 1, none⟩ = some (.int .u64 x468001_2) := (blk_cell BK467.out 1).trans rfl; have hfz32_0 := blk_frozen BK467.out 0; have hfz32_1 := blk_frozen BK467.out 1))
          go_roundg k2
          case measure => have := HK1.out; have := HK2.out; omega
          case rel => exact ⟨(wrap64 (x18_1 + 1)), (x467000_2), (x467001_2), (t479), (t480), (by first | rfl | (simp; done) | (simp [*]; done)), H', ⟨by have := HK1.out; have := HK2.out; omega⟩, ⟨by (with_reducible repeat (first | refine blk_drewN ?_ _ | refine blk_drew ?_ | refine blk_alloc ?_ _)); refine blk_far ?_ NB466_467.out _; (with_reducible repeat (first | refine blk_drewN ?_ _ | refine blk_drew ?_ | refine blk_alloc ?_ _)); refine blk_far ?_ NB466_467.out _; exact bF BK466.out⟩, ⟨by (with_reducible repeat (first | refine blk_drewN ?_ _ | refine blk_drew ?_ | refine blk_alloc ?_ _)); refine blk_put (cs := #[.int .u64 t479, .int .u64 x468001_2]) ?_ 1 _ rfl; (with_reducible repeat (first | refine blk_drewN ?_ _ | refine blk_drew ?_ | refine blk_alloc ?_ _)); refine blk_put (cs := #[.int .u64 x468000_2, .int .u64 x468001_2]) ?_ 0 _ rfl; exact bF BK467.out⟩, ⟨by repeat (first | (with_reducible first | exact HB.out | apply bA | apply bN | apply bD | refine bS ?_ GE466.out | refine bS ?_ GE467.out | refine bS ?_ GE478.out) | exact HB.out)⟩⟩
      ·rw [if_neg c9] at H
       exact absurd H (by simp)
     ·rw [if_neg c8] at H
      exact absurd H (by simp)
    ·rw [if_neg c7] at H
     have c7b0 : decide (x18_1 < ((rd_L11 l2 0).length : Int)) = false := decide_eq_false c7
     clear c7
     simp only [Option.some.injEq, Prod.mk.injEq] at H
     obtain ⟨rfl, rfl⟩ := H
     have hnb33 := NB467_466.out
     have hnc33 := NB466_467.out
     have hcz34_0 : wr.cell? ⟨gb467, 0, none⟩ = some (.int .u64 x468000_1) := (blk_cell BK467.out 0).trans rfl
     have hcz34_1 : wr.cell? ⟨gb467, 1, none⟩ = some (.int .u64 x468001_1) := (blk_cell BK467.out 1).trans rfl
     have hfz34_0 := blk_frozen BK467.out 0
     have hfz34_1 := blk_frozen BK467.out 1
     have hcz35_0 : wr.cell? ⟨gb466, 0, none⟩ = some (.int .u64 x467000_1) := (blk_cell BK466.out 0).trans rfl
     have hcz35_1 : wr.cell? ⟨gb466, 1, none⟩ = some (.int .u64 x467001_1) := (blk_cell BK466.out 1).trans rfl
     have hfz35_0 := blk_frozen BK466.out 0
     have hfz35_1 := blk_frozen BK466.out 1
     go_wp2
     refine bodyPost_ret (results_cell_row rfl _ _ gb466 28 #[.int .u64 x468000_1, .int .u64 x468001_1] (0, 0) _ rfl (by (with_reducible repeat (first | refine blk_drewN ?_ _ | refine blk_drew ?_ | refine blk_alloc ?_ _)); refine blk_put (cs := #[.int .u64 x468000_1, .int .u64 x467001_1]) ?_ 1 _ rfl; (with_reducible repeat (first | refine blk_drewN ?_ _ | refine blk_drew ?_ | refine blk_alloc ?_ _)); refine blk_put (cs := #[.int .u64 x467000_1, .int .u64 x467001_1]) ?_ 0 _ rfl; exact bF BK466.out) Try.underlying28 rfl (by kernel_rfl)) rfl ?_
     exact ⟨by first | rfl | (simp [errW_none, errW_some] <;> rfl) | (simp [*, errW_none, errW_some] <;> rfl), by repeat (first | (with_reducible first | exact HB.out | apply bA | apply bN | apply bD | refine bS ?_ GE466.out | refine bS ?_ GE467.out) | exact HB.out)⟩
 ·rw [if_neg c4] at H
  exact absurd H (by simp)
def sumcheck_Sum.f (k : Nat) (a0 : Int) (l1 : List (S149)) (l2 : List (List (S28))) : Option (Int × Int × Int) := (sumcheck_Check.f k a0 l1 l2).bind fun t482 => (if t482 = 0 then ((sumcheck_sum.f k a0 l1 l2).bind fun bt483 => (some (bt483.1, bt483.2, 0))) else (some (0, 0, t482)))
set_option maxHeartbeats 8000000 in
set_option maxRecDepth 100000 in
theorem sumcheck_Sum.calls (k : Nat) (a0 : Int) (A1 : Option Addr) (c1 : Nat) (l1 : List (S149)) (A2 : Option Addr) (c2 : Nat) (l2 : List (List (S28))) (r1 : Int) (r2 : Int) (r3 : Int) (w : World) (hr1 : Kd.C k149 w A1 l1.length l1) (hc1 : l1.length ≤ c1) (hr2 : Kd.C (Kd.slice 28 k28) w A2 l2.length l2) (hc2 : l2.length ≤ c2) (h : sumcheck_Sum.f k a0 l1 l2 = some (r1, r2, r3)) :
  Calls Try.prog 52 #[.int .i64 a0, .slice A1 l1.length c1, .slice A2 l2.length c2] w fun e w' => e = .returned (.tuple #[.agg #[.int .u64 r1, .int .u64 r2], .int .i64 r3]) ∧ Below w.heap.size w w' := by
 have hu28 := Try.underlying28
 have HR1 := Aside0.mk hr1
 have HC1 := Aside0.mk hc1
 clear hr1 hc1
 have HR2 := Aside0.mk hr2
 have HC2 := Aside0.mk hc2
 clear hr2 hc2
 have HB := Aside0.mk (Below.refl w.heap.size w)
 have H : ((sumcheck_Check.f k a0 l1 l2).bind fun t482 => (if t482 = 0 then ((sumcheck_sum.f k a0 l1 l2).bind fun bt483 => (some (bt483.1, bt483.2, 0))) else (some (0, 0, t482)))) = some (r1, r2, r3) := h
 clear h
 replace H := Option.bind_eq_some_iff.mp H
 obtain ⟨t482, A40, H⟩ := H
 replace H : (if t482 = 0 then ((sumcheck_sum.f k a0 l1 l2).bind fun bt483 => (some (bt483.1, bt483.2, 0))) else (some (0, 0, t482))) = some (r1, r2, r3) := H
 have A4 := Aside0.mk A40
 clear A40
 by_cases c5 : t482 = 0
 ·rw [if_pos c5] at H
  have c5b0 : (t482 == 0) = true := beq_iff_eq.mpr c5
  have c5b1 : (t482 != 0) = false := bne_eq_false_iff_eq.mpr c5
  clear c5
  replace H := Option.bind_eq_some_iff.mp H
  obtain ⟨⟨t483, t484⟩, A60, H⟩ := H
  replace H : (some (t483, t484, 0)) = some (r1, r2, r3) := H
  have A6 := Aside0.mk A60
  clear A60
  simp only [Option.some.injEq, Prod.mk.injEq] at H
  obtain ⟨rfl, rfl, rfl⟩ := H
  go_enter Try.func52, Try.ntmps52
  go_wp2_with (first | ((with_reducible refine gate_dst (N := 6) rfl ?_); refine box_event ?hg (N := 6) ?hd (cs := #[.int .u64 0, .int .u64 0]) (t := 28) ?hr ?_; (case hd => rfl); (case hg => rfl); (case hr => first | (go_simp; done) | (go_simp; rfl)); intro gb481 hg w7 hbox hb; have n0_ := Aside0.mk (below_step (by exact lF HB.out) hb); have n1_ := Aside0.mk (hbox); have n2_ := Aside0.mk ((by rw [hg]; exact (below_size (by exact lF HB.out)) : w.heap.size ≤ gb481)); have n3_ := Aside0.mk ((by rw [hg]; exact (below_size (by exact lF HB.out)) : w.heap.size ≤ gb481)); clear HB; have HB := n0_; have BK481 := n1_; have GW481 := n2_; have GE481 := n3_; clear n0_ n1_ n2_ n3_; clear hb hbox hg) | ((with_reducible refine gate_callee (f := 51) rfl ?_); refine goesL_ (some 12) rfl rfl Try.func51 (by kernel_rfl) rfl #[.int .i64 a0, .slice A1 l1.length c1, .slice A2 l2.length c2] rfl (by (try simp only [List.map_toArray, List.map_cons, List.map_nil]); first | done | rfl | (simp only [List.length_drop, List.length_take]; rfl)) ?_; (with_reducible refine (sumcheck_Check.calls k a0 _ _ l1 _ _ l2 t482 _ ?side1 ?side2 ?side3 ?side4 A4.out).mono ?_); (case side1 => repeat (first | exact (Kd.C_below HR1.out HB.out) | (with_reducible refine Kd.C_alloc ?_ _) | (with_reducible refine Kd.C_drewN ?_ _) | (with_reducible refine Kd.C_drew ?_))); (case side2 => exact HC1.out); (case side3 => repeat (first | exact (Kd.C_below HR2.out HB.out) | (with_reducible refine Kd.C_alloc ?_ _) | (with_reducible refine Kd.C_drewN ?_ _) | (with_reducible refine Kd.C_drew ?_))); (case side4 => exact HC2.out); rintro e w8 ⟨rfl, hb⟩; refine ⟨_, rfl, ?_⟩; have n0_ := Aside0.mk (blk_below (g := gb481) (o := .cells #[.int .u64 0, .int .u64 0] 28 (0, 0)) (by exact bF BK481.out) hb); have n1_ := Aside0.mk (below_step (by repeat (first | (with_reducible first | exact HB.out | apply bA | apply bN | apply bD | refine bS ?_ GE481.out) | exact HB.out)) hb); clear BK481; clear HB; have BK481 := n0_; have HB := n1_; clear n0_ n1_; (try clear hb); (try clear hb2); (try clear hk); (try clear hi)) | ((with_reducible refine gate_callee (f := 108) rfl ?_); refine goesL_ (some 20) rfl rfl Try.func108 (by kernel_rfl) rfl #[.int .i64 a0, .slice A1 l1.length c1, .slice A2 l2.length c2] rfl (by (try simp only [List.map_toArray, List.map_cons, List.map_nil]); first | done | rfl | (simp only [List.length_drop, List.length_take]; rfl)) ?_; (with_reducible refine (sumcheck_sum.calls k a0 _ _ l1 _ _ l2 t483 t484 _ ?side1 ?side2 ?side3 ?side4 A6.out).mono ?_); (case side1 => repeat (first | exact (Kd.C_below HR1.out HB.out) | (with_reducible refine Kd.C_alloc ?_ _) | (with_reducible refine Kd.C_drewN ?_ _) | (with_reducible refine Kd.C_drew ?_))); (case side2 => exact HC1.out); (case side3 => repeat (first | exact (Kd.C_below HR2.out HB.out) | (with_reducible refine Kd.C_alloc ?_ _) | (with_reducible refine Kd.C_drewN ?_ _) | (with_reducible refine Kd.C_drew ?_))); (case side4 => exact HC2.out); rintro e w9 ⟨rfl, hb⟩; refine ⟨_, rfl, ?_⟩; have n0_ := Aside0.mk (blk_below (g := gb481) (o := .cells #[.int .u64 0, .int .u64 0] 28 (0, 0)) (by exact bF BK481.out) hb); have n1_ := Aside0.mk (below_step (by repeat (first | (with_reducible first | exact HB.out | apply bA | apply bN | apply bD | refine bS ?_ GE481.out) | exact HB.out)) hb); clear BK481; clear HB; have BK481 := n0_; have HB := n1_; clear n0_ n1_; (try clear hb); (try clear hb2); (try clear hk); (try clear hi); have hcz10_0 : w9.cell? ⟨gb481, 0, none⟩ = some (.int .u64 0) := (blk_cell BK481.out 0).trans rfl; have hcz10_1 : w9.cell? ⟨gb481, 1, none⟩ = some (.int .u64 0) := (blk_cell BK481.out 1).trans rfl; have hfz10_0 := blk_frozen BK481.out 0; have hfz10_1 := blk_frozen BK481.out 1))
  refine bodyPost_ret (results_ct rfl _ _ gb481 28 #[.int .u64 t483, .int .u64 t484] (0, 0) _ rfl (by (with_reducible repeat (first | refine blk_drewN ?_ _ | refine blk_drew ?_ | refine blk_alloc ?_ _)); refine blk_put (cs := #[.int .u64 t483, .int .u64 0]) ?_ 1 _ rfl; (with_reducible repeat (first | refine blk_drewN ?_ _ | refine blk_drew ?_ | refine blk_alloc ?_ _)); refine blk_put (cs := #[.int .u64 0, .int .u64 0]) ?_ 0 _ rfl; exact bF BK481.out) Try.underlying28 rfl (by kernel_rfl)) rfl ?_
  exact ⟨by first | rfl | (simp [errW_none, errW_some] <;> rfl) | (simp [*, errW_none, errW_some] <;> rfl), by repeat (first | (with_reducible first | exact HB.out | apply bA | apply bN | apply bD | refine bS ?_ GE481.out) | exact HB.out)⟩
 ·rw [if_neg c5] at H
  have c5b0 : (t482 == 0) = false := beq_eq_false_iff_ne.mpr c5
  have c5b1 : (t482 != 0) = true := bne_iff_ne.mpr c5
  simp only [Option.some.injEq, Prod.mk.injEq] at H
  obtain ⟨rfl, rfl, rfl⟩ := H
  go_enter Try.func52, Try.ntmps52
  go_wp2_with (first | ((with_reducible refine gate_dst (N := 6) rfl ?_); refine box_event ?hg (N := 6) ?hd (cs := #[.int .u64 0, .int .u64 0]) (t := 28) ?hr ?_; (case hd => rfl); (case hg => rfl); (case hr => first | (go_simp; done) | (go_simp; rfl)); intro gb481 hg w11 hbox hb; have n0_ := Aside0.mk (below_step (by exact lF HB.out) hb); have n1_ := Aside0.mk (hbox); have n2_ := Aside0.mk ((by rw [hg]; exact (below_size (by exact lF HB.out)) : w.heap.size ≤ gb481)); have n3_ := Aside0.mk ((by rw [hg]; exact (below_size (by exact lF HB.out)) : w.heap.size ≤ gb481)); clear HB; have HB := n0_; have BK481 := n1_; have GW481 := n2_; have GE481 := n3_; clear n0_ n1_ n2_ n3_; clear hb hbox hg) | ((with_reducible refine gate_callee (f := 51) rfl ?_); refine goesL_ (some 12) rfl rfl Try.func51 (by kernel_rfl) rfl #[.int .i64 a0, .slice A1 l1.length c1, .slice A2 l2.length c2] rfl (by (try simp only [List.map_toArray, List.map_cons, List.map_nil]); first | done | rfl | (simp only [List.length_drop, List.length_take]; rfl)) ?_; (with_reducible refine (sumcheck_Check.calls k a0 _ _ l1 _ _ l2 t482 _ ?side1 ?side2 ?side3 ?side4 A4.out).mono ?_); (case side1 => repeat (first | exact (Kd.C_below HR1.out HB.out) | (with_reducible refine Kd.C_alloc ?_ _) | (with_reducible refine Kd.C_drewN ?_ _) | (with_reducible refine Kd.C_drew ?_))); (case side2 => exact HC1.out); (case side3 => repeat (first | exact (Kd.C_below HR2.out HB.out) | (with_reducible refine Kd.C_alloc ?_ _) | (with_reducible refine Kd.C_drewN ?_ _) | (with_reducible refine Kd.C_drew ?_))); (case side4 => exact HC2.out); rintro e w12 ⟨rfl, hb⟩; refine ⟨_, rfl, ?_⟩; have n0_ := Aside0.mk (blk_below (g := gb481) (o := .cells #[.int .u64 0, .int .u64 0] 28 (0, 0)) (by exact bF BK481.out) hb); have n1_ := Aside0.mk (below_step (by repeat (first | (with_reducible first | exact HB.out | apply bA | apply bN | apply bD | refine bS ?_ GE481.out) | exact HB.out)) hb); clear BK481; clear HB; have BK481 := n0_; have HB := n1_; clear n0_ n1_; (try clear hb); (try clear hb2); (try clear hk); (try clear hi); have hcz13_0 : w12.cell? ⟨gb481, 0, none⟩ = some (.int .u64 0) := (blk_cell BK481.out 0).trans rfl; have hcz13_1 : w12.cell? ⟨gb481, 1, none⟩ = some (.int .u64 0) := (blk_cell BK481.out 1).trans rfl; have hfz13_0 := blk_frozen BK481.out 0; have hfz13_1 := blk_frozen BK481.out 1))
  refine bodyPost_ret (results_ct rfl _ _ gb481 28 #[.int .u64 0, .int .u64 0] (0, 0) _ rfl (by (with_reducible repeat (first | refine blk_drewN ?_ _ | refine blk_drew ?_ | refine blk_alloc ?_ _)); refine blk_put (cs := #[.int .u64 0, .int .u64 0]) ?_ 1 _ rfl; (with_reducible repeat (first | refine blk_drewN ?_ _ | refine blk_drew ?_ | refine blk_alloc ?_ _)); refine blk_put (cs := #[.int .u64 0, .int .u64 0]) ?_ 0 _ rfl; exact bF BK481.out) Try.underlying28 rfl (by kernel_rfl)) rfl ?_
  exact ⟨by first | rfl | (simp [errW_none, errW_some] <;> rfl) | (simp [*, errW_none, errW_some] <;> rfl), by repeat (first | (with_reducible first | exact HB.out | apply bA | apply bN | apply bD | refine bS ?_ GE481.out) | exact HB.out)⟩
end Go.Proofs.Ytoaepfgfbfgcdaa.Q
namespace Go.Proofs.Ytoaepfgfbfgcdaa.Q
open Go.RowKit Go.Proofs.YtoaepfgfbfgcdaaW.PrintWords Go.Proofs.YtoaepfgfbfgcdaaW.PrintLast Go.Proofs.YtoaepfgfbfgcdaaW.PrintMore
attribute [local go_sem] max2_int min2_int max_two min_two max_three min_three max_four min_four
set_option linter.unusedVariables false
set_option linter.unusedSimpArgs false
set_option maxHeartbeats 2000000 in
set_option maxRecDepth 100000 in
theorem clone_rows (w0 : World) (A0 : Option Addr) (c0 : Nat) (l0 : List (List S28)) (w : World) (hb0 : Below w0.heap.size w0 w) (hr0 : Kd.C (Kd.slice 28 k28) w0 A0 l0.length l0) (hb : l0.length * 24 ≤ 140737488355328) :
  Calls Try.prog 82 #[.slice A0 l0.length c0] w fun e w' => ∃ v0_ : Value, e = .returned (v0_) ∧ Kd.R (Kd.mix 28 k28 k28 w0) 53 w' w.heap.size (fun _ => True) v0_ l0 ∧ Below w.heap.size w w' := by
 have hsz : l0.length ≤ 9223372036854775807 := hr0.2.1
 have hrr : ReadsRow ((Kd.slice 28 k28).K w0) 1 w A0 l0.length l0 := ReadsRow.imp_ hr0 hb0 (fun _ _ hp => hp)
 cases A0 with
 | none =>
  have hl : l0.length = 0 := by
   rcases Nat.eq_zero_or_pos l0.length with h | h
   ·exact h
   ·obtain ⟨ad, e, _⟩ := hr0.2.2 h
    cases e
  obtain rfl := List.eq_nil_of_length_eq_zero hl
  clear hl hb hr0 hrr
  have he : ∀ W, (binOp .eql 42 (.slice none 0 c0) (.slice none 0 0)).run Try.prog W = .ok (.bool true) W := fun W => Lib.run_eql_slice_nil (P := Try.prog) W 42 53 none 0 c0 0 0 Try.underlying42
  go_enter Try.func82, Try.ntmps82
  go_wp2
  go_ret
  exact ⟨_, rfl, Kd.R_nil _ _ _ _ _, Below.refl _ _⟩
 | some ad =>
  have he : ∀ W, (binOp .eql 42 (.slice (some ad) l0.length c0) (.slice none 0 0)).run Try.prog W = .ok (.bool false) W := fun W => Lib.run_eql_slice_nil (P := Try.prog) W 42 53 (some ad) l0.length c0 0 0 Try.underlying42
  have HR := Aside0.mk hrr
  have HL := Aside0.mk hb
  clear hr0 hb hrr
  go_enter Try.func82, Try.ntmps82
  go_wp2_with (first | ((with_reducible refine gate_dst (N := 5) rfl ?_); refine Kd.R_lit (Kd.mix 28 k28 k28 w0) _ 53 ?hg (N := 5) ?hd (xs := ([] : List (List S28))) (inner := []) (ok := fun _ => True) (okp := fun _ => True) ?hr ?hp (fun _ hk => hk) trivial (Below.refl _ _) (Nat.le_refl _) (by simp) ?_; (case hd => rfl); (case hg => rfl); (case hr => first | (go_simp; done) | (go_simp; rfl)); (case hp => exact Reps.none _ _); intro v1 w1 ho1 hb1 hg_ hnew_; clear hg_ hnew_; have HO := Aside0.mk ho1; have HB := Aside0.mk hb1; have HR1 := Aside0.mk (ReadsRow.imp_ HR.out hb1 (fun _ _ hp => hp)); clear ho1 hb1) | ((with_reducible refine gate_builtin (b := .append) (xs := #[.tmp 5, .tmp 6]) rfl ?_); at_builtin; refine Kd.R_append_rows (Kd.mix 28 k28 k28 w0) (w0 := w) w.heap.size rfl (.tmp 5) (.tmp 6) 42 53 (.slice none 0 0) 24 rfl Try.underlying42 info53 rfl (show 0 < 1 from by decide) (by omega) v1 ([] : List (List S28)) l0 _ _ _ (fun _ => True) (fun _ => False) rfl rfl HO.out HR1.out ?aK (fun _ h => h.elim) (fun _ _ => trivial) HB.out HB.out.size ?aL ?_; (case aK => (intro x cs h; exact Kd.slice_came h)); (case aL => (have := HL.out; simp; omega)); intro v2 w2 ho2 hb2 hg_ hnew_; clear hg_ hnew_; have HO2 := Aside0.mk ho2; have HB2 := Aside0.mk hb2; clear ho2 hb2))
  go_ret
  exact ⟨_, rfl, HO2.out, HB2.out⟩
end Go.Proofs.Ytoaepfgfbfgcdaa.Q
namespace Go.Proofs.Ytoaepfgfbfgcdaa.Q
open Go.RowKit Go.Proofs.YtoaepfgfbfgcdaaW.PrintWords Go.Proofs.YtoaepfgfbfgcdaaW.PrintLast Go.Proofs.YtoaepfgfbfgcdaaW.PrintMore
attribute [local go_sem] max2_int min2_int max_two min_two max_three min_three max_four min_four
set_option linter.unusedVariables false
set_option linter.unusedSimpArgs false
set_option maxHeartbeats 2000000 in
set_option maxRecDepth 100000 in
theorem cube_of.lit (a0 h l : Int) (B : Nat) (w : World) (hB : B < w.heap.size) (hc : w.cell? ⟨B, 0, none⟩ = some (.int .i64 a0)) :
  Calls Try.prog 163 #[.agg #[.int .u64 h, .int .u64 l], .pointer (some ⟨B, 0, none⟩)] w fun e w' => e = .returned (.bool (!ofB a0 h l)) ∧ Below w.heap.size w w' := by
 have hu28 := Try.underlying28
 go_enter Try.func163, Try.ntmps163
 go_wp2_with fail
 refine (octet_Of.calls a0 h l _ _ rfl).mono ?_
 rintro e w1 ⟨rfl, hb1⟩
 go_wp2
 go_ret
 exact ⟨rfl, ((Below.refl _ _).alloc (Nat.le_refl _) _).trans (hb1.mono (by simp))⟩
def cube_of.f (a0 : Int) (l1 : List (S28)) : Option (Bool) := some (!(l1.any fun x => !ofB a0 x.f0 x.f1))
set_option maxHeartbeats 8000000 in
set_option maxRecDepth 100000 in
theorem cube_of.calls (a0 : Int) (A1 : Option Addr) (c1 : Nat) (l1 : List (S28)) (r : Bool) (w : World) (hr1 : Kd.C k28 w A1 l1.length l1) (hc1 : l1.length ≤ c1) (h : cube_of.f a0 l1 = some r) :
  Calls Try.prog 129 #[.int .i64 a0, .slice A1 l1.length c1] w fun e w' => e = .returned (.bool r) ∧ Below w.heap.size w w' := by
 obtain rfl := Option.some.inj h
 clear h
 have HC := Aside0.mk (has_Elem (fun x => !ofB a0 x.f0 x.f1) 163 #[.pointer (some ⟨w.heap.size, 0, none⟩)] A1 c1 l1 (w.alloc (.cells #[.int .i64 a0] 3)) (Kd.C_below hr1 ((Below.refl _ _).alloc (Nat.le_refl _) _)) (fun args w => by kernel_rfl)
  (fun W x hb => (cube_of.lit a0 x.f0 x.f1 w.heap.size W (by have := hb.size; simp at this; omega) ((hb.cell (p := ⟨w.heap.size, 0, none⟩) (by simp)).trans (by simp [go_sem]))).mono fun e w' ⟨he, hb'⟩ => ⟨he, hb.trans (hb'.mono hb.size)⟩))
 clear hr1
 go_enter Try.func129, Try.ntmps129
 go_wp2_with fail
 refine HC.out.mono ?_
 rintro e w1 ⟨rfl, hb1⟩
 clear HC
 go_wp2
 go_ret
 exact ⟨rfl, ((Below.refl _ _).alloc (Nat.le_refl _) _).trans (hb1.mono (by simp))⟩
end Go.Proofs.Ytoaepfgfbfgcdaa.Q
namespace Go.Proofs.Ytoaepfgfbfgcdaa.Q
open Go.RowKit Go.Proofs.YtoaepfgfbfgcdaaW.PrintWords Go.Proofs.YtoaepfgfbfgcdaaW.PrintLast Go.Proofs.YtoaepfgfbfgcdaaW.PrintMore
attribute [local go_sem] max2_int min2_int max_two min_two max_three min_three max_four min_four
set_option linter.unusedVariables false
set_option linter.unusedSimpArgs false
def addE (a b : S28) : S28 := ⟨Go.bits .xor .u64 a.f0 b.f0, Go.bits .xor .u64 a.f1 b.f1⟩
def wrow (k : Nat) (a0 x0 x1 : Int) : List S28 → Option (List S28)
 | [] => some []
 | w :: r => (tower_Mul.f k a0 w.f0 w.f1 x0 x1).bind fun m => (wrow k a0 x0 x1 r).bind fun s => some (⟨m.1, m.2⟩ :: s)
theorem wrow_len {k : Nat} {a0 x0 x1 : Int} : ∀ {l U : List S28}, wrow k a0 x0 x1 l = some U → U.length = l.length
 | [], U, h => by cases h; rfl
 | w :: r, U, h => by
  obtain ⟨m, _, h⟩ := Option.bind_eq_some_iff.mp h
  obtain ⟨s, hs, h⟩ := Option.bind_eq_some_iff.mp h
  obtain rfl := Option.some.inj h
  rw [List.length_cons, wrow_len hs, List.length_cons]
theorem wrow_at {k : Nat} {a0 x0 x1 : Int} : ∀ {l U : List S28} (i : Nat), wrow k a0 x0 x1 l = some U → i < l.length → tower_Mul.f k a0 (l.getD i z28).f0 (l.getD i z28).f1 x0 x1 = some ((U.getD i z28).f0, (U.getD i z28).f1)
 | [], U, i, h, hi => absurd hi (Nat.not_lt_zero _)
 | w :: r, U, i, h, hi => by
  obtain ⟨m, hm, h⟩ := Option.bind_eq_some_iff.mp h
  obtain ⟨s, hs, h⟩ := Option.bind_eq_some_iff.mp h
  obtain rfl := Option.some.inj h
  cases i with
  | zero => simpa using hm
  | succ i => simpa using wrow_at i hs (by simpa using hi)
theorem wrow_mono (k : Nat) (a0 x0 x1 : Int) : ∀ l, LeO (wrow k a0 x0 x1 l) (wrow (k + 1) a0 x0 x1 l)
 | [] => LeO.refl _
 | w :: r => LeO.bind (tower_Mul.mono _ _ _ _ _ _) fun _ => LeO.bind (wrow_mono k a0 x0 x1 r) fun _ => LeO.refl _
def wts (k : Nat) (a0 : Int) : List S28 → List S28 → Option (List S28)
 | [], out => some out
 | x :: r, out => (wrow k a0 x.f0 x.f1 out).bind fun U => wts k a0 r (List.zipWith addE out U ++ U)
theorem wts_mono (k : Nat) (a0 : Int) : ∀ l out, LeO (wts k a0 l out) (wts (k + 1) a0 l out)
 | [], out => LeO.refl _
 | x :: r, out => LeO.bind (wrow_mono _ _ _ _ _) fun _ => wts_mono k a0 r _
def mixl {α : Type} (i : Nat) (a b : List α) : List α := a.take i ++ b.drop i
theorem mixl_zero {α : Type} (a b : List α) : mixl 0 a b = b := by simp [mixl]
theorem mixl_len {α : Type} (i : Nat) (a b : List α) (h : a.length = b.length) (hi : i ≤ b.length) : (mixl i a b).length = b.length := by simp [mixl]; omega
theorem mixl_all {α : Type} (a b : List α) (h : a.length = b.length) (i : Nat) (hi : i = b.length) : mixl i a b = a := by
 subst hi; unfold mixl; rw [List.drop_length, List.append_nil, ← h, List.take_length]
theorem mixl_at {α : Type} (z : α) (i : Nat) (a b : List α) (h : a.length = b.length) (hi : i < b.length) : (mixl i a b).getD i z = b.getD i z := by
 unfold mixl
 rw [List.getD_eq_getElem?_getD, List.getD_eq_getElem?_getD, List.getElem?_append_right (by simp; omega)]
 simp only [List.length_take]
 rw [Nat.min_eq_left (by omega), Nat.sub_self, List.getElem?_drop, Nat.add_zero]
theorem mixl_set {α : Type} (z : α) (i : Nat) (a b : List α) (h : a.length = b.length) (hi : i < b.length) : (mixl i a b).set i (a.getD i z) = mixl (i + 1) a b := by
 unfold mixl
 rw [List.set_append_right _ _ (by simp; omega)]
 simp only [List.length_take]
 rw [Nat.min_eq_left (by omega), Nat.sub_self, List.drop_eq_getElem_cons hi, List.set_cons_zero]
 rw [List.take_succ_eq_append_getElem (by omega), List.append_assoc]
 congr 2
 rw [List.getD_eq_getElem?_getD, List.getElem?_eq_getElem (by omega)]
 rfl
theorem zip_at (i : Nat) : ∀ (a b : List S28), a.length = b.length → i < b.length → (List.zipWith addE a b).getD i z28 = addE (a.getD i z28) (b.getD i z28) := by
 intro a b h hi
 rw [List.getD_eq_getElem?_getD, List.getD_eq_getElem?_getD, List.getD_eq_getElem?_getD, List.getElem?_zipWith, List.getElem?_eq_getElem (by omega), List.getElem?_eq_getElem hi]
 rfl
theorem put_Elem {W : World} {base : Nat} {ok : Nat → Prop} {g n cap : Nat} {xs : List S28} (h : Kd.R k28 28 W base ok (.slice (some ⟨g, 0, none⟩) n cap) xs) (i : Int) (h0 : 0 ≤ i) (h1 : i < n) (x' : S28) :
  W.cell? ⟨g, i.toNat * 2, none⟩ = some (.int .u64 (rd_T28 xs i).f0) ∧ W.cell? ⟨g, i.toNat * 2 + 1, none⟩ = some (.int .u64 (rd_T28 xs i).f1) ∧ W.frozen? ⟨g, i.toNat * 2, none⟩ = false ∧ W.frozen? ⟨g, i.toNat * 2 + 1, none⟩ = false ∧
  Kd.R k28 28 ((W.setCell ⟨g, i.toNat * 2, none⟩ (.int .u64 x'.f0)).setCell ⟨g, i.toNat * 2 + 1, none⟩ (.int .u64 x'.f1)) base ok (.slice (some ⟨g, 0, none⟩) n cap) (xs.set i.toNat x') ∧
  W.grownBy ((W.setCell ⟨g, i.toNat * 2, none⟩ (.int .u64 x'.f0)).setCell ⟨g, i.toNat * 2 + 1, none⟩ (.int .u64 x'.f1)) (some g) := by
 obtain ⟨c, hcl, hM, hcc, hf⟩ := Kd.R_elem h z28 i h0 h1
 obtain rfl := k28_openM hM
 obtain ⟨a, b⟩ := Kd.R_seg h i h0 h1 hcl hcc (seg := [.int .u64 x'.f0, .int .u64 x'.f1]) (j := 0) (show 0 + 2 ≤ 2 from by decide) (x' := x') (okp := fun k => ok k ∧ k ≠ g) (k28_mkM _ _ _ x') (fun _ hk => hk)
 exact ⟨hcc 0 _ rfl, hcc 1 _ rfl, hf 0, hf 1, a, b⟩
def cube_Weights.f (k : Nat) (a0 : Int) (l1 : List (S28)) : Option ((List (S28))) := (octet_Wide.f k a0).bind fun wd => if wd = 0 then some [] else if 16 < (l1.length : Int) then some [] else if (l1.any fun x => !ofB a0 x.f0 x.f1) = true then some [] else wts k a0 l1 [⟨0, 1⟩]
set_option maxHeartbeats 8000000 in
set_option maxRecDepth 100000 in
theorem cube_Weights.calls (k : Nat) (a0 : Int) (A1 : Option Addr) (c1 : Nat) (l1 : List (S28)) (r : List (S28)) (w : World) (hr1 : Kd.C k28 w A1 l1.length l1) (hc1 : l1.length ≤ c1) (h : cube_Weights.f k a0 l1 = some r) :
  Calls Try.prog 83 #[.int .i64 a0, .slice A1 l1.length c1] w fun e w' => ∃ v0_ : Value, e = .returned (v0_) ∧ Kd.R k28 28 w' w.heap.size (fun _ => True) v0_ r ∧ Below w.heap.size w w' := by
 unfold cube_Weights.f at h
 obtain ⟨wd, hwd, h⟩ := Option.bind_eq_some_iff.mp h
 have hm : l1.length ≤ 9223372036854775807 := hr1.2.1
 have HR := Aside0.mk hr1
 have HK := Aside0.mk hc1
 have HW := Aside0.mk (octet_Wide.calls k a0 wd w hwd)
 clear hr1 hc1 hwd
 have huE := Try.underlying28
 by_cases h1 : wd = 0
 ·rw [if_pos h1] at h
  obtain rfl := Option.some.inj h
  have b1 : (wd == 0) = true := beq_iff_eq.mpr h1
  clear h h1
  go_enter Try.func83, Try.ntmps83
  go_wp2_with fail
  refine HW.out.mono ?_
  rintro e w1 ⟨rfl, hd⟩
  clear HW
  go_wp2
  go_ret
  exact ⟨_, rfl, Kd.R_nil _ _ _ _ _, hd.below⟩
 rw [if_neg h1] at h
 have b1 : (wd == 0) = false := beq_eq_false_iff_ne.mpr h1
 clear h1
 by_cases h2 : 16 < (l1.length : Int)
 ·rw [if_pos h2] at h
  obtain rfl := Option.some.inj h
  clear h
  have b2 : decide (16 < l1.length) = true := decide_eq_true (by omega)
  go_enter Try.func83, Try.ntmps83
  go_wp2_with fail
  refine HW.out.mono ?_
  rintro e w1 ⟨rfl, hd⟩
  clear HW
  go_wp2
  go_ret
  exact ⟨_, rfl, Kd.R_nil _ _ _ _ _, hd.below⟩
 rw [if_neg h2] at h
 have b2 : decide (16 < l1.length) = false := decide_eq_false (by omega)
 have b3 : ¬ 16 < (l1.length : Int) := h2
 clear h2
 have HO := Aside0.mk (fun W1 (hb : Below w.heap.size w W1) => cube_of.calls a0 A1 c1 l1 _ W1 (Kd.C_below HR.out hb) HK.out rfl)
 obtain ⟨q, hq⟩ : ∃ q, (l1.any fun x => !ofB a0 x.f0 x.f1) = q := ⟨_, rfl⟩
 rw [hq] at h HO
 clear hq
 cases q with
 | true =>
  rw [if_pos rfl] at h
  obtain rfl := Option.some.inj h
  clear h
  go_enter Try.func83, Try.ntmps83
  go_wp2_with fail
  refine HW.out.mono ?_
  rintro e w1 ⟨rfl, hd⟩
  clear HW
  have HD := Aside0.mk hd.below
  clear hd
  go_wp2_with fail
  refine (HO.out _ HD.out).mono ?_
  rintro e2 w2 ⟨rfl, hb2⟩
  go_wp2
  go_ret
  exact ⟨_, rfl, Kd.R_nil _ _ _ _ _, below_step HD.out hb2⟩
 | false =>
  rw [if_neg (by simp)] at h
  have HH := Aside0.mk h
  clear h
  go_enter Try.func83, Try.ntmps83
  go_wp2_with fail
  refine HW.out.mono ?_
  rintro e w1 ⟨rfl, hd⟩
  clear HW
  have HD := Aside0.mk hd.below
  clear hd
  go_wp2_with fail
  refine (HO.out _ HD.out).mono ?_
  rintro e2 w2 ⟨rfl, hb2⟩
  clear HO
  have HD2 := Aside0.mk (below_step HD.out hb2)
  clear hb2 HD
  go_wp2_with fail
  refine (tower_One.calls 0 1 _ rfl).mono ?_
  rintro e3 w3 ⟨rfl, hb3⟩
  have HD3 := Aside0.mk (below_step HD2.out hb3)
  clear hb3 HD2
  go_wp2_with (((with_reducible refine gate_dst (N := 26) rfl ?_); refine Kd.R_lit k28 _ 28 ?hg (N := 26) ?hd (xs := ([(⟨0, 1⟩ : S28)] : List (S28))) (inner := [.int .u64 0, .int .u64 1]) (ok := fun _ => True) (okp := fun _ => True) ?hr ?hp (fun _ hk => hk) trivial (Below.refl _ _) (Nat.le_refl _) (by simp) ?_; (case hd => rfl); (case hg => rfl); (case hr => first | (go_simp; done) | (go_simp; rfl)); (case hp => exact (Reps.c2 (show Kd.M k28 _ _ _ (⟨0, 1⟩ : S28) [.int .u64 0, .int .u64 1] from (k28_mkM _ _ _ (⟨0, 1⟩ : S28))) (Reps.none _ _))); intro v1 w4 ho1 hb1 hg_ hnew_; clear hg_ hnew_; have RO := Aside0.mk (Kd.R_lower ho1 HD3.out.size); have HB := Aside0.mk (below_step HD3.out hb1); clear ho1 hb1))
  go_loopg [5, 29] l1.length (fun gg v5 v29 wr => ∃ (y : Int) (O : List S28), v29 = .int .i64 y ∧ 0 ≤ y ∧ y ≤ l1.length ∧ l1.length - y.toNat ≤ gg ∧ Aside0 (Kd.R k28 28 wr w.heap.size (fun _ => True) v5 O) ∧ Aside0 (Below w.heap.size w wr) ∧ Aside0 (wts k a0 (l1.drop y.toNat) O = some r) ∧ Aside0 (O.length = 2 ^ y.toNat))
  case atStart => exact ⟨0, _, rfl, by omega, by omega, by omega, RO, HB, HH, ⟨rfl⟩⟩
  case round =>
   clear RO HB HH HD3
   obtain ⟨y, O, rfl, h0, h1, hg, RO, HB, HT, HN⟩ := hrel
   by_cases hlt : y < (l1.length : Int)
   ·have hyn : y.toNat < l1.length := by omega
    have HT2 := HT.out
    rw [List.drop_eq_getElem_cons hyn] at HT2
    obtain ⟨U, hU, hR⟩ := Option.bind_eq_some_iff.mp HT2
    have hx : l1[y.toNat] = rd_T28 l1 y := by unfold rd_T28; rw [List.getD_eq_getElem?_getD, List.getElem?_eq_getElem hyn]; rfl
    rw [hx] at hU
    obtain ⟨ad, e, hx0, hx1⟩ := at_T28 HR.out y h0 hlt
    cases e
    replace hx0 := (HB.out.cell (World.block_lt_of_cell? w _ hx0)).trans hx0
    replace hx1 := (HB.out.cell (World.block_lt_of_cell? w _ hx1)).trans hx1
    have HU := Aside0.mk hU
    have HR2 := Aside0.mk hR
    have hpos : 0 < O.length := by rw [HN.out]; exact Nat.pos_of_ne_zero (by simp)
    have hsmall : O.length ≤ 65536 := by rw [HN.out]; exact Nat.pow_le_pow_right (n := 2) (by decide) (show y.toNat ≤ 16 by omega)
    have HP := Aside0.mk hpos
    have HS := Aside0.mk hsmall
    clear HT HT2 hU hR hx hyn hpos hsmall
    obtain ⟨x0, hx0e⟩ : ∃ x0, (rd_T28 l1 y).f0 = x0 := ⟨_, rfl⟩
    obtain ⟨x1, hx1e⟩ : ∃ x1, (rd_T28 l1 y).f1 = x1 := ⟨_, rfl⟩
    rw [hx0e] at HU hx0
    rw [hx1e] at HU hx1
    clear hx0e hx1e
    have p0 := eq_true h0
    have q0 := eq_true hlt
    obtain ⟨go, co, rfl, hgb, hgl, hgc⟩ := Kd.R_form RO.out HP.out
    have hgo : go < wr.heap.size := hgl
    obtain ⟨W1, hW1⟩ : ∃ W1, W1 = wr.alloc (.cells #[.int .u64 x0, .int .u64 x1] 28) := ⟨_, rfl⟩
    have hs1 : W1.heap.size = wr.heap.size + 1 := by rw [hW1]; simp
    have BX := Aside0.mk (show W1.heap[wr.heap.size]? = some (.cells #[.int .u64 x0, .int .u64 x1] 28 (0, 0)) by rw [hW1]; exact blk_new _ _)
    have RO1 := Aside0.mk (show Kd.R k28 28 W1 w.heap.size (fun _ => True) _ O by rw [hW1]; exact Kd.R_alloc RO.out _)
    have HB1 := Aside0.mk (show Below w.heap.size w W1 by rw [hW1]; exact HB.out.alloc HB.out.size _)
    have HW1 := Aside0.mk hW1
    have HS1 := Aside0.mk hs1
    obtain ⟨gx, hgx⟩ : ∃ gx, gx = wr.heap.size := ⟨_, rfl⟩
    rw [← hgx] at BX HS1 hgo
    have HGX := Aside0.mk hgx
    clear hW1 hs1 RO HB hgl hgb hgc hgx
    go_wp2_with (((with_reducible refine gate_dst (N := 35) rfl ?_); (rw [← HW1.out]); (rw [← HGX.out]); (refine Kd.R_make k28 _ 28 ?hg (N := 35) ?hd 53 (.tmp 34) (.tmp 34) ?ho (O.length : Int) ?hx ?hy Try.underlying53 (.agg #[(.int .u64 0), (.int .u64 0)]) 16 info28 rfl ?hs0 ?hb0 z28 (ok := fun _ => True) (okp := fun _ => True) (k28_mkM _ _ _ z28) (fun _ hk => hk) trivial ?h0 ?hl (Below.refl _ _) (Nat.le_refl _) ?_); (case hd => rfl); (case hg => rfl); (case ho => rfl); (case hx => rfl); (case hy => rfl); (case hs0 => decide); (case hb0 => decide); (case h0 => omega); (case hl => (have := HS.out; omega)); intro v2 w5 ho2 hb2 hg_ hnew_; clear hg_ hnew_; have RU := Aside0.mk ho2; have HB2 := Aside0.mk hb2; clear ho2 hb2))
    have hlen : (List.replicate (O.length : Int).toNat z28).length = O.length := by simp
    obtain ⟨gu, cu, hv2, hub, hul, _⟩ := Kd.R_form RU.out (by rw [hlen]; exact HP.out)
    rw [hlen] at hv2
    subst hv2
    rw [Int.toNat_natCast] at RU
    clear hlen
    have hgu : gx < gu := by have := HS1.out; omega
    have flat : ∀ {ok1 ok2 : Nat → Prop} {x : S28} {cs : List Value}, k28.M w5 w.heap.size ok1 x cs → k28.M w5 w.heap.size ok2 x cs := fun h => by obtain rfl := k28_openM h; exact k28_mkM _ _ _ _
    have RO5 := Aside0.mk (Kd.R_flat (ok' := fun k => k = go) flat (Kd.R_below RO1.out HB2.out) (fun k hk _ => by simpa [Value.ownBlock, eq_comm] using hk))
    have RU5 := Aside0.mk (Kd.R_flat (ok' := fun k => k = gu) flat (Kd.R_lower RU.out HB1.out.size) (fun k hk _ => by simpa [Value.ownBlock, eq_comm] using hk))
    have BX5 := Aside0.mk (blk_below BX.out HB2.out)
    have HB5 := Aside0.mk (below_step HB1.out HB2.out)
    clear flat RU HB2 RO1 HB1 BX HW1 HS1 hub hul
    obtain ⟨vo, hvo⟩ : ∃ vo : Value, vo = .slice (some ⟨go, 0, none⟩) O.length co := ⟨_, rfl⟩
    obtain ⟨Z, hZ⟩ : ∃ Z, Z = List.replicate O.length z28 := ⟨_, rfl⟩
    have HZ := Aside0.mk (show Z.length = O.length by rw [hZ]; simp)
    rw [← hZ] at RU5
    have HUL := Aside0.mk (wrow_len HU.out)
    clear hZ
    obtain ⟨O', hO'⟩ : ∃ O', O' = List.zipWith addE O U := ⟨_, rfl⟩
    have HO' := Aside0.mk hO'
    have HOL := Aside0.mk (show O'.length = O.length by rw [hO', List.length_zipWith, HUL.out, Nat.min_self])
    clear hO' hvo
    go_wp2_with fail
    go_loopg [38] O.length (fun gg v38 wr2 => ∃ x : Int, v38 = .int .i64 x ∧ 0 ≤ x ∧ x ≤ O.length ∧ O.length - x.toNat ≤ gg ∧ Aside0 (Kd.R k28 28 wr2 w.heap.size (fun k => k = go) (.slice (some ⟨go, 0, none⟩) O.length co) (mixl x.toNat O' O)) ∧ Aside0 (Kd.R k28 28 wr2 w.heap.size (fun k => k = gu) (.slice (some ⟨gu, 0, none⟩) O.length cu) (mixl x.toNat U Z)) ∧ Aside0 (wr2.heap[gx]? = some (.cells #[.int .u64 x0, .int .u64 x1] 28 (0, 0))) ∧ Aside0 (Below w.heap.size w wr2))
    case atStart => exact ⟨0, rfl, by omega, by omega, by omega, ⟨by rw [show (0 : Int).toNat = 0 from rfl, mixl_zero]; exact RO5.out⟩, ⟨by rw [show (0 : Int).toNat = 0 from rfl, mixl_zero]; exact RU5.out⟩, BX5, HB5⟩
    case round =>
     clear RO5 RU5 BX5 HB5
     obtain ⟨x, rfl, g0, g1, gg, RO, RU, BX, HB⟩ := hrel
     by_cases hl2 : x < (O.length : Int)
     ·have hxn : x.toNat < O.length := by omega
      have hmul := wrow_at x.toNat HU.out hxn
      obtain ⟨ho0, ho1, hf0, hf1, _, _⟩ := put_Elem RO.out x g0 hl2 (O'.getD x.toNat z28)
      rw [show rd_T28 (mixl x.toNat O' O) x = O.getD x.toNat z28 from mixl_at z28 x.toNat O' O HOL.out hxn] at ho0 ho1
      obtain ⟨w0, hw0⟩ : ∃ w0, (O.getD x.toNat z28).f0 = w0 := ⟨_, rfl⟩
      obtain ⟨w1', hw1⟩ : ∃ w1, (O.getD x.toNat z28).f1 = w1 := ⟨_, rfl⟩
      rw [hw0] at hmul ho0
      rw [hw1] at hmul ho1
      have HW0 := Aside0.mk hw0
      have HW1 := Aside0.mk hw1
      clear hw0 hw1
      obtain ⟨W1, hW1⟩ : ∃ W1, W1 = wr.alloc (.cells #[.int .u64 w0, .int .u64 w1'] 28) := ⟨_, rfl⟩
      have a0x : (wr.alloc (.cells #[.int .u64 w0, .int .u64 w1'] 28)).cell? ⟨gx, 0, none⟩ = some (.int .u64 x0) := (World.cell?_alloc_lt wr _ ⟨gx, 0, none⟩ (blk_lt BX.out)).trans (blk_cell BX.out 0)
      have a1x : (wr.alloc (.cells #[.int .u64 w0, .int .u64 w1'] 28)).cell? ⟨gx, 1, none⟩ = some (.int .u64 x1) := (World.cell?_alloc_lt wr _ ⟨gx, 1, none⟩ (blk_lt BX.out)).trans (blk_cell BX.out 1)
      have HM := Aside0.mk hmul
      have HXN := Aside0.mk hxn
      have HW := Aside0.mk hW1
      clear hmul hxn hW1
      have p0 := eq_true g0
      have q0 := eq_true hl2
      go_wp2_with fail
      obtain ⟨gw, hgw⟩ : ∃ gw, gw = wr.heap.size := ⟨_, rfl⟩
      rw [← HW.out, ← hgw]
      have BW := Aside0.mk (show W1.heap[gw]? = some (.cells #[.int .u64 w0, .int .u64 w1'] 28 (0, 0)) by rw [HW.out, hgw]; exact blk_new _ _)
      have hbW : Below wr.heap.size wr W1 := by rw [HW.out]; exact (Below.refl _ _).alloc (Nat.le_refl _) _
      have hlo : go < gw := by rw [hgw]; exact Kd.R_lt RO.out go (by simp [Value.ownBlock])
      have hlu : gu < gw := by rw [hgw]; exact Kd.R_lt RU.out gu (by simp [Value.ownBlock])
      have hlx : gx < gw := by rw [hgw]; exact blk_lt BX.out
      clear a0x a1x ho0 ho1 hf0 hf1
      have HBW := Aside0.mk hbW
      have HGW := Aside0.mk hgw
      clear hbW hgw
      obtain ⟨UU, hUU⟩ : ∃ UU, U.getD x.toNat z28 = UU := ⟨_, rfl⟩
      rw [hUU] at HM
      have HUU := Aside0.mk hUU
      clear hUU
      refine (tower_Mul.calls k a0 w0 w1' x0 x1 UU.f0 UU.f1 W1 HM.out).mono ?_
      rintro e w2 ⟨rfl, hb2⟩
      have HB2 := Aside0.mk (below_step HBW.out hb2)
      have BW2 := Aside0.mk (blk_below BW.out hb2)
      have RO2 := Aside0.mk (Kd.R_below RO.out HB2.out)
      have RU2 := Aside0.mk (Kd.R_below RU.out HB2.out)
      have BX2 := Aside0.mk (blk_below BX.out HB2.out)
      have HBB := Aside0.mk (below_step HB.out HB2.out)
      clear hb2 HB2 BW RO RU BX HB HBW HM HW
      have hxU : x < (O.length : Int) := hl2
      obtain ⟨hu0, hu1, fu0, fu1, hR3, hG3⟩ := put_Elem RU2.out x g0 hl2 UU
      obtain ⟨W3, hW3⟩ : ∃ W3, W3 = (w2.setCell ⟨gu, x.toNat * 2, none⟩ (.int .u64 UU.f0)).setCell ⟨gu, x.toNat * 2 + 1, none⟩ (.int .u64 UU.f1) := ⟨_, rfl⟩
      rw [← hW3] at hR3 hG3
      have RU3 := Aside0.mk hR3
      have G3 := Aside0.mk hG3
      have HW3 := Aside0.mk hW3
      clear hR3 hG3 hW3 RU2
      go_wp2_with fail
      rw [← HW3.out]
      clear hu0 hu1 fu0 fu1
      have GB := Aside0.mk (show Below w2.heap.size w2 w2 from Below.refl _ _)
      have HBB3 := Aside0.mk (show Below w.heap.size w W3 from HBB.out.grown G3.out HBB.out.size (fun k e => by cases e; exact Kd.R_base RU3.out gu (by simp [Value.ownBlock])))
      have RO3 := Aside0.mk (Kd.R_grown RO2.out G3.out (fun k hk e => by cases e; omega))
      have BX3 := Aside0.mk ((G3.out.block gx (blk_lt BX2.out) (fun e => by cases e; omega)).trans BX2.out)
      have BW3 := Aside0.mk ((G3.out.block gw (blk_lt BW2.out) (fun e => by cases e; omega)).trans BW2.out)
      have hx2 : x.toNat < (mixl x.toNat U Z).length := by rw [mixl_len _ _ _ (by rw [HUL.out, HZ.out]) (by rw [HZ.out]; omega), HZ.out]; omega
      obtain ⟨su0, su1, _, _, _, _⟩ := put_Elem RU3.out x g0 hxU UU
      rw [show rd_T28 ((mixl x.toNat U Z).set x.toNat UU) x = UU from by unfold rd_T28; rw [List.getD_eq_getElem?_getD, List.getElem?_set_self hx2]; rfl] at su0 su1
      obtain ⟨so0, so1, sf0, sf1, _, _⟩ := put_Elem RO3.out x g0 hxU UU
      rw [show rd_T28 (mixl x.toNat O' O) x = O.getD x.toNat z28 from mixl_at z28 x.toNat O' O HOL.out HXN.out] at so0 so1
      rw [HW0.out] at so0
      rw [HW1.out] at so1
      have sw0 : W3.cell? ⟨gw, 0, none⟩ = some (.int .u64 w0) := blk_cell BW3.out 0
      have sw1 : W3.cell? ⟨gw, 1, none⟩ = some (.int .u64 w1') := blk_cell BW3.out 1
      have lg : go < W3.heap.size := Kd.R_lt RO3.out go (by simp [Value.ownBlock])
      have lu : gu < W3.heap.size := Kd.R_lt RU3.out gu (by simp [Value.ownBlock])
      have lw : gw < W3.heap.size := blk_lt BW3.out
      have LG := Aside0.mk lg
      have LU := Aside0.mk lu
      have LW := Aside0.mk lw
      clear RO2 BX2 BW2 HBB G3 HW3 hx2 GB lg lu lw
      have n1 : gw ≠ go := by omega
      have n2 : gu ≠ go := by omega
      have RO4 := Aside0.mk (fun W' (hb : Below W3.drew.heap.size W3.drew W') => Kd.R_below (Kd.R_drew RO3.out) hb)
      go_region_held3 (fun w' => w'.cell? ⟨gw, 0, none⟩ = some (.int .u64 w0) ∧ w'.cell? ⟨gw, 1, none⟩ = some (.int .u64 w1') ∧ w'.cell? ⟨gu, x.toNat * 2, none⟩ = some (.int .u64 UU.f0) ∧ w'.cell? ⟨gu, x.toNat * 2 + 1, none⟩ = some (.int .u64 UU.f1))
       (first | go_keep | (go_split_ands; exact ⟨(cell_far (p := ⟨go, x.toNat * 2 + 1, none⟩) (a := ⟨gw, 0, none⟩) n1 _).trans ((cell_far (p := ⟨go, x.toNat * 2, none⟩) (a := ⟨gw, 0, none⟩) n1 _).trans (by assumption)), (cell_far (p := ⟨go, x.toNat * 2 + 1, none⟩) (a := ⟨gw, 1, none⟩) n1 _).trans ((cell_far (p := ⟨go, x.toNat * 2, none⟩) (a := ⟨gw, 1, none⟩) n1 _).trans (by assumption)), (cell_far (p := ⟨go, x.toNat * 2 + 1, none⟩) (a := ⟨gu, x.toNat * 2, none⟩) n2 _).trans ((cell_far (p := ⟨go, x.toNat * 2, none⟩) (a := ⟨gu, x.toNat * 2, none⟩) n2 _).trans (by assumption)), (cell_far (p := ⟨go, x.toNat * 2 + 1, none⟩) (a := ⟨gu, x.toNat * 2 + 1, none⟩) n2 _).trans ((cell_far (p := ⟨go, x.toNat * 2, none⟩) (a := ⟨gu, x.toNat * 2 + 1, none⟩) n2 _).trans (by assumption))⟩) | (go_split_ands; exact ⟨(hbd.cell (p := ⟨gw, 0, none⟩) LW.out).trans (by assumption), (hbd.cell (p := ⟨gw, 1, none⟩) LW.out).trans (by assumption), (hbd.cell (p := ⟨gu, x.toNat * 2, none⟩) LU.out).trans (by assumption), (hbd.cell (p := ⟨gu, x.toNat * 2 + 1, none⟩) LU.out).trans (by assumption)⟩))
       ((go_at_call 60; refine (tower_Add.calls w0 w1' UU.f0 UU.f1 _ _ _ rfl).mono ?_; rintro e3 w4 ⟨rfl, hbd⟩; have HBD := Aside0.mk hbd; have so2 := (hbd.cell (p := ⟨go, x.toNat * 2, none⟩) LG.out).trans so0; have so3 := (hbd.cell (p := ⟨go, x.toNat * 2 + 1, none⟩) LG.out).trans so1; have sf2 := (hbd.frozen (p := ⟨go, x.toNat * 2, none⟩) LG.out).trans sf0; have sf3 := (hbd.frozen (p := ⟨go, x.toNat * 2 + 1, none⟩) LG.out).trans sf1))
      have RO5 := RO4.out w4 HBD.out
      have hB4 : Below W3.heap.size W3 w4 := ⟨HBD.out.os, HBD.out.tape, HBD.out.output, HBD.out.size, HBD.out.block⟩
      obtain ⟨_, _, _, _, hRF, hGF⟩ := put_Elem RO5 x g0 hxU (addE ⟨w0, w1'⟩ UU)
      have HZP := zip_at x.toNat O U HUL.out.symm (by rw [HUL.out]; exact HXN.out)
      have eO : O'.getD x.toNat z28 = addE ⟨w0, w1'⟩ UU := by
       rw [HO'.out, HZP, HUU.out]
       congr 1
       rw [← HW0.out, ← HW1.out]
      have eS : (mixl x.toNat O' O).set x.toNat (addE ⟨w0, w1'⟩ UU) = mixl (x.toNat + 1) O' O := by rw [← eO]; exact mixl_set z28 x.toNat O' O HOL.out HXN.out
      rw [eS] at hRF
      have eU := mixl_set z28 x.toNat U Z (by rw [HUL.out, HZ.out]) (by rw [HZ.out]; exact HXN.out)
      rw [HUU.out] at eU
      have RUF := Kd.R_grown (Kd.R_below RU3.out hB4) hGF (fun k hk e => by cases e; omega)
      rw [eU] at RUF
      have BXF := (hGF.block gx (blk_lt (blk_below BX3.out hB4)) (fun e => by cases e; omega)).trans (blk_below BX3.out hB4)
      have HBF := (below_step HBB3.out hB4).grown hGF (below_step HBB3.out hB4).size (fun k e => by cases e; exact Kd.R_base RO5 go (by simp [Value.ownBlock]))
      have et : (x + 1).toNat = x.toNat + 1 := by omega
      rw [← et] at hRF RUF
      have F1 := Aside0.mk hRF
      have F2 := Aside0.mk RUF
      have F3 := Aside0.mk BXF
      have F4 := Aside0.mk HBF
      clear hRF RUF BXF HBF RO5 hB4 hGF HZP eO eU eS RO4 RO3 RU3 HBB3 BX3 BW3 so0 so1 so2 so3 sf0 sf1 sf2 sf3 su0 su1 sw0 sw1 hbd et
      go_wp2
      go_roundg (O.length - (x + 1).toNat)
      case measure => omega
      case rel => exact ⟨x + 1, by (have e_ : wrap64 (x + 1) = x + 1 := by (unfold wrap64; have := HS.out; omega)); first | rfl | rw [e_] | (simp; exact e_), by omega, by omega, by omega, F1, F2, F3, F4⟩
     ·have hxe : x.toNat = O.length := by omega
      have RO6 := RO.out
      have RU6 := RU.out
      rw [hxe] at RO6 RU6
      rw [mixl_all O' O HOL.out _ rfl] at RO6
      rw [mixl_all U Z (by rw [HUL.out, HZ.out]) _ HZ.out.symm] at RU6
      clear hxe RO RU
      have RO := Aside0.mk RO6
      have RU := Aside0.mk RU6
      clear RO6 RU6
      have RC : Kd.C k28 wr (some ⟨gu, 0, none⟩) O.length U := by
       have h_ := Kd.R_reads' RU.out
       rw [h_.1]; exact h_.2.2
      have HRC := Aside0.mk RC
      have ROT := Aside0.mk (Kd.R_mono RO.out (ok' := fun _ => True) (fun _ _ => trivial))
      clear RC RO RU BX
      have hgr := HB.out.size
      go_wp2_with (((with_reducible refine gate_builtin (b := .append) (xs := #[.tmp 60, .tmp 61]) rfl ?_); at_builtin; refine Kd.R_append_rows k28 (w0 := w) w.heap.size rfl (.tmp 60) (.tmp 61) 53 28 (.agg #[(.int .u64 0), (.int .u64 0)]) 16 rfl Try.underlying53 info28 rfl (by decide) (by omega) (.slice (some ⟨go, 0, none⟩) O.length co) O' U _ _ _ (fun _ => True) (fun _ => False) rfl rfl ROT.out HRC.out ?aK (fun _ h => h.elim) (fun _ _ => trivial) HB.out HB.out.size ?aL ?_; (case aK => (intro x cs h; obtain rfl := k28_open h; exact k28_mkM _ _ _ x)); (case aL => (have := HS.out; have := HOL.out; omega)); intro v6 w6 ho6 hb6 hg_ hnew_; clear hg_ hnew_; have RF := Aside0.mk ho6; have HF := Aside0.mk hb6; clear ho6 hb6))
      go_roundg (l1.length - (y + 1).toNat)
      case measure => omega
      case rel =>
       have et : (y + 1).toNat = y.toNat + 1 := by omega
       exact ⟨y + 1, O' ++ U, by first | rfl | (simp; done), by omega, by omega, by omega, RF, HF, ⟨by rw [et, HO'.out]; exact HR2.out⟩, ⟨by rw [List.length_append, HOL.out, HUL.out, HN.out, et, Nat.pow_succ]; omega⟩⟩
   ·have he : wts k a0 (l1.drop y.toNat) O = some O := by rw [List.drop_eq_nil_of_le (by omega)]; rfl
    have hO : O = r := Option.some.inj (he.symm.trans HT.out)
    subst hO
    clear he HT
    go_wp2
    go_ret
    exact ⟨_, rfl, RO.out, HB.out⟩
end Go.Proofs.Ytoaepfgfbfgcdaa.Q
namespace Go.Proofs.Ytoaepfgfbfgcdaa.Q
open Go.RowKit Go.Proofs.YtoaepfgfbfgcdaaW.PrintWords Go.Proofs.YtoaepfgfbfgcdaaW.PrintLast Go.Proofs.YtoaepfgfbfgcdaaW.PrintMore
attribute [local go_sem] max2_int min2_int max_two min_two max_three min_three max_four min_four
set_option linter.unusedVariables false
set_option linter.unusedSimpArgs false
set_option maxHeartbeats 2000000 in
set_option maxRecDepth 100000 in
theorem zero_Sum.lit (a0 h l : Int) (B : Nat) (w : World) (hB : B < w.heap.size) (hc : w.cell? ⟨B, 0, none⟩ = some (.int .i64 a0)) :
  Calls Try.prog 80 #[.agg #[.int .u64 h, .int .u64 l], .pointer (some ⟨B, 0, none⟩)] w fun e w' => e = .returned (.bool (!ofB a0 h l)) ∧ Below w.heap.size w w' := by
 have hu28 := Try.underlying28
 go_enter Try.func80, Try.ntmps80
 go_wp2_with fail
 refine (octet_Of.calls a0 h l _ _ rfl).mono ?_
 rintro e w1 ⟨rfl, hb1⟩
 go_wp2
 go_ret
 exact ⟨rfl, ((Below.refl _ _).alloc (Nat.le_refl _) _).trans (hb1.mono (by simp))⟩
def zero_Sum.f (k : Nat) (a0 : Int) (l1 : List (List (S149))) (l2 : List (List (S28))) (a3_0 : Int) (a3_1 : Int) (l4 : List (S28)) : Option (Int × Int × Int) := (zero_ask.f k a0 l1 l2).bind fun e => if e = 0 then (zero_Mix.f k a0 (l2.length : Int) l1 a3_0 a3_1).bind fun m => (if m.2 = 0 then (if 0 < l2.length then (cube_Log.f k ((rdR l2 0).length : Int)).bind fun n => (if (l4.length : Int) = n then (if (l4.any fun x => !ofB a0 x.f0 x.f1) = true then some (0, 0, 5) else (cube_Weights.f k a0 l4).bind fun ws => (if (l2.length + 1) * 24 ≤ 140737488355328 then sumcheck_Sum.f k a0 m.1 (l2 ++ [ws]) else none)) else some (0, 0, 6)) else none) else some (0, 0, m.2)) else some (0, 0, e)
set_option maxHeartbeats 8000000 in
set_option maxRecDepth 100000 in
theorem zero_Sum.calls (k : Nat) (a0 : Int) (A1 : Option Addr) (c1 : Nat) (l1 : List (List (S149))) (A2 : Option Addr) (c2 : Nat) (l2 : List (List (S28))) (a3_0 : Int) (a3_1 : Int) (A4 : Option Addr) (c4 : Nat) (l4 : List (S28)) (r1 : Int) (r2 : Int) (r3 : Int) (w : World) (hr1 : Kd.C (Kd.slice 149 k149) w A1 l1.length l1) (hc1 : l1.length ≤ c1) (hr2 : Kd.C (Kd.slice 28 k28) w A2 l2.length l2) (hc2 : l2.length ≤ c2) (hr4 : Kd.C k28 w A4 l4.length l4) (hc4 : l4.length ≤ c4) (h : zero_Sum.f k a0 l1 l2 a3_0 a3_1 l4 = some (r1, r2, r3)) :
  Calls Try.prog 33 #[.int .i64 a0, .slice A1 l1.length c1, .slice A2 l2.length c2, .agg #[.int .u64 a3_0, .int .u64 a3_1], .slice A4 l4.length c4] w fun e w' => e = .returned (.tuple #[.agg #[.int .u64 r1, .int .u64 r2], .int .i64 r3]) ∧ Below w.heap.size w w' := by
 unfold zero_Sum.f at h
 have hm2 : l2.length ≤ 9223372036854775807 := hr2.2.1
 have hm4 : l4.length ≤ 9223372036854775807 := hr4.2.1
 obtain ⟨e, he, h⟩ := Option.bind_eq_some_iff.mp h
 obtain ⟨W, hW⟩ : ∃ W, W = ((w.alloc (.cells #[.int .i64 a0] 3)).alloc (.cells #[.int .u64 a3_0, .int .u64 a3_1] 28)).alloc (.cells #[.int .u64 0, .int .u64 0] 28) := ⟨_, rfl⟩
 have hB : Below w.heap.size w W := by rw [hW]; exact ((((Below.refl _ _).alloc (Nat.le_refl _) _).alloc (by simp) _).alloc (by simp; omega) _)
 have hs : w.heap.size + 2 < W.heap.size := by rw [hW]; simp
 have BL := Aside0.mk (show W.heap[w.heap.size]? = some (.cells #[.int .i64 a0] 3 (0, 0)) by rw [hW]; exact blk_below (blk_below (blk_new w _) ((Below.refl _ _).alloc (Nat.le_refl _) _)) ((Below.refl _ _).alloc (Nat.le_refl _) _))
 have BA := Aside0.mk (show W.heap[w.heap.size + 1]? = some (.cells #[.int .u64 a3_0, .int .u64 a3_1] 28 (0, 0)) by rw [hW]; exact blk_below (by have h_ := blk_new (w.alloc (.cells #[.int .i64 a0] 3)) (.cells #[.int .u64 a3_0, .int .u64 a3_1] 28); rw [World.size_alloc] at h_; exact h_) ((Below.refl _ _).alloc (Nat.le_refl _) _))
 have BR := Aside0.mk (show W.heap[w.heap.size + 2]? = some (.cells #[.int .u64 0, .int .u64 0] 28 (0, 0)) by rw [hW]; have h_ := blk_new ((w.alloc (.cells #[.int .i64 a0] 3)).alloc (.cells #[.int .u64 a3_0, .int .u64 a3_1] 28)) (.cells #[.int .u64 0, .int .u64 0] 28); rw [World.size_alloc, World.size_alloc] at h_; exact h_)
 have HW := Aside0.mk hW
 have HB := Aside0.mk hB
 have HS := Aside0.mk hs
 have H1 := Aside0.mk (Kd.C_below hr1 hB)
 have H2 := Aside0.mk (Kd.C_below hr2 hB)
 have H4 := Aside0.mk (Kd.C_below hr4 hB)
 have HK1 := Aside0.mk hc1
 have HK2 := Aside0.mk hc2
 have HK4 := Aside0.mk hc4
 have HE := Aside0.mk (zero_ask.calls k a0 A1 c1 l1 A2 c2 l2 e W H1.out hc1 H2.out hc2 he)
 clear hW hB hs hr1 hr2 hr4 he hc1 hc2 hc4
 have hu28 := Try.underlying28
 obtain ⟨gl, hgl⟩ : ∃ g, g = w.heap.size := ⟨_, rfl⟩
 obtain ⟨ga, hga⟩ : ∃ g, g = w.heap.size + 1 := ⟨_, rfl⟩
 obtain ⟨gr, hgr⟩ : ∃ g, g = w.heap.size + 2 := ⟨_, rfl⟩
 have hgr1 : w.heap.size + 1 + 1 = gr := by omega
 rw [← hgl] at BL
 rw [← hga] at BA
 rw [← hgr] at BR
 have bl : w.heap.size ≤ gr := by omega
 have BLE := Aside0.mk bl
 have HGL := Aside0.mk hgl
 have HGA := Aside0.mk hga
 have HGR := Aside0.mk hgr1
 clear hgl hga hgr hgr1 bl
 have lc := blk_cell BL.out 0
 have ac0 := blk_cell BA.out 0
 have ac1 := blk_cell BA.out 1
 by_cases he1 : ¬ e = 0
 ·have he0 := he1
  clear he1
  rw [if_neg he0] at h
  obtain ⟨rfl, rfl, rfl⟩ : 0 = r1 ∧ 0 = r2 ∧ e = r3 := by simpa using h
  have hb1 : (e != 0) = true := bne_iff_ne.mpr he0
  clear h he0
  go_enter Try.func33, Try.ntmps33
  go_wp2_with fail
  rw [← HW.out, HGR.out, ← HGA.out, ← HGL.out]
  clear HW
  go_wp2_with fail
  refine HE.out.mono ?_
  rintro e1 w1 ⟨rfl, hbb⟩
  clear HE
  have BR1 := Aside0.mk (blk_below BR.out hbb)
  have HB1 := Aside0.mk (below_step HB.out hbb)
  clear hbb
  have fr0 := blk_frozen BR1.out 0
  have fr1 := blk_frozen BR1.out 1
  have ce0 := (blk_cell BR1.out 0).trans (show _ = some (Value.int .u64 0) from rfl)
  have ce1 := (blk_cell BR1.out 1).trans (show _ = some (Value.int .u64 0) from rfl)
  go_wp2
  refine bodyPost_ret (results_ct rfl _ _ gr 28 #[.int .u64 0, .int .u64 0] (0, 0) _ rfl (blk_put (blk_put (cs := #[.int .u64 0, .int .u64 0]) BR1.out 0 _ rfl) 1 _ rfl) Try.underlying28 rfl (by kernel_rfl)) rfl ?_
  exact ⟨rfl, (HB1.out.setCell (p := ⟨gr, 0, none⟩) BLE.out _).setCell (p := ⟨gr, 1, none⟩) BLE.out _⟩
 obtain rfl : e = 0 := Decidable.byContradiction he1
 clear he1
 rw [if_pos rfl] at h
 obtain ⟨⟨ml, me⟩, hmx, h⟩ := Option.bind_eq_some_iff.mp h
 have HM := Aside0.mk (fun W1 (hb1 : Below W.heap.size W W1) => zero_Mix.calls k a0 (l2.length : Int) A1 c1 l1 a3_0 a3_1 ml me W1 (Kd.C_below H1.out hb1) HK1.out hmx)
 clear hmx
 by_cases hm1 : ¬ me = 0
 ·have he0 := hm1
  clear hm1
  rw [if_neg he0] at h
  obtain ⟨rfl, rfl, rfl⟩ : 0 = r1 ∧ 0 = r2 ∧ me = r3 := by simpa using h
  have hb1 : (me != 0) = true := bne_iff_ne.mpr he0
  clear h he0
  go_enter Try.func33, Try.ntmps33
  go_wp2_with fail
  rw [← HW.out, HGR.out, ← HGA.out, ← HGL.out]
  clear HW
  go_wp2_with fail
  refine HE.out.mono ?_
  rintro e1 w1 ⟨rfl, hbb⟩
  clear HE
  have BL1 := Aside0.mk (blk_below BL.out hbb)
  have BA1 := Aside0.mk (blk_below BA.out hbb)
  have BR1 := Aside0.mk (blk_below BR.out hbb)
  have HB1 := Aside0.mk (below_step HB.out hbb)
  have HBB := Aside0.mk hbb
  clear hbb lc ac0 ac1
  have lc := blk_cell BL1.out 0
  have ac0 := blk_cell BA1.out 0
  have ac1 := blk_cell BA1.out 1
  go_wp2_with fail
  refine (HM.out _ HBB.out).mono ?_
  rintro e2 w2 ⟨v2, rfl, hR2, hb2⟩
  clear HM lc ac0 ac1
  have BR2 := Aside0.mk (blk_below BR1.out hb2)
  have HB2 := Aside0.mk (below_step HB1.out hb2)
  clear hb2 hR2
  have fr0 := blk_frozen BR2.out 0
  have fr1 := blk_frozen BR2.out 1
  have ce0 := (blk_cell BR2.out 0).trans (show _ = some (Value.int .u64 0) from rfl)
  have ce1 := (blk_cell BR2.out 1).trans (show _ = some (Value.int .u64 0) from rfl)
  go_wp2
  refine bodyPost_ret (results_ct rfl _ _ gr 28 #[.int .u64 0, .int .u64 0] (0, 0) _ rfl (blk_put (blk_put (cs := #[.int .u64 0, .int .u64 0]) BR2.out 0 _ rfl) 1 _ rfl) Try.underlying28 rfl (by kernel_rfl)) rfl ?_
  exact ⟨rfl, (HB2.out.setCell (p := ⟨gr, 0, none⟩) BLE.out _).setCell (p := ⟨gr, 1, none⟩) BLE.out _⟩
 obtain rfl : me = 0 := Decidable.byContradiction hm1
 clear hm1
 rw [if_pos rfl] at h
 by_cases hl : ¬ 0 < l2.length
 ·rw [if_neg hl] at h; cases h
 have hl1 : 0 < l2.length := by omega
 clear hl
 rw [if_pos hl1] at h
 have HL := Aside0.mk hl1
 clear hl1
 obtain ⟨n, hn, h⟩ := Option.bind_eq_some_iff.mp h
 have HN := Aside0.mk (fun W1 => cube_Log.calls k ((rdR l2 0).length : Int) n W1 hn)
 clear hn
 obtain ⟨ad, A0, c0, e, hx0, hlc, _⟩ := at_rows H2.out 0 (by omega) (by have := HL.out; omega)
 cases e
 have hx1 : W.cell? ad = some (.slice A0 (rdR l2 0).length c0) := hx0
 clear hx0
 have q0 : (0 : Int) < (l2.length : Int) := by have := HL.out; omega
 have q1 := eq_true q0
 go_enter Try.func33, Try.ntmps33
 go_wp2_with fail
 rw [← HW.out, HGR.out, ← HGA.out, ← HGL.out]
 clear HW
 go_wp2_with fail
 refine HE.out.mono ?_
 rintro e1 w1 ⟨rfl, hbb⟩
 clear HE
 have BL1 := Aside0.mk (blk_below BL.out hbb)
 have BA1 := Aside0.mk (blk_below BA.out hbb)
 have BR1 := Aside0.mk (blk_below BR.out hbb)
 have HB1 := Aside0.mk (below_step HB.out hbb)
 have HBB := Aside0.mk hbb
 have HX1 := Aside0.mk ((hbb.cell (World.block_lt_of_cell? W _ hx1)).trans hx1)
 clear hbb lc ac0 ac1 hx1
 have lc := blk_cell BL1.out 0
 have ac0 := blk_cell BA1.out 0
 have ac1 := blk_cell BA1.out 1
 go_wp2_with fail
 refine (HM.out _ HBB.out).mono ?_
 rintro e2 w2 ⟨v2, rfl, hR2, hb2⟩
 clear HM lc ac0 ac1
 have BL2 := Aside0.mk (blk_below BL1.out hb2)
 have BR2 := Aside0.mk (blk_below BR1.out hb2)
 have HB2 := Aside0.mk (below_step HB1.out hb2)
 have HBC := Aside0.mk (below_step HBB.out hb2)
 have RM := Aside0.mk hR2
 have hx2 := (hb2.cell (World.block_lt_of_cell? w1 _ HX1.out)).trans HX1.out
 clear hb2 hR2 BL1 BA1 BR1 HB1 HBB HX1
 go_wp2_with fail
 refine (HN.out _).mono ?_
 rintro e3 w3 ⟨rfl, hd3⟩
 clear HN hx2
 have BL3 := Aside0.mk (blk_below BL2.out hd3.below)
 have BR3 := Aside0.mk (blk_below BR2.out hd3.below)
 have HB3 := Aside0.mk (below_step HB2.out hd3.below)
 have HBD := Aside0.mk (below_step HBC.out hd3.below)
 have RM3 := Aside0.mk (Kd.R_below RM.out hd3.below)
 clear hd3 BL2 BR2 HB2 HBC RM
 by_cases hn1 : ¬ (l4.length : Int) = n
 ·have hn0 := hn1
  clear hn1
  rw [if_neg hn0] at h
  obtain ⟨rfl, rfl, rfl⟩ : 0 = r1 ∧ 0 = r2 ∧ (6 : Int) = r3 := by simpa using h
  have hb1 : ((l4.length : Int) != n) = true := bne_iff_ne.mpr hn0
  clear h hn0
  have fr0 := blk_frozen BR3.out 0
  have fr1 := blk_frozen BR3.out 1
  have ce0 := (blk_cell BR3.out 0).trans (show _ = some (Value.int .u64 0) from rfl)
  have ce1 := (blk_cell BR3.out 1).trans (show _ = some (Value.int .u64 0) from rfl)
  go_wp2
  refine bodyPost_ret (results_ct rfl _ _ gr 28 #[.int .u64 0, .int .u64 0] (0, 0) _ rfl (blk_put (blk_put (cs := #[.int .u64 0, .int .u64 0]) BR3.out 0 _ rfl) 1 _ rfl) Try.underlying28 rfl (by kernel_rfl)) rfl ?_
  exact ⟨rfl, (HB3.out.setCell (p := ⟨gr, 0, none⟩) BLE.out _).setCell (p := ⟨gr, 1, none⟩) BLE.out _⟩
 have hn0 : (l4.length : Int) = n := Decidable.byContradiction hn1
 clear hn1
 rw [if_pos hn0] at h
 have hb1 : ((l4.length : Int) != n) = false := by rw [hn0]; simp
 clear hn0
 have HC := Aside0.mk (has_Elem (fun x => !ofB a0 x.f0 x.f1) 80 #[.pointer (some ⟨gl, 0, none⟩)] A4 c4 l4 w3 (Kd.C_below H4.out HBD.out) (fun args w => by kernel_rfl)
  (fun W2 x hb2 => (zero_Sum.lit a0 x.f0 x.f1 gl W2 (blk_lt (blk_below BL3.out hb2)) (blk_cell (blk_below BL3.out hb2) 0)).mono fun e w' ⟨he, hb'⟩ => ⟨he, hb2.trans (hb'.mono hb2.size)⟩))
 obtain ⟨q, hq⟩ : ∃ q, (l4.any fun x => !ofB a0 x.f0 x.f1) = q := ⟨_, rfl⟩
 rw [hq] at h HC
 clear hq
 cases q with
 | true =>
  rw [if_pos rfl] at h
  obtain ⟨rfl, rfl, rfl⟩ : 0 = r1 ∧ 0 = r2 ∧ (5 : Int) = r3 := by simpa using h
  clear h
  go_wp2_with fail
  refine HC.out.mono ?_
  rintro e4 w4 ⟨rfl, hb4⟩
  clear HC
  have BR4 := Aside0.mk (blk_below BR3.out hb4)
  have HB4 := Aside0.mk (below_step HB3.out hb4)
  clear hb4
  have fr0 := blk_frozen BR4.out 0
  have fr1 := blk_frozen BR4.out 1
  have ce0 := (blk_cell BR4.out 0).trans (show _ = some (Value.int .u64 0) from rfl)
  have ce1 := (blk_cell BR4.out 1).trans (show _ = some (Value.int .u64 0) from rfl)
  go_wp2
  refine bodyPost_ret (results_ct rfl _ _ gr 28 #[.int .u64 0, .int .u64 0] (0, 0) _ rfl (blk_put (blk_put (cs := #[.int .u64 0, .int .u64 0]) BR4.out 0 _ rfl) 1 _ rfl) Try.underlying28 rfl (by kernel_rfl)) rfl ?_
  exact ⟨rfl, (HB4.out.setCell (p := ⟨gr, 0, none⟩) BLE.out _).setCell (p := ⟨gr, 1, none⟩) BLE.out _⟩
 | false =>
  rw [if_neg (by simp)] at h
  obtain ⟨ws, hws, h⟩ := Option.bind_eq_some_iff.mp h
  by_cases hz : ¬ (l2.length + 1) * 24 ≤ 140737488355328
  ·rw [if_neg hz] at h; cases h
  have hz1 : (l2.length + 1) * 24 ≤ 140737488355328 := by omega
  clear hz
  rw [if_pos hz1] at h
  have HZ := Aside0.mk hz1
  have HH := Aside0.mk h
  have HWT := Aside0.mk (fun W1 (hb1 : Below W.heap.size W W1) => cube_Weights.calls k a0 A4 c4 l4 ws W1 (Kd.C_below H4.out hb1) HK4.out hws)
  have HCL := Aside0.mk (fun W1 (hb1 : Below W.heap.size W W1) => clone_rows W (some ad) c2 l2 W1 hb1 H2.out (by omega))
  clear hz1 h hws
  go_wp2_with fail
  refine HC.out.mono ?_
  rintro e4 w4 ⟨rfl, hb4⟩
  clear HC
  have BL4 := Aside0.mk (blk_below BL3.out hb4)
  have BR4 := Aside0.mk (blk_below BR3.out hb4)
  have HB4 := Aside0.mk (below_step HB3.out hb4)
  have HBD4 := Aside0.mk (below_step HBD.out hb4)
  have RM4 := Aside0.mk (Kd.R_below RM3.out hb4)
  clear hb4 BL3 BR3 HB3 HBD RM3
  have lc := blk_cell BL4.out 0
  have hs1 := blk_lt BL4.out
  have HBW := Aside0.mk HB4.out.size
  go_wp2_with fail
  go_region_held3 (fun w' => w'.cell? ⟨gl, 0, none⟩ = some (.int .i64 a0))
   (first | go_keep | (exact (hbd.cell (p := ⟨gl, 0, none⟩) (by first | exact hs1 | exact hs2 | exact hs3)).trans (by assumption)))
   (first
    | ((go_at_call 82; refine (HCL.out _ ?_).mono ?_; exact below_drew HBD4.out; rintro e5 w5 ⟨v5, rfl, hR5, hbd⟩; have HR5 := Aside0.mk hR5; have HB5 := Aside0.mk hbd; have hs2 : gl < w5.heap.size := Nat.lt_of_lt_of_le hs1 hbd.size; clear hR5))
    | ((go_at_call 83; refine (HWT.out _ ?_).mono ?_; exact below_step (below_drew HBD4.out) HB5.out; rintro e6 w6 ⟨v6, rfl, hR6, hbd⟩; obtain ⟨A6, c6, rfl⟩ := Kd.R_slice hR6; have HR6 := Aside0.mk (Kd.R_lower (Kd.R_new' hR6 (Kd.R_lt HR5.out)) HB5.out.size); have HR5b := Aside0.mk (Kd.R_below HR5.out hbd); have HB6 := Aside0.mk (below_step HB5.out hbd); have hs3 : gl < w6.heap.size := Nat.lt_of_lt_of_le hs2 hbd.size; clear hR6))
    | ((refine Kd.R_append_step (Kd.mix 28 k28 k28 W) (w0 := w4.drew) w4.drew.heap.size (by rfl) (.tmp 53) (.tmp 57) 42 53 (.slice none 0 0) 24 rfl Try.underlying42 info53 rfl (show 0 < 1 from by decide) (by omega) v5 l2 ws [.slice A6 ws.length c6] (fun _ => True) (fun k => True ∧ some k ≠ v5.ownBlock) rfl rfl (Kd.mix_made HR6.out) (fun _ hk => hk) (fun _ _ => trivial) HR5b.out HB6.out HB6.out.size HZ.out ?_; intro v7 w7 ho7 hbd hg7 hat7; have HR7 := Aside0.mk ho7; have HB7 := Aside0.mk hbd; clear ho7 hg7 hat7)))
  have BL7 := Aside0.mk (blk_below (blk_drew BL4.out) HB7.out)
  have BR7 := Aside0.mk (blk_below (blk_drew BR4.out) HB7.out)
  have HBF := Aside0.mk (below_step (below_drew HB4.out) HB7.out)
  have HBD7 := Aside0.mk (below_step (below_drew HBD4.out) HB7.out)
  obtain ⟨A2', c2', rfl, hlm, hCm⟩ := Kd.R_reads (Kd.R_below (Kd.R_drew RM4.out) HB7.out)
  obtain ⟨L, hL⟩ : ∃ L, L = l2 ++ [ws] := ⟨_, rfl⟩
  rw [← hL] at HR7 HH
  obtain ⟨A7, c7, rfl, hl7, hC7⟩ := Kd.R_reads HR7.out
  clear hL
  have hC8 : Kd.C (Kd.slice 28 k28) w7 A7 L.length L := Kd.C_read (d := Kd.slice 28 k28) (dm := Kd.mix 28 k28 k28 W) rfl (fun x cs h => Kd.mix_read rfl (fun _ _ h => h) HBD7.out h) hC7
  have HS := Aside0.mk (sumcheck_Sum.calls k a0 A2' c2' ml A7 c7 L r1 r2 r3 w7 hCm hlm hC8 hl7 HH.out)
  clear hbd hs1 hs2 hs3 hCm hlm hC8 hl7 hC7 HR7 HR6 HR5 HR5b HB6 HB5 HH HCL HWT HB7 lc
  have lc := blk_cell BL7.out 0
  go_wp2_with fail
  refine HS.out.mono ?_
  rintro e8 w8 ⟨rfl, hb8⟩
  clear HS
  have BR8 := Aside0.mk (blk_below BR7.out hb8)
  have HB8 := Aside0.mk (below_step HBF.out hb8)
  clear hb8
  have fr0 := blk_frozen BR8.out 0
  have fr1 := blk_frozen BR8.out 1
  have ce0 := (blk_cell BR8.out 0).trans (show _ = some (Value.int .u64 0) from rfl)
  have ce1 := (blk_cell BR8.out 1).trans (show _ = some (Value.int .u64 0) from rfl)
  go_wp2
  refine bodyPost_ret (results_ct rfl _ _ gr 28 #[.int .u64 r1, .int .u64 r2] (0, 0) _ rfl (blk_put (blk_put (cs := #[.int .u64 0, .int .u64 0]) BR8.out 0 _ rfl) 1 _ rfl) Try.underlying28 rfl (by kernel_rfl)) rfl ?_
  exact ⟨rfl, (HB8.out.setCell (p := ⟨gr, 0, none⟩) BLE.out _).setCell (p := ⟨gr, 1, none⟩) BLE.out _⟩
end Go.Proofs.Ytoaepfgfbfgcdaa.Q
