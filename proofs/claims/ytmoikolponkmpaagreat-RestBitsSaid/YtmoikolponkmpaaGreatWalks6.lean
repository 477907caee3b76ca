/- Each Go function of this seat computes what its model says, part 6. -/
import Derived.Test.YtmoikolponkmpaaGreatWalks5
namespace Go.Proofs.YtmoikolponkmpaaGreat
open Go SX
set_option maxHeartbeats 4000000 in
theorem qim (F : Nat) (x1 : Int) (x2 : List Int) (a3 : Option Addr) (c4 : Nat) (x5 : Int) (x6 : List Int) (a7 : Option Addr) (c8 : Nat) (x9 : Int) (x10 : List Int) (a11 : Option Addr) (c12 : Nat) (x13 : List Int) (a14 : Option Addr) (c15 : Nat) (x16 : Int) (r : Bool) (hm : qdx F x1 x2 x5 x6 x9 x10 x13 x16 = some r) :
    Pure Tryz.prog 4 [.agg #[.int .i64 x1, .slice a3 x2.length c4], .agg #[.int .i64 x5, .slice a7 x6.length c8], .int .u64 x9, .slice a11 x10.length c12, .slice a14 x13.length c15, .int .i64 x16] [Sl (eI .u8) 1 (.slice a3 x2.length c4) x2, Sl (eI .u8) 1 (.slice a7 x6.length c8) x6, Sl (eI .i64) 1 (.slice a11 x10.length c12) x10, Sl (eI .u64) 1 (.slice a14 x13.length c15) x13] Unit (fun _ => .bool r) (fun _ => []) (fun _ => []) := by
 refine qk Tryz.func4 rfl Tryz.ntmps4 rfl hm (fun w => qoc ?_)
 refine au [3,5,24,6] ?_
 intro g17
 refine au [24,6] ?_
 intro g18
 refine au [4,0,2] ?_
 refine qm (fun (((x156, x157, x160, x161, x164), (g152, g153, a154, c155, a158, c159, a162, c163)) : (((List Int × List Int) × Int × (List Int × List Int) × Int × (List Int × List Int)) × (Nat × Nat × Option Addr × Nat × Option Addr × Nat × Option Addr × Nat))) => ([(2, .int .u64 x9), (3, .slice a11 x10.length c12), (4, .slice a14 x13.length c15), (5, .int .i64 x16), (6, .pointer (some ⟨g17, 0, none⟩)), (7, .pointer (some ⟨g18, 0, none⟩)), (13, .pointer (some ⟨g152, 0, none⟩)), (14, .pointer (some ⟨g153, 0, none⟩)), (15, .slice a154 x156.1.length c155)], [⟨g18, 25, [.int .i64 x5, .slice a7 x6.length c8]⟩, ⟨g17, 25, [.int .i64 x1, .slice a3 x2.length c4]⟩, ⟨g152, 25, [.int .i64 x157, .slice a158 x160.1.length c159]⟩, ⟨g153, 25, [.int .i64 x161, .slice a162 x164.1.length c163]⟩], [Ro (eI .i64) 3 1 (.slice a154 (x156.1 ++ x156.2).length c155) (x156.1 ++ x156.2), Ro (eI .u8) 5 1 (.slice a158 (x160.1 ++ x160.2).length c159) (x160.1 ++ x160.2), Ro (eI .u8) 5 1 (.slice a162 (x164.1 ++ x164.2).length c163) (x164.1 ++ x164.2)], [Sl (eI .i64) 1 (.slice a11 x10.length c12) x10, Sl (eI .u64) 1 (.slice a14 x13.length c15) x13, Sl (eI .u8) 1 (.slice a7 x6.length c8) x6, Sl (eI .u8) 1 (.slice a3 x2.length c4) x2], qG F x1 x2 x5 x6 x9 x10 x13 x16 x156 x157 x160 x161 x164)) ?_ ?_
 refine qT mixed [] [⟨g18, 25, [.int .i64 x5, .slice a7 x6.length c8]⟩, ⟨g17, 25, [.int .i64 x1, .slice a3 x2.length c4]⟩] [Sl (eI .u8) 1 (.slice a3 x2.length c4) x2, Sl (eI .u8) 1 (.slice a7 x6.length c8) x6, Sl (eI .i64) 1 (.slice a11 x10.length c12) x10, Sl (eI .u64) 1 (.slice a14 x13.length c15) x13] (.cons 0 rfl (.cons 0 rfl .nil)) (qz 0 rfl (qz 1 rfl (qz 2 rfl (qz 3 rfl qL)))) 11 rfl (zJ 0 (.agg #[.int .i64 x1, .slice a3 x2.length c4]) rfl rfl rfl (zQ (i := 1) rfl tf25 rfl rfl (by simp) rfl) (zJ 2 (.agg #[.int .i64 x5, .slice a7 x6.length c8]) rfl rfl rfl (zQ (i := 0) rfl tf25 rfl rfl (by simp) rfl) ?_))
 refine au [11,4] ?_
 refine qfT 1 6 7 rfl rfl rfl (by kernel_rfl) rfl rfl rfl ?_ ?_ ?_
 refine au [26,3] ?_
 rintro x3711 e3711 ⟨a3712, c3713⟩
 refine au [0,27,2] ?_
 refine qfT 3 6 7 rfl rfl rfl (by kernel_rfl) rfl rfl rfl ?_ ?_ ?_
 refine au [26,3] ?_
 rintro x3714 e3714 ⟨a3715, c3716⟩
 refine au [0,27,2] ?_
 refine qfT 5 6 7 rfl rfl rfl (by kernel_rfl) rfl rfl rfl ?_ ?_ ?_
 refine au [25,15] ?_
 rintro x3717 e3717 ⟨a3718, c3719⟩
 refine au [0,27,2] ?_
 refine yI 6 7 rfl rfl (by kernel_rfl) rfl rfl ?_ ?_
 refine au [23] ?_
 intro g3720
 refine au [0,25,12,17,7,23] ?_
 intro g3721
 refine au [0,24,1,17,8,25,6,0,24,1,17,9,22,0,24,1,11,10,24,7] ?_
 exact qR (qc ((x3717, x3711.1, x3711.2, x3714.1, x3714.2), (g3720, g3721, a3718, c3719, a3712, c3713, a3715, c3716))) (by intro c h; cases h)
 refine kj (m' := qG F x1 x2 x5 x6 x9 x10 x13 x16 x3717 x3711.1 x3711.2 x3714.1 x3714.2) (rfl) ?_
 refine au [23] ?_
 intro g3722
 refine au [0,25,12,17,6,23] ?_
 intro g3723
 refine au [0,24,1,17,8,22,0,24,1,17,9,25,6,0,24,1,11,10,24,7] ?_
 exact qR (qc ((x3717, x3711.1, x3711.2, x3714.1, x3714.2), (g3723, g3722, a3718, c3719, a3712, c3713, a3715, c3716))) (by intro c h; cases h)
 refine kj (m' := ((zt F x10).bind fun x3725 => qG F x1 x2 x5 x6 x9 x10 x13 x16 x3725 x3711.1 x3711.2 x3714.1 x3714.2)) (rfl) ?_
 refine au [23] ?_
 intro g3724
 refine au [0,25,12] ?_
 refine yI 5 7 rfl rfl (by kernel_rfl) rfl rfl ?_ ?_
 refine au [25,15] ?_
 rintro x3725 e3725 ⟨a3726, c3727⟩
 refine au [0,25,12,17,7,23] ?_
 intro g3728
 refine au [0,24,1,17,8,25,6,0,24,1,17,9,22,0,24,1,11,10,24,7] ?_
 exact qR (qc ((x3725, x3711.1, x3711.2, x3714.1, x3714.2), (g3724, g3728, a3726, c3727, a3712, c3713, a3715, c3716))) (by intro c h; cases h)
 refine kj (m' := ((zt F x10).bind fun x3730 => qG F x1 x2 x5 x6 x9 x10 x13 x16 x3730 x3711.1 x3711.2 x3714.1 x3714.2)) (rfl) ?_
 refine au [23] ?_
 intro g3729
 refine au [0,24,1,17,5,25,15] ?_
 rintro x3730 e3730 ⟨a3731, c3732⟩
 refine au [0,24,1,17,8,25,6,0,24,1,17,9,22,0,24,1,11,10,24,7] ?_
 exact qR (qc ((x3730, x3711.1, x3711.2, x3714.1, x3714.2), (g3724, g3729, a3731, c3732, a3712, c3713, a3715, c3716))) (by intro c h; cases h)
 refine kj (m' := ((zt F x10).bind fun x3734 => qG F x1 x2 x5 x6 x9 x10 x13 x16 x3734 x3711.1 x3711.2 x3714.1 x3714.2)) (rfl) ?_
 refine au [23] ?_
 intro g3733
 refine au [0,25,12] ?_
 refine yI 5 6 rfl rfl (by kernel_rfl) rfl rfl ?_ ?_
 refine au [25,15] ?_
 rintro x3734 e3734 ⟨a3735, c3736⟩
 refine au [0,25,12,17,6,23] ?_
 intro g3737
 refine au [0,24,1,17,8,22,0,24,1,17,9,25,6,0,24,1,11,10,24,7] ?_
 exact qR (qc ((x3734, x3711.1, x3711.2, x3714.1, x3714.2), (g3737, g3733, a3735, c3736, a3712, c3713, a3715, c3716))) (by intro c h; cases h)
 refine kj (m' := ((zt F x10).bind fun x3739 => qG F x1 x2 x5 x6 x9 x10 x13 x16 x3739 x3711.1 x3711.2 x3714.1 x3714.2)) (rfl) ?_
 refine au [23] ?_
 intro g3738
 refine au [0,24,1,17,5,25,15] ?_
 rintro x3739 e3739 ⟨a3740, c3741⟩
 refine au [0,24,1,17,8,22,0,24,1,17,9,25,6,0,24,1,11,10,24,7] ?_
 exact qR (qc ((x3739, x3711.1, x3711.2, x3714.1, x3714.2), (g3738, g3733, a3740, c3741, a3712, c3713, a3715, c3716))) (by intro c h; cases h)
 refine kj (m' := ((q6 F x5 x6).bind fun x3743 => ((zt F x10).bind fun x3746 => qG F x1 x2 x5 x6 x9 x10 x13 x16 x3746 x3711.1 x3711.2 x3743.1 x3743.2))) (rfl) ?_
 refine au [23] ?_
 intro g3742
 refine au [0,25,12] ?_
 refine yI 3 7 rfl rfl (by kernel_rfl) rfl rfl ?_ ?_
 refine au [26,3] ?_
 rintro x3743 e3743 ⟨a3744, c3745⟩
 refine au [0,25,12] ?_
 refine yI 5 7 rfl rfl (by kernel_rfl) rfl rfl ?_ ?_
 refine au [25,15] ?_
 rintro x3746 e3746 ⟨a3747, c3748⟩
 refine au [0,25,12,17,7,23] ?_
 intro g3749
 refine au [0,24,1,17,8,25,6,0,24,1,17,9,22,0,24,1,11,10,24,7] ?_
 exact qR (qc ((x3746, x3711.1, x3711.2, x3743.1, x3743.2), (g3742, g3749, a3747, c3748, a3712, c3713, a3744, c3745))) (by intro c h; cases h)
 refine kj (m' := ((zt F x10).bind fun x3751 => qG F x1 x2 x5 x6 x9 x10 x13 x16 x3751 x3711.1 x3711.2 x3743.1 x3743.2)) (rfl) ?_
 refine au [23] ?_
 intro g3750
 refine au [0,24,1,17,5,25,15] ?_
 rintro x3751 e3751 ⟨a3752, c3753⟩
 refine au [0,24,1,17,8,25,6,0,24,1,17,9,22,0,24,1,11,10,24,7] ?_
 exact qR (qc ((x3751, x3711.1, x3711.2, x3743.1, x3743.2), (g3742, g3750, a3752, c3753, a3712, c3713, a3744, c3745))) (by intro c h; cases h)
 refine kj (m' := ((q6 F x5 x6).bind fun x3755 => ((zt F x10).bind fun x3758 => qG F x1 x2 x5 x6 x9 x10 x13 x16 x3758 x3711.1 x3711.2 x3755.1 x3755.2))) (rfl) ?_
 refine au [23] ?_
 intro g3754
 refine au [0,24,1,17,3,26,3] ?_
 rintro x3755 e3755 ⟨a3756, c3757⟩
 refine au [0,24,1,17,5,25,15] ?_
 rintro x3758 e3758 ⟨a3759, c3760⟩
 refine au [0,24,1,17,8,25,6,0,24,1,17,9,22,0,24,1,11,10,24,7] ?_
 exact qR (qc ((x3758, x3711.1, x3711.2, x3755.1, x3755.2), (g3742, g3754, a3759, c3760, a3712, c3713, a3756, c3757))) (by intro c h; cases h)
 refine kj (m' := ((q6 F x5 x6).bind fun x3762 => ((zt F x10).bind fun x3765 => qG F x1 x2 x5 x6 x9 x10 x13 x16 x3765 x3711.1 x3711.2 x3762.1 x3762.2))) (rfl) ?_
 refine au [23] ?_
 intro g3761
 refine au [0,25,12] ?_
 refine yI 3 6 rfl rfl (by kernel_rfl) rfl rfl ?_ ?_
 refine au [26,3] ?_
 rintro x3762 e3762 ⟨a3763, c3764⟩
 refine au [0,25,12] ?_
 refine yI 5 6 rfl rfl (by kernel_rfl) rfl rfl ?_ ?_
 refine au [25,15] ?_
 rintro x3765 e3765 ⟨a3766, c3767⟩
 refine au [0,25,12,17,6,23] ?_
 intro g3768
 refine au [0,24,1,17,8,22,0,24,1,17,9,25,6,0,24,1,11,10,24,7] ?_
 exact qR (qc ((x3765, x3711.1, x3711.2, x3762.1, x3762.2), (g3768, g3761, a3766, c3767, a3712, c3713, a3763, c3764))) (by intro c h; cases h)
 refine kj (m' := ((zt F x10).bind fun x3770 => qG F x1 x2 x5 x6 x9 x10 x13 x16 x3770 x3711.1 x3711.2 x3762.1 x3762.2)) (rfl) ?_
 refine au [23] ?_
 intro g3769
 refine au [0,24,1,17,5,25,15] ?_
 rintro x3770 e3770 ⟨a3771, c3772⟩
 refine au [0,24,1,17,8,22,0,24,1,17,9,25,6,0,24,1,11,10,24,7] ?_
 exact qR (qc ((x3770, x3711.1, x3711.2, x3762.1, x3762.2), (g3769, g3761, a3771, c3772, a3712, c3713, a3763, c3764))) (by intro c h; cases h)
 refine kj (m' := ((q6 F x5 x6).bind fun x3774 => ((zt F x10).bind fun x3777 => qG F x1 x2 x5 x6 x9 x10 x13 x16 x3777 x3711.1 x3711.2 x3774.1 x3774.2))) (rfl) ?_
 refine au [23] ?_
 intro g3773
 refine au [0,24,1,17,3,26,3] ?_
 rintro x3774 e3774 ⟨a3775, c3776⟩
 refine au [0,24,1,17,5,25,15] ?_
 rintro x3777 e3777 ⟨a3778, c3779⟩
 refine au [0,24,1,17,8,22,0,24,1,17,9,25,6,0,24,1,11,10,24,7] ?_
 exact qR (qc ((x3777, x3711.1, x3711.2, x3774.1, x3774.2), (g3773, g3761, a3778, c3779, a3712, c3713, a3775, c3776))) (by intro c h; cases h)
 refine kj (m' := ((q6 F x1 x2).bind fun x3781 => ((q6 F x5 x6).bind fun x3784 => ((zt F x10).bind fun x3787 => qG F x1 x2 x5 x6 x9 x10 x13 x16 x3787 x3781.1 x3781.2 x3784.1 x3784.2)))) (rfl) ?_
 refine au [23] ?_
 intro g3780
 refine au [0,25,12] ?_
 refine yI 1 7 rfl rfl (by kernel_rfl) rfl rfl ?_ ?_
 refine au [26,3] ?_
 rintro x3781 e3781 ⟨a3782, c3783⟩
 refine au [0,25,12] ?_
 refine yI 3 7 rfl rfl (by kernel_rfl) rfl rfl ?_ ?_
 refine au [26,3] ?_
 rintro x3784 e3784 ⟨a3785, c3786⟩
 refine au [0,25,12] ?_
 refine yI 5 7 rfl rfl (by kernel_rfl) rfl rfl ?_ ?_
 refine au [25,15] ?_
 rintro x3787 e3787 ⟨a3788, c3789⟩
 refine au [0,25,12,17,7,23] ?_
 intro g3790
 refine au [0,24,1,17,8,25,6,0,24,1,17,9,22,0,24,1,11,10,24,7] ?_
 exact qR (qc ((x3787, x3781.1, x3781.2, x3784.1, x3784.2), (g3780, g3790, a3788, c3789, a3782, c3783, a3785, c3786))) (by intro c h; cases h)
 refine kj (m' := ((zt F x10).bind fun x3792 => qG F x1 x2 x5 x6 x9 x10 x13 x16 x3792 x3781.1 x3781.2 x3784.1 x3784.2)) (rfl) ?_
 refine au [23] ?_
 intro g3791
 refine au [0,24,1,17,5,25,15] ?_
 rintro x3792 e3792 ⟨a3793, c3794⟩
 refine au [0,24,1,17,8,25,6,0,24,1,17,9,22,0,24,1,11,10,24,7] ?_
 exact qR (qc ((x3792, x3781.1, x3781.2, x3784.1, x3784.2), (g3780, g3791, a3793, c3794, a3782, c3783, a3785, c3786))) (by intro c h; cases h)
 refine kj (m' := ((q6 F x5 x6).bind fun x3796 => ((zt F x10).bind fun x3799 => qG F x1 x2 x5 x6 x9 x10 x13 x16 x3799 x3781.1 x3781.2 x3796.1 x3796.2))) (rfl) ?_
 refine au [23] ?_
 intro g3795
 refine au [0,24,1,17,3,26,3] ?_
 rintro x3796 e3796 ⟨a3797, c3798⟩
 refine au [0,24,1,17,5,25,15] ?_
 rintro x3799 e3799 ⟨a3800, c3801⟩
 refine au [0,24,1,17,8,25,6,0,24,1,17,9,22,0,24,1,11,10,24,7] ?_
 exact qR (qc ((x3799, x3781.1, x3781.2, x3796.1, x3796.2), (g3780, g3795, a3800, c3801, a3782, c3783, a3797, c3798))) (by intro c h; cases h)
 refine kj (m' := ((q6 F x1 x2).bind fun x3803 => ((q6 F x5 x6).bind fun x3806 => ((zt F x10).bind fun x3809 => qG F x1 x2 x5 x6 x9 x10 x13 x16 x3809 x3803.1 x3803.2 x3806.1 x3806.2)))) (rfl) ?_
 refine au [23] ?_
 intro g3802
 refine au [0,24,1,17,1,26,3] ?_
 rintro x3803 e3803 ⟨a3804, c3805⟩
 refine au [0,24,1,17,3,26,3] ?_
 rintro x3806 e3806 ⟨a3807, c3808⟩
 refine au [0,24,1,17,5,25,15] ?_
 rintro x3809 e3809 ⟨a3810, c3811⟩
 refine au [0,24,1,17,8,25,6,0,24,1,17,9,22,0,24,1,11,10,24,7] ?_
 exact qR (qc ((x3809, x3803.1, x3803.2, x3806.1, x3806.2), (g3780, g3802, a3810, c3811, a3804, c3805, a3807, c3808))) (by intro c h; cases h)
 refine kj (m' := ((q6 F x1 x2).bind fun x3813 => ((q6 F x5 x6).bind fun x3816 => ((zt F x10).bind fun x3819 => qG F x1 x2 x5 x6 x9 x10 x13 x16 x3819 x3813.1 x3813.2 x3816.1 x3816.2)))) (rfl) ?_
 refine au [23] ?_
 intro g3812
 refine au [0,25,12] ?_
 refine yI 1 6 rfl rfl (by kernel_rfl) rfl rfl ?_ ?_
 refine au [26,3] ?_
 rintro x3813 e3813 ⟨a3814, c3815⟩
 refine au [0,25,12] ?_
 refine yI 3 6 rfl rfl (by kernel_rfl) rfl rfl ?_ ?_
 refine au [26,3] ?_
 rintro x3816 e3816 ⟨a3817, c3818⟩
 refine au [0,25,12] ?_
 refine yI 5 6 rfl rfl (by kernel_rfl) rfl rfl ?_ ?_
 refine au [25,15] ?_
 rintro x3819 e3819 ⟨a3820, c3821⟩
 refine au [0,25,12,17,6,23] ?_
 intro g3822
 refine au [0,24,1,17,8,22,0,24,1,17,9,25,6,0,24,1,11,10,24,7] ?_
 exact qR (qc ((x3819, x3813.1, x3813.2, x3816.1, x3816.2), (g3822, g3812, a3820, c3821, a3814, c3815, a3817, c3818))) (by intro c h; cases h)
 refine kj (m' := ((zt F x10).bind fun x3824 => qG F x1 x2 x5 x6 x9 x10 x13 x16 x3824 x3813.1 x3813.2 x3816.1 x3816.2)) (rfl) ?_
 refine au [23] ?_
 intro g3823
 refine au [0,24,1,17,5,25,15] ?_
 rintro x3824 e3824 ⟨a3825, c3826⟩
 refine au [0,24,1,17,8,22,0,24,1,17,9,25,6,0,24,1,11,10,24,7] ?_
 exact qR (qc ((x3824, x3813.1, x3813.2, x3816.1, x3816.2), (g3823, g3812, a3825, c3826, a3814, c3815, a3817, c3818))) (by intro c h; cases h)
 refine kj (m' := ((q6 F x5 x6).bind fun x3828 => ((zt F x10).bind fun x3831 => qG F x1 x2 x5 x6 x9 x10 x13 x16 x3831 x3813.1 x3813.2 x3828.1 x3828.2))) (rfl) ?_
 refine au [23] ?_
 intro g3827
 refine au [0,24,1,17,3,26,3] ?_
 rintro x3828 e3828 ⟨a3829, c3830⟩
 refine au [0,24,1,17,5,25,15] ?_
 rintro x3831 e3831 ⟨a3832, c3833⟩
 refine au [0,24,1,17,8,22,0,24,1,17,9,25,6,0,24,1,11,10,24,7] ?_
 exact qR (qc ((x3831, x3813.1, x3813.2, x3828.1, x3828.2), (g3827, g3812, a3832, c3833, a3814, c3815, a3829, c3830))) (by intro c h; cases h)
 refine kj (m' := ((q6 F x1 x2).bind fun x3835 => ((q6 F x5 x6).bind fun x3838 => ((zt F x10).bind fun x3841 => qG F x1 x2 x5 x6 x9 x10 x13 x16 x3841 x3835.1 x3835.2 x3838.1 x3838.2)))) (rfl) ?_
 refine au [23] ?_
 intro g3834
 refine au [0,24,1,17,1,26,3] ?_
 rintro x3835 e3835 ⟨a3836, c3837⟩
 refine au [0,24,1,17,3,26,3] ?_
 rintro x3838 e3838 ⟨a3839, c3840⟩
 refine au [0,24,1,17,5,25,15] ?_
 rintro x3841 e3841 ⟨a3842, c3843⟩
 refine au [0,24,1,17,8,22,0,24,1,17,9,25,6,0,24,1,11,10,24,7] ?_
 exact qR (qc ((x3841, x3835.1, x3835.2, x3838.1, x3838.2), (g3834, g3812, a3842, c3843, a3836, c3837, a3839, c3840))) (by intro c h; cases h)
 rintro ⟨⟨x156, x157, x160, x161, x164⟩, ⟨g152, g153, a154, c155, a158, c159, a162, c163⟩⟩
 try dsimp only
 refine au [3,5,1,24,4,21] ?_
 refine qjb (lim := 35184372088832) (qn .u64) rfl UnF.u inferInstance rfl rfl rfl rfl rfl ?_
 intro a165 c166
 refine au [1] ?_
 refine yo 0 (qn .u64) rfl UnF.u inferInstance rfl rfl rfl rfl rfl (.inr ⟨1, rfl⟩) rfl rfl ?_
 intro x167 e167 a168 c169
 refine qq (vs := [.int .u64 77]) (ys := ([77] : List Int)) (qn .u64) (by decide) rfl Tryz.underlying33 tf80 rfl rfl rfl rfl rfl (by decide) (fun a170 c171 => yo 1 (qn .u64) rfl Tryz.underlying33 tf80 rfl rfl rfl rfl rfl (.inl ⟨0, _, rfl⟩) rfl rfl (fun x172 e172 a173 c174 => ?_))
 refine au [1,24,4,27,6] ?_
 intro x175 e175
 refine au [4,0,2,3,5,26,5,1,29,0] ?_
 refine kx ent38 rfl rfl rfl (fun x176 e176 => qgy F x157 x160.1 a158 c159 (irem x9 16) 4 x176 e176) (.consG 3 rfl (qaW (qn .u8)) .nil) (fun x176 e176 => ?_)
 rintro ⟨a177, c178⟩
 refine au [1,7,7,23] ?_
 intro g179
 refine au [22,4,0,2,3,5,26,15,30,6] ?_
 refine kx ent39 rfl rfl rfl (fun x180 e180 => qf2 F x157 x160.1 a158 c159 x161 x164.1 a162 c163 x180 e180) (.consG 4 rfl (qaW (qn .u8)) (.consG 5 rfl (qaW (qn .u8)) .nil)) (fun x180 e180 => ?_)
 rintro ⟨a181, c182⟩
 refine au [1,7,7,23] ?_
 intro g183
 refine au [22,4,0,2,3,5,30,6,24,11,29,3] ?_
 refine qa0 ent40 rfl rfl rfl (fun x184 e184 => qgx F x157 x160.1 a158 c159 0 x157 x184 e184) .nil .nil (.consG 5 rfl (qaW (qn .u8)) .nil) (fun x184 e184 => ?_)
 rintro ⟨a185, c186⟩
 refine au [1,7,7,23] ?_
 intro g187
 refine au [22,4,0,2,3,5,1] ?_
 refine kx ent41 rfl rfl rfl (fun x188 e188 => qfd F x175.1 a173 c174 x188 e188) (.consG 3 rfl (qaW (qn .u64)) .nil) (fun x188 e188 => ?_)
 rintro ⟨a189, c190⟩
 refine au [1,7,7,23] ?_
 intro g191
 refine au [22,4,0,2,3,5,1,30,1] ?_
 rintro x192 e192 ⟨a193, c194⟩
 refine au [1,7,7,23] ?_
 intro g195
 refine au [22,4,0,2,3,5,1,33,2] ?_
 rintro x196 e196 ⟨a197, c198⟩
 refine au [1,7,7,23] ?_
 intro g199
 refine au [22,4,0,2,3,5,1,33,5] ?_
 rintro x200 e200 ⟨a201, c202⟩
 refine au [1,7,7,23] ?_
 intro g203
 refine au [22,4,0,2,3,5,1,33,3] ?_
 rintro x204 e204 ⟨a205, c206⟩
 refine au [1,7,7,4,4,0,2,3,5,1] ?_
 refine kx ent46 rfl rfl rfl (fun x207 e207 => qhQ F x156.1 a154 c155 x207 e207) (.consG 10 rfl (qaW (qn .i64)) .nil) (fun x207 e207 _ => ?_)
 refine au [0,2,3,5,1] ?_
 refine kx ent47 rfl rfl rfl (fun x208 e208 => qd5 F x175.1 a173 c174 x208 e208) (.consG 8 rfl (qaW (qn .u64)) .nil) (fun x208 e208 => ?_)
 rintro ⟨a209, c210⟩
 refine au [1,7,7,4,4,0,2,3,5,24,11] ?_
 refine zh (i := 9) rfl rfl inferInstance rfl rfl (fun _ => rfl) rfl rfl (qa0 ent48 rfl rfl rfl (fun x211 e211 => qfe F x160.1 a158 c159 x211 e211) .nil .nil (.consG 12 rfl (qaW (qn .u8)) .nil) (fun x211 e211 => ?_))
 rintro ⟨a212, c213⟩
 refine au [1,7,7,4,4,0,2,3,5,33,12] ?_
 refine kx ent49 rfl rfl rfl (fun x214 e214 => qf4 F x157 x160.1 a158 c159 2 x214 e214) (.consG 13 rfl (qaW (qn .u8)) .nil) (fun x214 e214 => ?_)
 rintro ⟨a215, c216⟩
 refine au [1,7,7,7,4,4,4,0,2,3,5,1] ?_
 refine kx ent50 rfl rfl rfl (fun x217 e217 => qda F x156.1 a154 c155 x217 e217) (.consG 13 rfl (qaW (qn .i64)) .nil) (fun x217 e217 => ?_)
 rintro ⟨a218, c219⟩
 refine au [1,7,7,4,4,0,2,3,5,1] ?_
 refine kx ent50 rfl rfl rfl (fun x220 e220 => qda F x156.1 a154 c155 x220 e220) (.consG 14 rfl (qaW (qn .i64)) .nil) (fun x220 e220 => ?_)
 rintro ⟨a221, c222⟩
 refine au [1,7,7,4,4,0,2,3,5,33,12,33,13,33,14,33,15,33,14,33,15] ?_
 refine qq (vs := [.agg #[.int .i64 x157, .slice a158 x160.1.length c159], .agg #[.int .i64 x161, .slice a162 x164.1.length c163]]) (ys := ([((x157, x160.1), (a158, c159)), ((x161, x164.1), (a162, c163))] : List ((Int × List Int) × (Option Addr × Nat)))) kR (by decide) rfl Tryz.underlying95 tf25 rfl rfl rfl rfl rfl (by decide) (fun a223 c224 => qfV (inn := iN25) ([(x157, x160.1), (x161, x164.1)] : List (Int × List Int)) ([(a158, c159), (a162, c163)] : List (Option Addr × Nat)) 0 rfl rfl (qe 2 rfl (qe 0 rfl zi)) ?_)
 refine au [33,9] ?_
 intro x225 e225 _
 refine au [0,2,3,5,1] ?_
 refine kx ent52 rfl rfl rfl (fun x226 e226 => qd4 F x156.1 a154 c155 x226 e226) (.consG 15 rfl (qaW (qn .i64)) .nil) (fun x226 e226 => ?_)
 rintro ⟨a227, c228⟩
 refine au [1,7,7,4,4,0,2,3,5,1] ?_
 refine kx ent53 rfl rfl rfl (fun x229 e229 => qf3 F x156.1 a154 c155 9 x229 e229) (.consG 16 rfl (qaW (qn .i64)) .nil) (fun x229 e229 => ?_)
 rintro ⟨⟨a230, c231⟩, ⟨a232, c233⟩⟩
 refine au [1,7,7,7,23] ?_
 intro g234
 refine au [4,22,4,0,2,3,5,1,33,13,1] ?_
 refine kx ent54 rfl rfl rfl (fun x235 e235 => qeF F x156.1 a154 c155 x157 x160.1 a158 c159 x16 x235 e235) (.consG 18 rfl (qaW (qn .i64)) (.consF 3 rfl .nil)) (fun x235 e235 => ?_)
 rintro ⟨a236, c237⟩
 refine au [1,7,7,4,4,0,2,3,3,5] ?_
 refine qh qho ?_
 intro x268 e268 _
 refine au [25,7,1] ?_
 refine qy 3 (fun ((x271, _) : (Bool × Unit)) => ([(3, .slice a11 x10.length c12), (4, .slice a14 x13.length c15), (6, .pointer (some ⟨g17, 0, none⟩)), (7, .pointer (some ⟨g18, 0, none⟩)), (13, .pointer (some ⟨g152, 0, none⟩)), (14, .pointer (some ⟨g153, 0, none⟩)), (15, .slice a154 x156.1.length c155), (16, .slice a173 x175.1.length c174), (17, .pointer (some ⟨g179, 0, none⟩)), (19, .pointer (some ⟨g183, 0, none⟩)), (21, .pointer (some ⟨g187, 0, none⟩)), (23, .pointer (some ⟨g191, 0, none⟩)), (25, .pointer (some ⟨g195, 0, none⟩)), (27, .pointer (some ⟨g199, 0, none⟩)), (29, .pointer (some ⟨g203, 0, none⟩)), (31, .slice a205 x204.1.length c206), (33, .slice a209 x208.1.length c210), (35, .slice a212 x211.1.length c213), (37, .slice a215 x214.1.length c216), (40, .slice a218 x217.1.length c219.1), (42, .slice a221 x220.1.length c222.1), (44, .slice a227 x226.1.length c228), (46, .slice a230 x229.1.length c231), (47, .pointer (some ⟨g234, 0, none⟩)), (49, .slice a236 x235.1.length c237), (175, .bool x271)], [⟨g234, 25, [.int .i64 x229.2.1, .slice a232 x229.2.2.1.length c233]⟩, ⟨g203, 25, [.int .i64 x200.1, .slice a201 x200.2.1.length c202]⟩, ⟨g199, 25, [.int .i64 x196.1, .slice a197 x196.2.1.length c198]⟩, ⟨g195, 25, [.int .i64 x192.1, .slice a193 x192.2.1.length c194]⟩, ⟨g191, 25, [.int .i64 x188.1, .slice a189 x188.2.1.length c190]⟩, ⟨g187, 25, [.int .i64 x184.1, .slice a185 x184.2.1.length c186]⟩, ⟨g183, 25, [.int .i64 x180.1, .slice a181 x180.2.1.length c182]⟩, ⟨g179, 25, [.int .i64 x176.1, .slice a177 x176.2.1.length c178]⟩, ⟨g18, 25, [.int .i64 x5, .slice a7 x6.length c8]⟩, ⟨g17, 25, [.int .i64 x1, .slice a3 x2.length c4]⟩, ⟨g152, 25, [.int .i64 x157, .slice a158 x160.1.length c159]⟩, ⟨g153, 25, [.int .i64 x161, .slice a162 x164.1.length c163]⟩], [Ro (eI .i64) 3 1 (.slice a154 (x156.1 ++ x156.2).length c155) (x156.1 ++ x156.2), Ro (eI .u64) 80 1 (.slice a173 (x175.1 ++ x175.2).length c174) (x175.1 ++ x175.2), Ro (eI .i64) 3 1 (.slice a205 x204.1.length c206) x204.1, Ro (eI .u8) 5 1 (.slice a209 x208.1.length c210) x208.1, Ro (eI .u64) 80 1 (.slice a212 x211.1.length c213) x211.1, Ro (eI .u64) 80 1 (.slice a215 x214.1.length c216) x214.1, RoN eN25 rN25 25 2 (.slice a218 x217.1.length c219.1) x217.1 c219.2 [], RoN eN25 rN25 25 2 (.slice a221 x220.1.length c222.1) x220.1 c222.2 [], Ro (eI .i64) 3 1 (.slice a227 x226.1.length c228) x226.1, Ro (eI .i64) 3 1 (.slice a230 x229.1.length c231) x229.1, Ro (eI .i64) 3 1 (.slice a236 x235.1.length c237) x235.1, Ro (eI .u8) 5 1 (.slice a232 x229.2.2.1.length c233) x229.2.2.1, Ro (eI .u8) 5 1 (.slice a201 x200.2.1.length c202) x200.2.1, Ro (eI .u8) 5 1 (.slice a197 x196.2.1.length c198) x196.2.1, Ro (eI .u8) 5 1 (.slice a193 x192.2.1.length c194) x192.2.1, Ro (eI .u8) 5 1 (.slice a189 x188.2.1.length c190) x188.2.1, Ro (eI .u8) 5 1 (.slice a185 x184.2.1.length c186) x184.2.1, Ro (eI .u8) 5 1 (.slice a181 x180.2.1.length c182) x180.2.1, Ro (eI .u8) 5 1 (.slice a177 x176.2.1.length c178) x176.2.1], [Sl (eI .i64) 1 (.slice a11 x10.length c12) x10, Sl (eI .u64) 1 (.slice a14 x13.length c15) x13, Sl (eI .u8) 1 (.slice a7 x6.length c8) x6, Sl (eI .u8) 1 (.slice a3 x2.length c4) x2, Sl (eI .u8) 1 (.slice a158 (x160.1 ++ x160.2).length c159) (x160.1 ++ x160.2), Sl (eI .u8) 1 (.slice a162 (x164.1 ++ x164.2).length c163) (x164.1 ++ x164.2)], qav F x1 x2 x5 x6 x10 x13 x156 x157 x160 x161 x164 x175 x176 x180 x184 x188 x192 x196 x200 x204 x208 x211 x214 x217 x220 x226 x229 x235 x271)) ?_ ?_
 refine qa (os := _) rfl ?_
 refine av [24,12] ?_ ?_
 intro h269
 refine qg (k := 172) rfl h269 ?_
 refine au [6,6,14,0] ?_
 exact za (true, ()) (hB := (pk [0, 1, 2, 3, 4, 5, 6, 7, 8, 9, 10, 11])) (hR := (pk [19, 17, 9, 8, 7, 6, 5, 4, 3, 1, 0, 2, 10, 11, 12, 13, 14, 15, 16])) (hF := (qe 5 rfl (qe 6 rfl (qe 7 rfl (qe 8 rfl (qe 4 rfl (qe 2 rfl zi)))))))
 intro h269
 refine qf (k := 172) rfl h269 (qh qgw ?_)
 intro x3710 e3710 _
 refine au [25,7,15,0] ?_
 exact za ((!x3710), ()) (hB := (pk [0, 1, 2, 3, 4, 5, 6, 7, 8, 9, 10, 11])) (hR := (pk [19, 17, 9, 8, 7, 6, 5, 4, 3, 1, 0, 2, 10, 11, 12, 13, 14, 15, 16])) (hF := (qe 5 rfl (qe 6 rfl (qe 7 rfl (qe 8 rfl (qe 4 rfl (qe 2 rfl zi)))))))
 rintro ⟨x271, _⟩
 try dsimp only
 refine qa (os := _) rfl ?_
 refine au [1] ?_
 refine qy 3 (fun ((x274, _) : (Bool × Unit)) => ([(3, .slice a11 x10.length c12), (4, .slice a14 x13.length c15), (6, .pointer (some ⟨g17, 0, none⟩)), (7, .pointer (some ⟨g18, 0, none⟩)), (13, .pointer (some ⟨g152, 0, none⟩)), (14, .pointer (some ⟨g153, 0, none⟩)), (15, .slice a154 x156.1.length c155), (16, .slice a173 x175.1.length c174), (17, .pointer (some ⟨g179, 0, none⟩)), (19, .pointer (some ⟨g183, 0, none⟩)), (21, .pointer (some ⟨g187, 0, none⟩)), (23, .pointer (some ⟨g191, 0, none⟩)), (25, .pointer (some ⟨g195, 0, none⟩)), (27, .pointer (some ⟨g199, 0, none⟩)), (29, .pointer (some ⟨g203, 0, none⟩)), (31, .slice a205 x204.1.length c206), (33, .slice a209 x208.1.length c210), (35, .slice a212 x211.1.length c213), (37, .slice a215 x214.1.length c216), (40, .slice a218 x217.1.length c219.1), (42, .slice a221 x220.1.length c222.1), (44, .slice a227 x226.1.length c228), (46, .slice a230 x229.1.length c231), (47, .pointer (some ⟨g234, 0, none⟩)), (49, .slice a236 x235.1.length c237), (179, .bool x274)], [⟨g234, 25, [.int .i64 x229.2.1, .slice a232 x229.2.2.1.length c233]⟩, ⟨g203, 25, [.int .i64 x200.1, .slice a201 x200.2.1.length c202]⟩, ⟨g199, 25, [.int .i64 x196.1, .slice a197 x196.2.1.length c198]⟩, ⟨g195, 25, [.int .i64 x192.1, .slice a193 x192.2.1.length c194]⟩, ⟨g191, 25, [.int .i64 x188.1, .slice a189 x188.2.1.length c190]⟩, ⟨g187, 25, [.int .i64 x184.1, .slice a185 x184.2.1.length c186]⟩, ⟨g183, 25, [.int .i64 x180.1, .slice a181 x180.2.1.length c182]⟩, ⟨g179, 25, [.int .i64 x176.1, .slice a177 x176.2.1.length c178]⟩, ⟨g18, 25, [.int .i64 x5, .slice a7 x6.length c8]⟩, ⟨g17, 25, [.int .i64 x1, .slice a3 x2.length c4]⟩, ⟨g152, 25, [.int .i64 x157, .slice a158 x160.1.length c159]⟩, ⟨g153, 25, [.int .i64 x161, .slice a162 x164.1.length c163]⟩], [Ro (eI .i64) 3 1 (.slice a154 (x156.1 ++ x156.2).length c155) (x156.1 ++ x156.2), Ro (eI .u64) 80 1 (.slice a173 (x175.1 ++ x175.2).length c174) (x175.1 ++ x175.2), Ro (eI .i64) 3 1 (.slice a205 x204.1.length c206) x204.1, Ro (eI .u8) 5 1 (.slice a209 x208.1.length c210) x208.1, Ro (eI .u64) 80 1 (.slice a212 x211.1.length c213) x211.1, Ro (eI .u64) 80 1 (.slice a215 x214.1.length c216) x214.1, RoN eN25 rN25 25 2 (.slice a218 x217.1.length c219.1) x217.1 c219.2 [], RoN eN25 rN25 25 2 (.slice a221 x220.1.length c222.1) x220.1 c222.2 [], Ro (eI .i64) 3 1 (.slice a227 x226.1.length c228) x226.1, Ro (eI .i64) 3 1 (.slice a230 x229.1.length c231) x229.1, Ro (eI .i64) 3 1 (.slice a236 x235.1.length c237) x235.1, Ro (eI .u8) 5 1 (.slice a232 x229.2.2.1.length c233) x229.2.2.1, Ro (eI .u8) 5 1 (.slice a201 x200.2.1.length c202) x200.2.1, Ro (eI .u8) 5 1 (.slice a197 x196.2.1.length c198) x196.2.1, Ro (eI .u8) 5 1 (.slice a193 x192.2.1.length c194) x192.2.1, Ro (eI .u8) 5 1 (.slice a189 x188.2.1.length c190) x188.2.1, Ro (eI .u8) 5 1 (.slice a185 x184.2.1.length c186) x184.2.1, Ro (eI .u8) 5 1 (.slice a181 x180.2.1.length c182) x180.2.1, Ro (eI .u8) 5 1 (.slice a177 x176.2.1.length c178) x176.2.1], [Sl (eI .i64) 1 (.slice a11 x10.length c12) x10, Sl (eI .u64) 1 (.slice a14 x13.length c15) x13, Sl (eI .u8) 1 (.slice a7 x6.length c8) x6, Sl (eI .u8) 1 (.slice a3 x2.length c4) x2, Sl (eI .u8) 1 (.slice a158 (x160.1 ++ x160.2).length c159) (x160.1 ++ x160.2), Sl (eI .u8) 1 (.slice a162 (x164.1 ++ x164.2).length c163) (x164.1 ++ x164.2)], jH F x1 x2 x5 x6 x10 x13 x156 x157 x160 x161 x164 x175 x176 x180 x184 x188 x192 x196 x200 x204 x208 x211 x214 x217 x220 x226 x229 x235 x274)) ?_ ?_
 refine qa (os := _) rfl ?_
 refine av [24,12] ?_ ?_
 intro h272
 refine qg (k := 176) rfl h272 ?_
 refine au [6,6,14,0] ?_
 exact za (true, ()) (hB := (pk [0, 1, 2, 3, 4, 5, 6, 7, 8, 9, 10, 11])) (hR := (pk [0, 1, 2, 3, 4, 5, 6, 7, 8, 9, 10, 11, 12, 13, 14, 15, 16, 17, 18])) (hF := (qe 0 rfl (qe 1 rfl (qe 2 rfl (qe 3 rfl (qe 4 rfl (qe 5 rfl zi)))))))
 intro h272
 refine qf (k := 176) rfl h272 (qh qgu ?_)
 intro x3709 e3709 _
 refine au [25,7,15,0] ?_
 exact za ((!x3709), ()) (hB := (pk [0, 1, 2, 3, 4, 5, 6, 7, 8, 9, 10, 11])) (hR := (pk [0, 1, 2, 3, 4, 5, 6, 7, 8, 9, 10, 11, 12, 13, 14, 15, 16, 17, 18])) (hF := (qe 0 rfl (qe 1 rfl (qe 2 rfl (qe 3 rfl (qe 4 rfl (qe 5 rfl zi)))))))
 rintro ⟨x274, _⟩
 try dsimp only
 refine qa (os := _) rfl ?_
 refine au [1] ?_
 refine qy 3 (fun ((x277, _) : (Bool × Unit)) => ([(3, .slice a11 x10.length c12), (4, .slice a14 x13.length c15), (6, .pointer (some ⟨g17, 0, none⟩)), (7, .pointer (some ⟨g18, 0, none⟩)), (13, .pointer (some ⟨g152, 0, none⟩)), (14, .pointer (some ⟨g153, 0, none⟩)), (15, .slice a154 x156.1.length c155), (16, .slice a173 x175.1.length c174), (17, .pointer (some ⟨g179, 0, none⟩)), (19, .pointer (some ⟨g183, 0, none⟩)), (21, .pointer (some ⟨g187, 0, none⟩)), (23, .pointer (some ⟨g191, 0, none⟩)), (25, .pointer (some ⟨g195, 0, none⟩)), (27, .pointer (some ⟨g199, 0, none⟩)), (29, .pointer (some ⟨g203, 0, none⟩)), (31, .slice a205 x204.1.length c206), (33, .slice a209 x208.1.length c210), (35, .slice a212 x211.1.length c213), (37, .slice a215 x214.1.length c216), (40, .slice a218 x217.1.length c219.1), (42, .slice a221 x220.1.length c222.1), (44, .slice a227 x226.1.length c228), (46, .slice a230 x229.1.length c231), (47, .pointer (some ⟨g234, 0, none⟩)), (49, .slice a236 x235.1.length c237), (183, .bool x277)], [⟨g234, 25, [.int .i64 x229.2.1, .slice a232 x229.2.2.1.length c233]⟩, ⟨g203, 25, [.int .i64 x200.1, .slice a201 x200.2.1.length c202]⟩, ⟨g199, 25, [.int .i64 x196.1, .slice a197 x196.2.1.length c198]⟩, ⟨g195, 25, [.int .i64 x192.1, .slice a193 x192.2.1.length c194]⟩, ⟨g191, 25, [.int .i64 x188.1, .slice a189 x188.2.1.length c190]⟩, ⟨g187, 25, [.int .i64 x184.1, .slice a185 x184.2.1.length c186]⟩, ⟨g183, 25, [.int .i64 x180.1, .slice a181 x180.2.1.length c182]⟩, ⟨g179, 25, [.int .i64 x176.1, .slice a177 x176.2.1.length c178]⟩, ⟨g18, 25, [.int .i64 x5, .slice a7 x6.length c8]⟩, ⟨g17, 25, [.int .i64 x1, .slice a3 x2.length c4]⟩, ⟨g152, 25, [.int .i64 x157, .slice a158 x160.1.length c159]⟩, ⟨g153, 25, [.int .i64 x161, .slice a162 x164.1.length c163]⟩], [Ro (eI .i64) 3 1 (.slice a154 (x156.1 ++ x156.2).length c155) (x156.1 ++ x156.2), Ro (eI .u64) 80 1 (.slice a173 (x175.1 ++ x175.2).length c174) (x175.1 ++ x175.2), Ro (eI .i64) 3 1 (.slice a205 x204.1.length c206) x204.1, Ro (eI .u8) 5 1 (.slice a209 x208.1.length c210) x208.1, Ro (eI .u64) 80 1 (.slice a212 x211.1.length c213) x211.1, Ro (eI .u64) 80 1 (.slice a215 x214.1.length c216) x214.1, RoN eN25 rN25 25 2 (.slice a218 x217.1.length c219.1) x217.1 c219.2 [], RoN eN25 rN25 25 2 (.slice a221 x220.1.length c222.1) x220.1 c222.2 [], Ro (eI .i64) 3 1 (.slice a227 x226.1.length c228) x226.1, Ro (eI .i64) 3 1 (.slice a230 x229.1.length c231) x229.1, Ro (eI .i64) 3 1 (.slice a236 x235.1.length c237) x235.1, Ro (eI .u8) 5 1 (.slice a232 x229.2.2.1.length c233) x229.2.2.1, Ro (eI .u8) 5 1 (.slice a201 x200.2.1.length c202) x200.2.1, Ro (eI .u8) 5 1 (.slice a197 x196.2.1.length c198) x196.2.1, Ro (eI .u8) 5 1 (.slice a193 x192.2.1.length c194) x192.2.1, Ro (eI .u8) 5 1 (.slice a189 x188.2.1.length c190) x188.2.1, Ro (eI .u8) 5 1 (.slice a185 x184.2.1.length c186) x184.2.1, Ro (eI .u8) 5 1 (.slice a181 x180.2.1.length c182) x180.2.1, Ro (eI .u8) 5 1 (.slice a177 x176.2.1.length c178) x176.2.1], [Sl (eI .i64) 1 (.slice a11 x10.length c12) x10, Sl (eI .u64) 1 (.slice a14 x13.length c15) x13, Sl (eI .u8) 1 (.slice a7 x6.length c8) x6, Sl (eI .u8) 1 (.slice a3 x2.length c4) x2, Sl (eI .u8) 1 (.slice a158 (x160.1 ++ x160.2).length c159) (x160.1 ++ x160.2), Sl (eI .u8) 1 (.slice a162 (x164.1 ++ x164.2).length c163) (x164.1 ++ x164.2)], jI F x1 x2 x5 x6 x10 x13 x156 x157 x160 x161 x164 x175 x176 x180 x184 x188 x192 x196 x200 x204 x208 x211 x214 x217 x220 x226 x229 x235 x277)) ?_ ?_
 refine qa (os := _) rfl ?_
 refine av [24,12] ?_ ?_
 intro h275
 refine qg (k := 180) rfl h275 ?_
 refine au [6,6,14,0] ?_
 exact za (true, ()) (hB := (pk [0, 1, 2, 3, 4, 5, 6, 7, 8, 9, 10, 11])) (hR := (pk [0, 1, 2, 3, 4, 5, 6, 7, 8, 9, 10, 11, 12, 13, 14, 15, 16, 17, 18])) (hF := (qe 0 rfl (qe 1 rfl (qe 2 rfl (qe 3 rfl (qe 4 rfl (qe 5 rfl zi)))))))
 intro h275
 refine qf (k := 180) rfl h275 (qh qgd ?_)
 intro x3708 e3708 _
 refine au [25,7,15,0] ?_
 exact za ((!x3708), ()) (hB := (pk [0, 1, 2, 3, 4, 5, 6, 7, 8, 9, 10, 11])) (hR := (pk [0, 1, 2, 3, 4, 5, 6, 7, 8, 9, 10, 11, 12, 13, 14, 15, 16, 17, 18])) (hF := (qe 0 rfl (qe 1 rfl (qe 2 rfl (qe 3 rfl (qe 4 rfl (qe 5 rfl zi)))))))
 rintro ⟨x277, _⟩
 try dsimp only
 refine qa (os := _) rfl ?_
 refine au [1] ?_
 refine qy 3 (fun ((x280, _) : (Bool × Unit)) => ([(3, .slice a11 x10.length c12), (4, .slice a14 x13.length c15), (6, .pointer (some ⟨g17, 0, none⟩)), (7, .pointer (some ⟨g18, 0, none⟩)), (13, .pointer (some ⟨g152, 0, none⟩)), (14, .pointer (some ⟨g153, 0, none⟩)), (15, .slice a154 x156.1.length c155), (16, .slice a173 x175.1.length c174), (17, .pointer (some ⟨g179, 0, none⟩)), (19, .pointer (some ⟨g183, 0, none⟩)), (21, .pointer (some ⟨g187, 0, none⟩)), (23, .pointer (some ⟨g191, 0, none⟩)), (25, .pointer (some ⟨g195, 0, none⟩)), (27, .pointer (some ⟨g199, 0, none⟩)), (29, .pointer (some ⟨g203, 0, none⟩)), (31, .slice a205 x204.1.length c206), (33, .slice a209 x208.1.length c210), (35, .slice a212 x211.1.length c213), (37, .slice a215 x214.1.length c216), (40, .slice a218 x217.1.length c219.1), (42, .slice a221 x220.1.length c222.1), (44, .slice a227 x226.1.length c228), (46, .slice a230 x229.1.length c231), (47, .pointer (some ⟨g234, 0, none⟩)), (49, .slice a236 x235.1.length c237), (187, .bool x280)], [⟨g234, 25, [.int .i64 x229.2.1, .slice a232 x229.2.2.1.length c233]⟩, ⟨g203, 25, [.int .i64 x200.1, .slice a201 x200.2.1.length c202]⟩, ⟨g199, 25, [.int .i64 x196.1, .slice a197 x196.2.1.length c198]⟩, ⟨g195, 25, [.int .i64 x192.1, .slice a193 x192.2.1.length c194]⟩, ⟨g191, 25, [.int .i64 x188.1, .slice a189 x188.2.1.length c190]⟩, ⟨g187, 25, [.int .i64 x184.1, .slice a185 x184.2.1.length c186]⟩, ⟨g183, 25, [.int .i64 x180.1, .slice a181 x180.2.1.length c182]⟩, ⟨g179, 25, [.int .i64 x176.1, .slice a177 x176.2.1.length c178]⟩, ⟨g18, 25, [.int .i64 x5, .slice a7 x6.length c8]⟩, ⟨g17, 25, [.int .i64 x1, .slice a3 x2.length c4]⟩, ⟨g152, 25, [.int .i64 x157, .slice a158 x160.1.length c159]⟩, ⟨g153, 25, [.int .i64 x161, .slice a162 x164.1.length c163]⟩], [Ro (eI .i64) 3 1 (.slice a154 (x156.1 ++ x156.2).length c155) (x156.1 ++ x156.2), Ro (eI .u64) 80 1 (.slice a173 (x175.1 ++ x175.2).length c174) (x175.1 ++ x175.2), Ro (eI .i64) 3 1 (.slice a205 x204.1.length c206) x204.1, Ro (eI .u8) 5 1 (.slice a209 x208.1.length c210) x208.1, Ro (eI .u64) 80 1 (.slice a212 x211.1.length c213) x211.1, Ro (eI .u64) 80 1 (.slice a215 x214.1.length c216) x214.1, RoN eN25 rN25 25 2 (.slice a218 x217.1.length c219.1) x217.1 c219.2 [], RoN eN25 rN25 25 2 (.slice a221 x220.1.length c222.1) x220.1 c222.2 [], Ro (eI .i64) 3 1 (.slice a227 x226.1.length c228) x226.1, Ro (eI .i64) 3 1 (.slice a230 x229.1.length c231) x229.1, Ro (eI .i64) 3 1 (.slice a236 x235.1.length c237) x235.1, Ro (eI .u8) 5 1 (.slice a232 x229.2.2.1.length c233) x229.2.2.1, Ro (eI .u8) 5 1 (.slice a201 x200.2.1.length c202) x200.2.1, Ro (eI .u8) 5 1 (.slice a197 x196.2.1.length c198) x196.2.1, Ro (eI .u8) 5 1 (.slice a193 x192.2.1.length c194) x192.2.1, Ro (eI .u8) 5 1 (.slice a189 x188.2.1.length c190) x188.2.1, Ro (eI .u8) 5 1 (.slice a185 x184.2.1.length c186) x184.2.1, Ro (eI .u8) 5 1 (.slice a181 x180.2.1.length c182) x180.2.1, Ro (eI .u8) 5 1 (.slice a177 x176.2.1.length c178) x176.2.1], [Sl (eI .i64) 1 (.slice a11 x10.length c12) x10, Sl (eI .u64) 1 (.slice a14 x13.length c15) x13, Sl (eI .u8) 1 (.slice a7 x6.length c8) x6, Sl (eI .u8) 1 (.slice a3 x2.length c4) x2, Sl (eI .u8) 1 (.slice a158 (x160.1 ++ x160.2).length c159) (x160.1 ++ x160.2), Sl (eI .u8) 1 (.slice a162 (x164.1 ++ x164.2).length c163) (x164.1 ++ x164.2)], jJ F x1 x2 x5 x6 x10 x13 x156 x157 x160 x161 x164 x175 x176 x180 x184 x188 x192 x196 x200 x204 x208 x211 x214 x217 x220 x226 x229 x235 x280)) ?_ ?_
 refine qa (os := _) rfl ?_
 refine av [24,12] ?_ ?_
 intro h278
 refine qg (k := 184) rfl h278 ?_
 refine au [6,6,14,0] ?_
 exact za (true, ()) (hB := (pk [0, 1, 2, 3, 4, 5, 6, 7, 8, 9, 10, 11])) (hR := (pk [0, 1, 2, 3, 4, 5, 6, 7, 8, 9, 10, 11, 12, 13, 14, 15, 16, 17, 18])) (hF := (qe 0 rfl (qe 1 rfl (qe 2 rfl (qe 3 rfl (qe 4 rfl (qe 5 rfl zi)))))))
 intro h278
 refine qf (k := 184) rfl h278 (qh qin ?_)
 intro x3707 e3707 _
 refine au [25,7,15,0] ?_
 exact za ((!x3707), ()) (hB := (pk [0, 1, 2, 3, 4, 5, 6, 7, 8, 9, 10, 11])) (hR := (pk [0, 1, 2, 3, 4, 5, 6, 7, 8, 9, 10, 11, 12, 13, 14, 15, 16, 17, 18])) (hF := (qe 0 rfl (qe 1 rfl (qe 2 rfl (qe 3 rfl (qe 4 rfl (qe 5 rfl zi)))))))
 rintro ⟨x280, _⟩
 try dsimp only
 refine qa (os := _) rfl ?_
 refine au [1] ?_
 refine qy 3 (fun ((x283, _) : (Bool × Unit)) => ([(3, .slice a11 x10.length c12), (4, .slice a14 x13.length c15), (6, .pointer (some ⟨g17, 0, none⟩)), (7, .pointer (some ⟨g18, 0, none⟩)), (13, .pointer (some ⟨g152, 0, none⟩)), (14, .pointer (some ⟨g153, 0, none⟩)), (15, .slice a154 x156.1.length c155), (16, .slice a173 x175.1.length c174), (17, .pointer (some ⟨g179, 0, none⟩)), (19, .pointer (some ⟨g183, 0, none⟩)), (21, .pointer (some ⟨g187, 0, none⟩)), (23, .pointer (some ⟨g191, 0, none⟩)), (25, .pointer (some ⟨g195, 0, none⟩)), (27, .pointer (some ⟨g199, 0, none⟩)), (29, .pointer (some ⟨g203, 0, none⟩)), (31, .slice a205 x204.1.length c206), (33, .slice a209 x208.1.length c210), (35, .slice a212 x211.1.length c213), (37, .slice a215 x214.1.length c216), (40, .slice a218 x217.1.length c219.1), (42, .slice a221 x220.1.length c222.1), (44, .slice a227 x226.1.length c228), (46, .slice a230 x229.1.length c231), (47, .pointer (some ⟨g234, 0, none⟩)), (49, .slice a236 x235.1.length c237), (191, .bool x283)], [⟨g234, 25, [.int .i64 x229.2.1, .slice a232 x229.2.2.1.length c233]⟩, ⟨g203, 25, [.int .i64 x200.1, .slice a201 x200.2.1.length c202]⟩, ⟨g199, 25, [.int .i64 x196.1, .slice a197 x196.2.1.length c198]⟩, ⟨g195, 25, [.int .i64 x192.1, .slice a193 x192.2.1.length c194]⟩, ⟨g191, 25, [.int .i64 x188.1, .slice a189 x188.2.1.length c190]⟩, ⟨g187, 25, [.int .i64 x184.1, .slice a185 x184.2.1.length c186]⟩, ⟨g183, 25, [.int .i64 x180.1, .slice a181 x180.2.1.length c182]⟩, ⟨g179, 25, [.int .i64 x176.1, .slice a177 x176.2.1.length c178]⟩, ⟨g18, 25, [.int .i64 x5, .slice a7 x6.length c8]⟩, ⟨g17, 25, [.int .i64 x1, .slice a3 x2.length c4]⟩, ⟨g152, 25, [.int .i64 x157, .slice a158 x160.1.length c159]⟩, ⟨g153, 25, [.int .i64 x161, .slice a162 x164.1.length c163]⟩], [Ro (eI .i64) 3 1 (.slice a154 (x156.1 ++ x156.2).length c155) (x156.1 ++ x156.2), Ro (eI .u64) 80 1 (.slice a173 (x175.1 ++ x175.2).length c174) (x175.1 ++ x175.2), Ro (eI .i64) 3 1 (.slice a205 x204.1.length c206) x204.1, Ro (eI .u8) 5 1 (.slice a209 x208.1.length c210) x208.1, Ro (eI .u64) 80 1 (.slice a212 x211.1.length c213) x211.1, Ro (eI .u64) 80 1 (.slice a215 x214.1.length c216) x214.1, RoN eN25 rN25 25 2 (.slice a218 x217.1.length c219.1) x217.1 c219.2 [], RoN eN25 rN25 25 2 (.slice a221 x220.1.length c222.1) x220.1 c222.2 [], Ro (eI .i64) 3 1 (.slice a227 x226.1.length c228) x226.1, Ro (eI .i64) 3 1 (.slice a230 x229.1.length c231) x229.1, Ro (eI .i64) 3 1 (.slice a236 x235.1.length c237) x235.1, Ro (eI .u8) 5 1 (.slice a232 x229.2.2.1.length c233) x229.2.2.1, Ro (eI .u8) 5 1 (.slice a201 x200.2.1.length c202) x200.2.1, Ro (eI .u8) 5 1 (.slice a197 x196.2.1.length c198) x196.2.1, Ro (eI .u8) 5 1 (.slice a193 x192.2.1.length c194) x192.2.1, Ro (eI .u8) 5 1 (.slice a189 x188.2.1.length c190) x188.2.1, Ro (eI .u8) 5 1 (.slice a185 x184.2.1.length c186) x184.2.1, Ro (eI .u8) 5 1 (.slice a181 x180.2.1.length c182) x180.2.1, Ro (eI .u8) 5 1 (.slice a177 x176.2.1.length c178) x176.2.1], [Sl (eI .i64) 1 (.slice a11 x10.length c12) x10, Sl (eI .u64) 1 (.slice a14 x13.length c15) x13, Sl (eI .u8) 1 (.slice a7 x6.length c8) x6, Sl (eI .u8) 1 (.slice a3 x2.length c4) x2, Sl (eI .u8) 1 (.slice a158 (x160.1 ++ x160.2).length c159) (x160.1 ++ x160.2), Sl (eI .u8) 1 (.slice a162 (x164.1 ++ x164.2).length c163) (x164.1 ++ x164.2)], jK F x1 x2 x5 x6 x10 x13 x156 x157 x160 x161 x164 x175 x176 x180 x184 x188 x192 x196 x200 x204 x208 x211 x214 x217 x220 x226 x229 x235 x283)) ?_ ?_
 refine qa (os := _) rfl ?_
 refine av [24,12] ?_ ?_
 intro h281
 refine qg (k := 188) rfl h281 ?_
 refine au [6,6,14,0] ?_
 exact za (true, ()) (hB := (pk [0, 1, 2, 3, 4, 5, 6, 7, 8, 9, 10, 11])) (hR := (pk [0, 1, 2, 3, 4, 5, 6, 7, 8, 9, 10, 11, 12, 13, 14, 15, 16, 17, 18])) (hF := (qe 0 rfl (qe 1 rfl (qe 2 rfl (qe 3 rfl (qe 4 rfl (qe 5 rfl zi)))))))
 intro h281
 refine qf (k := 188) rfl h281 (qh qgf ?_)
 intro x3706 e3706 _
 refine au [25,7,15,0] ?_
 exact za ((!x3706), ()) (hB := (pk [0, 1, 2, 3, 4, 5, 6, 7, 8, 9, 10, 11])) (hR := (pk [0, 1, 2, 3, 4, 5, 6, 7, 8, 9, 10, 11, 12, 13, 14, 15, 16, 17, 18])) (hF := (qe 0 rfl (qe 1 rfl (qe 2 rfl (qe 3 rfl (qe 4 rfl (qe 5 rfl zi)))))))
 rintro ⟨x283, _⟩
 try dsimp only
 refine qa (os := _) rfl ?_
 refine au [1] ?_
 refine qy 3 (fun ((x286, _) : (Bool × Unit)) => ([(3, .slice a11 x10.length c12), (4, .slice a14 x13.length c15), (6, .pointer (some ⟨g17, 0, none⟩)), (7, .pointer (some ⟨g18, 0, none⟩)), (13, .pointer (some ⟨g152, 0, none⟩)), (14, .pointer (some ⟨g153, 0, none⟩)), (15, .slice a154 x156.1.length c155), (16, .slice a173 x175.1.length c174), (17, .pointer (some ⟨g179, 0, none⟩)), (19, .pointer (some ⟨g183, 0, none⟩)), (21, .pointer (some ⟨g187, 0, none⟩)), (23, .pointer (some ⟨g191, 0, none⟩)), (25, .pointer (some ⟨g195, 0, none⟩)), (27, .pointer (some ⟨g199, 0, none⟩)), (29, .pointer (some ⟨g203, 0, none⟩)), (31, .slice a205 x204.1.length c206), (33, .slice a209 x208.1.length c210), (35, .slice a212 x211.1.length c213), (37, .slice a215 x214.1.length c216), (40, .slice a218 x217.1.length c219.1), (42, .slice a221 x220.1.length c222.1), (44, .slice a227 x226.1.length c228), (46, .slice a230 x229.1.length c231), (47, .pointer (some ⟨g234, 0, none⟩)), (49, .slice a236 x235.1.length c237), (195, .bool x286)], [⟨g234, 25, [.int .i64 x229.2.1, .slice a232 x229.2.2.1.length c233]⟩, ⟨g203, 25, [.int .i64 x200.1, .slice a201 x200.2.1.length c202]⟩, ⟨g199, 25, [.int .i64 x196.1, .slice a197 x196.2.1.length c198]⟩, ⟨g195, 25, [.int .i64 x192.1, .slice a193 x192.2.1.length c194]⟩, ⟨g191, 25, [.int .i64 x188.1, .slice a189 x188.2.1.length c190]⟩, ⟨g187, 25, [.int .i64 x184.1, .slice a185 x184.2.1.length c186]⟩, ⟨g183, 25, [.int .i64 x180.1, .slice a181 x180.2.1.length c182]⟩, ⟨g179, 25, [.int .i64 x176.1, .slice a177 x176.2.1.length c178]⟩, ⟨g18, 25, [.int .i64 x5, .slice a7 x6.length c8]⟩, ⟨g17, 25, [.int .i64 x1, .slice a3 x2.length c4]⟩, ⟨g152, 25, [.int .i64 x157, .slice a158 x160.1.length c159]⟩, ⟨g153, 25, [.int .i64 x161, .slice a162 x164.1.length c163]⟩], [Ro (eI .i64) 3 1 (.slice a154 (x156.1 ++ x156.2).length c155) (x156.1 ++ x156.2), Ro (eI .u64) 80 1 (.slice a173 (x175.1 ++ x175.2).length c174) (x175.1 ++ x175.2), Ro (eI .i64) 3 1 (.slice a205 x204.1.length c206) x204.1, Ro (eI .u8) 5 1 (.slice a209 x208.1.length c210) x208.1, Ro (eI .u64) 80 1 (.slice a212 x211.1.length c213) x211.1, Ro (eI .u64) 80 1 (.slice a215 x214.1.length c216) x214.1, RoN eN25 rN25 25 2 (.slice a218 x217.1.length c219.1) x217.1 c219.2 [], RoN eN25 rN25 25 2 (.slice a221 x220.1.length c222.1) x220.1 c222.2 [], Ro (eI .i64) 3 1 (.slice a227 x226.1.length c228) x226.1, Ro (eI .i64) 3 1 (.slice a230 x229.1.length c231) x229.1, Ro (eI .i64) 3 1 (.slice a236 x235.1.length c237) x235.1, Ro (eI .u8) 5 1 (.slice a232 x229.2.2.1.length c233) x229.2.2.1, Ro (eI .u8) 5 1 (.slice a201 x200.2.1.length c202) x200.2.1, Ro (eI .u8) 5 1 (.slice a197 x196.2.1.length c198) x196.2.1, Ro (eI .u8) 5 1 (.slice a193 x192.2.1.length c194) x192.2.1, Ro (eI .u8) 5 1 (.slice a189 x188.2.1.length c190) x188.2.1, Ro (eI .u8) 5 1 (.slice a185 x184.2.1.length c186) x184.2.1, Ro (eI .u8) 5 1 (.slice a181 x180.2.1.length c182) x180.2.1, Ro (eI .u8) 5 1 (.slice a177 x176.2.1.length c178) x176.2.1], [Sl (eI .i64) 1 (.slice a11 x10.length c12) x10, Sl (eI .u64) 1 (.slice a14 x13.length c15) x13, Sl (eI .u8) 1 (.slice a7 x6.length c8) x6, Sl (eI .u8) 1 (.slice a3 x2.length c4) x2, Sl (eI .u8) 1 (.slice a158 (x160.1 ++ x160.2).length c159) (x160.1 ++ x160.2), Sl (eI .u8) 1 (.slice a162 (x164.1 ++ x164.2).length c163) (x164.1 ++ x164.2)], jL F x1 x2 x5 x6 x10 x13 x156 x157 x160 x161 x164 x175 x176 x180 x184 x188 x192 x196 x200 x204 x208 x211 x214 x217 x220 x226 x229 x235 x286)) ?_ ?_
 refine qa (os := _) rfl ?_
 refine av [24,12] ?_ ?_
 intro h284
 refine qg (k := 192) rfl h284 ?_
 refine au [6,6,14,0] ?_
 exact za (true, ()) (hB := (pk [0, 1, 2, 3, 4, 5, 6, 7, 8, 9, 10, 11])) (hR := (pk [0, 1, 2, 3, 4, 5, 6, 7, 8, 9, 10, 11, 12, 13, 14, 15, 16, 17, 18])) (hF := (qe 0 rfl (qe 1 rfl (qe 2 rfl (qe 3 rfl (qe 4 rfl (qe 5 rfl zi)))))))
 intro h284
 refine qf (k := 192) rfl h284 (qh qgv ?_)
 intro x3705 e3705 _
 refine au [25,7,15,0] ?_
 exact za ((!x3705), ()) (hB := (pk [0, 1, 2, 3, 4, 5, 6, 7, 8, 9, 10, 11])) (hR := (pk [0, 1, 2, 3, 4, 5, 6, 7, 8, 9, 10, 11, 12, 13, 14, 15, 16, 17, 18])) (hF := (qe 0 rfl (qe 1 rfl (qe 2 rfl (qe 3 rfl (qe 4 rfl (qe 5 rfl zi)))))))
 rintro ⟨x286, _⟩
 try dsimp only
 refine qa (os := _) rfl ?_
 refine au [1] ?_
 refine qy 3 (fun ((x289, _) : (Bool × Unit)) => ([(3, .slice a11 x10.length c12), (4, .slice a14 x13.length c15), (6, .pointer (some ⟨g17, 0, none⟩)), (7, .pointer (some ⟨g18, 0, none⟩)), (13, .pointer (some ⟨g152, 0, none⟩)), (14, .pointer (some ⟨g153, 0, none⟩)), (15, .slice a154 x156.1.length c155), (16, .slice a173 x175.1.length c174), (17, .pointer (some ⟨g179, 0, none⟩)), (19, .pointer (some ⟨g183, 0, none⟩)), (21, .pointer (some ⟨g187, 0, none⟩)), (23, .pointer (some ⟨g191, 0, none⟩)), (25, .pointer (some ⟨g195, 0, none⟩)), (27, .pointer (some ⟨g199, 0, none⟩)), (29, .pointer (some ⟨g203, 0, none⟩)), (31, .slice a205 x204.1.length c206), (33, .slice a209 x208.1.length c210), (35, .slice a212 x211.1.length c213), (37, .slice a215 x214.1.length c216), (40, .slice a218 x217.1.length c219.1), (42, .slice a221 x220.1.length c222.1), (44, .slice a227 x226.1.length c228), (46, .slice a230 x229.1.length c231), (47, .pointer (some ⟨g234, 0, none⟩)), (49, .slice a236 x235.1.length c237), (199, .bool x289)], [⟨g234, 25, [.int .i64 x229.2.1, .slice a232 x229.2.2.1.length c233]⟩, ⟨g203, 25, [.int .i64 x200.1, .slice a201 x200.2.1.length c202]⟩, ⟨g199, 25, [.int .i64 x196.1, .slice a197 x196.2.1.length c198]⟩, ⟨g195, 25, [.int .i64 x192.1, .slice a193 x192.2.1.length c194]⟩, ⟨g191, 25, [.int .i64 x188.1, .slice a189 x188.2.1.length c190]⟩, ⟨g187, 25, [.int .i64 x184.1, .slice a185 x184.2.1.length c186]⟩, ⟨g183, 25, [.int .i64 x180.1, .slice a181 x180.2.1.length c182]⟩, ⟨g179, 25, [.int .i64 x176.1, .slice a177 x176.2.1.length c178]⟩, ⟨g18, 25, [.int .i64 x5, .slice a7 x6.length c8]⟩, ⟨g17, 25, [.int .i64 x1, .slice a3 x2.length c4]⟩, ⟨g152, 25, [.int .i64 x157, .slice a158 x160.1.length c159]⟩, ⟨g153, 25, [.int .i64 x161, .slice a162 x164.1.length c163]⟩], [Ro (eI .i64) 3 1 (.slice a154 (x156.1 ++ x156.2).length c155) (x156.1 ++ x156.2), Ro (eI .u64) 80 1 (.slice a173 (x175.1 ++ x175.2).length c174) (x175.1 ++ x175.2), Ro (eI .i64) 3 1 (.slice a205 x204.1.length c206) x204.1, Ro (eI .u8) 5 1 (.slice a209 x208.1.length c210) x208.1, Ro (eI .u64) 80 1 (.slice a212 x211.1.length c213) x211.1, Ro (eI .u64) 80 1 (.slice a215 x214.1.length c216) x214.1, RoN eN25 rN25 25 2 (.slice a218 x217.1.length c219.1) x217.1 c219.2 [], RoN eN25 rN25 25 2 (.slice a221 x220.1.length c222.1) x220.1 c222.2 [], Ro (eI .i64) 3 1 (.slice a227 x226.1.length c228) x226.1, Ro (eI .i64) 3 1 (.slice a230 x229.1.length c231) x229.1, Ro (eI .i64) 3 1 (.slice a236 x235.1.length c237) x235.1, Ro (eI .u8) 5 1 (.slice a232 x229.2.2.1.length c233) x229.2.2.1, Ro (eI .u8) 5 1 (.slice a201 x200.2.1.length c202) x200.2.1, Ro (eI .u8) 5 1 (.slice a197 x196.2.1.length c198) x196.2.1, Ro (eI .u8) 5 1 (.slice a193 x192.2.1.length c194) x192.2.1, Ro (eI .u8) 5 1 (.slice a189 x188.2.1.length c190) x188.2.1, Ro (eI .u8) 5 1 (.slice a185 x184.2.1.length c186) x184.2.1, Ro (eI .u8) 5 1 (.slice a181 x180.2.1.length c182) x180.2.1, Ro (eI .u8) 5 1 (.slice a177 x176.2.1.length c178) x176.2.1], [Sl (eI .i64) 1 (.slice a11 x10.length c12) x10, Sl (eI .u64) 1 (.slice a14 x13.length c15) x13, Sl (eI .u8) 1 (.slice a7 x6.length c8) x6, Sl (eI .u8) 1 (.slice a3 x2.length c4) x2, Sl (eI .u8) 1 (.slice a158 (x160.1 ++ x160.2).length c159) (x160.1 ++ x160.2), Sl (eI .u8) 1 (.slice a162 (x164.1 ++ x164.2).length c163) (x164.1 ++ x164.2)], jM F x1 x2 x5 x6 x10 x13 x156 x157 x160 x161 x164 x175 x176 x180 x184 x188 x192 x196 x200 x204 x208 x211 x214 x217 x220 x226 x229 x235 x289)) ?_ ?_
 refine qa (os := _) rfl ?_
 refine av [24,12] ?_ ?_
 intro h287
 refine qg (k := 196) rfl h287 ?_
 refine au [6,6,14,0] ?_
 exact za (true, ()) (hB := (pk [0, 1, 2, 3, 4, 5, 6, 7, 8, 9, 10, 11])) (hR := (pk [0, 1, 2, 3, 4, 5, 6, 7, 8, 9, 10, 11, 12, 13, 14, 15, 16, 17, 18])) (hF := (qe 0 rfl (qe 1 rfl (qe 2 rfl (qe 3 rfl (qe 4 rfl (qe 5 rfl zi)))))))
 intro h287
 refine qf (k := 196) rfl h287 (qh qhp ?_)
 intro x3704 e3704 _
 refine au [25,7,15,0] ?_
 exact za ((!x3704), ()) (hB := (pk [0, 1, 2, 3, 4, 5, 6, 7, 8, 9, 10, 11])) (hR := (pk [0, 1, 2, 3, 4, 5, 6, 7, 8, 9, 10, 11, 12, 13, 14, 15, 16, 17, 18])) (hF := (qe 0 rfl (qe 1 rfl (qe 2 rfl (qe 3 rfl (qe 4 rfl (qe 5 rfl zi)))))))
 rintro ⟨x289, _⟩
 try dsimp only
 refine qa (os := _) rfl ?_
 refine av [0,2,10] ?_ ?_
 intro _
 exact az [3,5,4,0,2,9,12,16]
 intro _
 refine au [13,2,3,5] ?_
 refine zh (i := 7) rfl rfl inferInstance rfl rfl (by simp) rfl rfl (zh (i := 6) rfl rfl inferInstance rfl rfl (by simp) rfl rfl ?_)
 refine au [29,4,30,6,26,15,26,5,25,14,24,5] ?_
 refine qq (vs := [.agg #[.int .i64 x176.1, .slice a177 x176.2.1.length c178], .agg #[.int .i64 x180.1, .slice a181 x180.2.1.length c182], .agg #[.int .i64 x184.1, .slice a185 x184.2.1.length c186], .agg #[.int .i64 x188.1, .slice a189 x188.2.1.length c190], .agg #[.int .i64 x192.1, .slice a193 x192.2.1.length c194], .agg #[.int .i64 x196.1, .slice a197 x196.2.1.length c198], .agg #[.int .i64 x200.1, .slice a201 x200.2.1.length c202], .agg #[.int .i64 x229.2.1, .slice a232 x229.2.2.1.length c233]]) (ys := ([((x176.1, x176.2.1), (a177, c178)), ((x180.1, x180.2.1), (a181, c182)), ((x184.1, x184.2.1), (a185, c186)), ((x188.1, x188.2.1), (a189, c190)), ((x192.1, x192.2.1), (a193, c194)), ((x196.1, x196.2.1), (a197, c198)), ((x200.1, x200.2.1), (a201, c202)), ((x229.2.1, x229.2.2.1), (a232, c233))] : List ((Int × List Int) × (Option Addr × Nat)))) kR (by decide) rfl Tryz.underlying95 tf25 rfl rfl rfl rfl rfl (by decide) (fun a290 c291 => qig (rin := rN25) (i := 0) ([(x176.1, x176.2.1), (x180.1, x180.2.1), (x184.1, x184.2.1), (x188.1, x188.2.1), (x192.1, x192.2.1), (x196.1, x196.2.1), (x200.1, x200.2.1), (x229.2.1, x229.2.2.1)] : List (Int × List Int)) ([(a177, c178), (a181, c182), (a185, c186), (a189, c190), (a193, c194), (a197, c198), (a201, c202), (a232, c233)] : List (Option Addr × Nat)) rfl rfl (.cons 18 rfl (.cons 17 rfl (.cons 16 rfl (.cons 15 rfl (.cons 14 rfl (.cons 13 rfl (.cons 12 rfl (.cons 11 rfl .nil)))))))) (.cons 0 rfl (.cons 1 rfl (.cons 2 rfl (.cons 3 rfl (.cons 4 rfl (.cons 5 rfl (.cons 6 rfl (.cons 7 rfl (.cons 8 rfl (.cons 9 rfl (.cons 10 rfl .nil))))))))))) ?_)
 refine au [34,0] ?_
 intro x292 e292 g293
 refine au [25,4] ?_
 intro h294
 replace h294 := of_decide_eq_true h294
 refine qb (d := 208) (v := .slice a290 x292.length c291) rfl (by rw [h294] <;> rfl) ?_
 refine au [0,2] ?_
 refine qm (fun ((_, _) : (Unit × Unit)) => ([(3, .slice a11 x10.length c12), (4, .slice a14 x13.length c15), (6, .pointer (some ⟨g17, 0, none⟩)), (7, .pointer (some ⟨g18, 0, none⟩)), (13, .pointer (some ⟨g152, 0, none⟩)), (14, .pointer (some ⟨g153, 0, none⟩)), (15, .slice a154 x156.1.length c155), (16, .slice a173 x175.1.length c174), (31, .slice a205 x204.1.length c206), (33, .slice a209 x208.1.length c210), (35, .slice a212 x211.1.length c213), (37, .slice a215 x214.1.length c216), (44, .slice a227 x226.1.length c228), (46, .slice a230 x229.1.length c231), (49, .slice a236 x235.1.length c237)], [⟨g18, 25, [.int .i64 x5, .slice a7 x6.length c8]⟩, ⟨g17, 25, [.int .i64 x1, .slice a3 x2.length c4]⟩, ⟨g152, 25, [.int .i64 x157, .slice a158 x160.1.length c159]⟩, ⟨g153, 25, [.int .i64 x161, .slice a162 x164.1.length c163]⟩], [Ro (eI .i64) 3 1 (.slice a154 (x156.1 ++ x156.2).length c155) (x156.1 ++ x156.2), Ro (eI .u64) 80 1 (.slice a173 (x175.1 ++ x175.2).length c174) (x175.1 ++ x175.2), Ro (eI .i64) 3 1 (.slice a205 x204.1.length c206) x204.1, Ro (eI .u8) 5 1 (.slice a209 x208.1.length c210) x208.1, Ro (eI .u64) 80 1 (.slice a212 x211.1.length c213) x211.1, Ro (eI .u64) 80 1 (.slice a215 x214.1.length c216) x214.1, Ro (eI .i64) 3 1 (.slice a227 x226.1.length c228) x226.1, Ro (eI .i64) 3 1 (.slice a230 x229.1.length c231) x229.1, Ro (eI .i64) 3 1 (.slice a236 x235.1.length c237) x235.1], [Sl (eI .i64) 1 (.slice a11 x10.length c12) x10, Sl (eI .u64) 1 (.slice a14 x13.length c15) x13, Sl (eI .u8) 1 (.slice a7 x6.length c8) x6, Sl (eI .u8) 1 (.slice a3 x2.length c4) x2, Sl (eI .u8) 1 (.slice a158 (x160.1 ++ x160.2).length c159) (x160.1 ++ x160.2), Sl (eI .u8) 1 (.slice a162 (x164.1 ++ x164.2).length c163) (x164.1 ++ x164.2)], jN F x1 x2 x5 x6 x10 x13 x156 x157 x160 x161 x164 x175 x204 x208 x211 x214 x226 x229 x235)) ?_ ?_
 refine au [3,5,4,0,2,18] ?_
 refine qx (fun (((x2896, x2897), _) : ((Int × Int) × Unit)) => ([(3, .slice a11 x10.length c12), (4, .slice a14 x13.length c15), (6, .pointer (some ⟨g17, 0, none⟩)), (7, .pointer (some ⟨g18, 0, none⟩)), (13, .pointer (some ⟨g152, 0, none⟩)), (14, .pointer (some ⟨g153, 0, none⟩)), (15, .slice a154 x156.1.length c155), (16, .slice a173 x175.1.length c174), (31, .slice a205 x204.1.length c206), (33, .slice a209 x208.1.length c210), (35, .slice a212 x211.1.length c213), (37, .slice a215 x214.1.length c216), (40, .slice a218 x217.1.length c219.1), (42, .slice a221 x220.1.length c222.1), (44, .slice a227 x226.1.length c228), (46, .slice a230 x229.1.length c231), (49, .slice a236 x235.1.length c237), (51, .int .i64 x2897)], [⟨g18, 25, [.int .i64 x5, .slice a7 x6.length c8]⟩, ⟨g17, 25, [.int .i64 x1, .slice a3 x2.length c4]⟩, ⟨g152, 25, [.int .i64 x157, .slice a158 x160.1.length c159]⟩, ⟨g153, 25, [.int .i64 x161, .slice a162 x164.1.length c163]⟩], [Ro (eI .i64) 3 1 (.slice a154 (x156.1 ++ x156.2).length c155) (x156.1 ++ x156.2), Ro (eI .u64) 80 1 (.slice a173 (x175.1 ++ x175.2).length c174) (x175.1 ++ x175.2), Ro (eI .i64) 3 1 (.slice a205 x204.1.length c206) x204.1, Ro (eI .u8) 5 1 (.slice a209 x208.1.length c210) x208.1, Ro (eI .u64) 80 1 (.slice a212 x211.1.length c213) x211.1, Ro (eI .u64) 80 1 (.slice a215 x214.1.length c216) x214.1, RoN eN25 rN25 25 2 (.slice a218 x217.1.length c219.1) x217.1 c219.2 (List.range x2896.toNat), RoN eN25 rN25 25 2 (.slice a221 x220.1.length c222.1) x220.1 c222.2 [], Ro (eI .i64) 3 1 (.slice a227 x226.1.length c228) x226.1, Ro (eI .i64) 3 1 (.slice a230 x229.1.length c231) x229.1, Ro (eI .i64) 3 1 (.slice a236 x235.1.length c237) x235.1], [Sl (eI .i64) 1 (.slice a11 x10.length c12) x10, Sl (eI .u64) 1 (.slice a14 x13.length c15) x13, Sl (eI .u8) 1 (.slice a7 x6.length c8) x6, Sl (eI .u8) 1 (.slice a3 x2.length c4) x2, Sl (eI .u8) 1 (.slice a158 (x160.1 ++ x160.2).length c159) (x160.1 ++ x160.2), Sl (eI .u8) 1 (.slice a162 (x164.1 ++ x164.2).length c163) (x164.1 ++ x164.2)])) (fun k (s : ((Int × Int) × Unit)) => zo F x1 x2 x5 x6 x10 x13 x156 x157 x160 x161 x164 x175 x204 x208 x211 x214 x217 x220 x226 x229 x235 k s.1) ((0, 0), ()) F ?_ (hB := (.cons 8 rfl (.cons 8 rfl (.cons 8 rfl (.cons 8 rfl .nil))))) (hR := (pk [1, 2, 3, 4, 5, 6, 7, 8, 9, 10, 11])) (hF := (qe 0 rfl (qe 1 rfl (qe 2 rfl (qe 3 rfl (qe 4 rfl (qe 5 rfl zi)))))))
 intro k3300
 rintro ⟨⟨x2896, x2897⟩, _⟩
 try dsimp only
 refine qN (m' := jF F x1 x2 x5 x6 x10 x13 x156 x157 x160 x161 x164 x175 x204 x208 x211 x214 x217 x220 x226 x229 x235 (zo F x1 x2 x5 x6 x10 x13 x156 x157 x160 x161 x164 x175 x204 x208 x211 x214 x217 x220 x226 x229 x235 k3300) x2896 x2897) rfl ?_
 refine av [3,3,5,1,1,24,4,24,3,0,2,10] ?_ ?_
 intro _
 refine au [13,2] ?_
 refine qm (fun ((_, _) : (Unit × Unit)) => ([(3, .slice a11 x10.length c12), (4, .slice a14 x13.length c15), (6, .pointer (some ⟨g17, 0, none⟩)), (7, .pointer (some ⟨g18, 0, none⟩)), (13, .pointer (some ⟨g152, 0, none⟩)), (14, .pointer (some ⟨g153, 0, none⟩)), (15, .slice a154 x156.1.length c155), (16, .slice a173 x175.1.length c174), (31, .slice a205 x204.1.length c206), (33, .slice a209 x208.1.length c210), (35, .slice a212 x211.1.length c213), (37, .slice a215 x214.1.length c216), (40, .slice a218 x217.1.length c219.1), (42, .slice a221 x220.1.length c222.1), (44, .slice a227 x226.1.length c228), (46, .slice a230 x229.1.length c231), (49, .slice a236 x235.1.length c237), (51, .int .i64 x2897)], [⟨g18, 25, [.int .i64 x5, .slice a7 x6.length c8]⟩, ⟨g17, 25, [.int .i64 x1, .slice a3 x2.length c4]⟩, ⟨g152, 25, [.int .i64 x157, .slice a158 x160.1.length c159]⟩, ⟨g153, 25, [.int .i64 x161, .slice a162 x164.1.length c163]⟩], [Ro (eI .i64) 3 1 (.slice a154 (x156.1 ++ x156.2).length c155) (x156.1 ++ x156.2), Ro (eI .u64) 80 1 (.slice a173 (x175.1 ++ x175.2).length c174) (x175.1 ++ x175.2), Ro (eI .i64) 3 1 (.slice a205 x204.1.length c206) x204.1, Ro (eI .u8) 5 1 (.slice a209 x208.1.length c210) x208.1, Ro (eI .u64) 80 1 (.slice a212 x211.1.length c213) x211.1, Ro (eI .u64) 80 1 (.slice a215 x214.1.length c216) x214.1, RoN eN25 rN25 25 2 (.slice a218 x217.1.length c219.1) x217.1 c219.2 (List.range (iadd .i64 x2897 1).toNat), RoN eN25 rN25 25 2 (.slice a221 x220.1.length c222.1) x220.1 c222.2 [], Ro (eI .i64) 3 1 (.slice a227 x226.1.length c228) x226.1, Ro (eI .i64) 3 1 (.slice a230 x229.1.length c231) x229.1, Ro (eI .i64) 3 1 (.slice a236 x235.1.length c237) x235.1], [Sl (eI .i64) 1 (.slice a11 x10.length c12) x10, Sl (eI .u64) 1 (.slice a14 x13.length c15) x13, Sl (eI .u8) 1 (.slice a7 x6.length c8) x6, Sl (eI .u8) 1 (.slice a3 x2.length c4) x2, Sl (eI .u8) 1 (.slice a158 (x160.1 ++ x160.2).length c159) (x160.1 ++ x160.2), Sl (eI .u8) 1 (.slice a162 (x164.1 ++ x164.2).length c163) (x164.1 ++ x164.2)], qbH F (zo F x1 x2 x5 x6 x10 x13 x156 x157 x160 x161 x164 x175 x204 x208 x211 x214 x217 x220 x226 x229 x235 k3300) x2897)) ?_ ?_
 refine au [18,3,5,1,1] ?_
 refine qfz (j := 6) rfl UnF.u inferInstance rfl rfl rfl rfl ?_
 intro x3502 e3502 g3503 h3504 g3505 h3506
 refine au [25,4] ?_
 intro h3507
 refine qbS (i := 6) rfl h3504 (qjC h3507) (qaY (j := 1) (p := (x3502, g3503)) kR rfl rfl tf25 rfl h3506 h3504 rfl (by simp) rfl rfl (qq (vs := [.agg #[.int .i64 x3502.1, .slice g3503.1 x3502.2.length g3503.2]]) (ys := ([((x3502.1, x3502.2), (g3503.1, g3503.2))] : List ((Int × List Int) × (Option Addr × Nat)))) kR (by decide) rfl Tryz.underlying95 tf25 rfl rfl rfl rfl rfl (by decide) (fun a3508 c3509 => qhe (rin := rN25) (i := 0) ([(x3502.1, x3502.2)] : List (Int × List Int)) ([(g3503.1, g3503.2)] : List (Option Addr × Nat)) rfl rfl (.cons 0 rfl .nil) ?_)))
 refine au [25,4] ?_
 intro h3510
 refine qmF 1 (iadd .i64 x2897 1) rfl (qnb h3510) ?_
 refine au [34,0] ?_
 intro x3511 e3511 g3512
 refine au [25,4] ?_
 intro h3513
 replace h3513 := of_decide_eq_true h3513
 refine qb (d := 220) (v := .slice a3508 x3511.length c3509) rfl (by rw [h3513] <;> rfl) ?_
 refine au [0,2,3,5,1,21,4,0,2,18] ?_
 refine qx (fun ((x3576, _) : (Int × Unit)) => ([(3, .slice a11 x10.length c12), (4, .slice a14 x13.length c15), (6, .pointer (some ⟨g17, 0, none⟩)), (7, .pointer (some ⟨g18, 0, none⟩)), (13, .pointer (some ⟨g152, 0, none⟩)), (14, .pointer (some ⟨g153, 0, none⟩)), (15, .slice a154 x156.1.length c155), (16, .slice a173 x175.1.length c174), (31, .slice a205 x204.1.length c206), (33, .slice a209 x208.1.length c210), (35, .slice a212 x211.1.length c213), (37, .slice a215 x214.1.length c216), (40, .slice a218 x217.1.length c219.1), (42, .slice a221 x220.1.length c222.1), (44, .slice a227 x226.1.length c228), (46, .slice a230 x229.1.length c231), (49, .slice a236 x235.1.length c237), (51, .int .i64 x2897), (52, .int .i64 x3576)], [⟨g18, 25, [.int .i64 x5, .slice a7 x6.length c8]⟩, ⟨g17, 25, [.int .i64 x1, .slice a3 x2.length c4]⟩, ⟨g152, 25, [.int .i64 x157, .slice a158 x160.1.length c159]⟩, ⟨g153, 25, [.int .i64 x161, .slice a162 x164.1.length c163]⟩], [Ro (eI .i64) 3 1 (.slice a154 (x156.1 ++ x156.2).length c155) (x156.1 ++ x156.2), Ro (eI .u64) 80 1 (.slice a173 (x175.1 ++ x175.2).length c174) (x175.1 ++ x175.2), Ro (eI .i64) 3 1 (.slice a205 x204.1.length c206) x204.1, Ro (eI .u8) 5 1 (.slice a209 x208.1.length c210) x208.1, Ro (eI .u64) 80 1 (.slice a212 x211.1.length c213) x211.1, Ro (eI .u64) 80 1 (.slice a215 x214.1.length c216) x214.1, RoN eN25 rN25 25 2 (.slice a218 x217.1.length c219.1) x217.1 c219.2 (List.range (iadd .i64 x2897 1).toNat), RoN eN25 rN25 25 2 (.slice a221 x220.1.length c222.1) x220.1 c222.2 [], Ro (eI .i64) 3 1 (.slice a227 x226.1.length c228) x226.1, Ro (eI .i64) 3 1 (.slice a230 x229.1.length c231) x229.1, Ro (eI .i64) 3 1 (.slice a236 x235.1.length c237) x235.1], [Sl (eI .i64) 1 (.slice a11 x10.length c12) x10, Sl (eI .u64) 1 (.slice a14 x13.length c15) x13, Sl (eI .u8) 1 (.slice a7 x6.length c8) x6, Sl (eI .u8) 1 (.slice a3 x2.length c4) x2, Sl (eI .u8) 1 (.slice a158 (x160.1 ++ x160.2).length c159) (x160.1 ++ x160.2), Sl (eI .u8) 1 (.slice a162 (x164.1 ++ x164.2).length c163) (x164.1 ++ x164.2)])) (fun k (s : (Int × Unit)) => yc F (zo F x1 x2 x5 x6 x10 x13 x156 x157 x160 x161 x164 x175 x204 x208 x211 x214 x217 x220 x226 x229 x235 k3300) x217 x220 x2897 k s.1) (iadd .i64 x2897 1, ()) F ?_ (hB := (.cons 0 rfl (.cons 0 rfl (.cons 0 rfl (.cons 0 rfl .nil))))) (hR := (pk [2, 3, 4, 5, 6, 7, 1, 8, 9, 10, 11])) (hF := (qe 0 rfl (qe 1 rfl (qe 2 rfl (qe 3 rfl (qe 4 rfl (qe 5 rfl zi)))))))
 intro k3639
 rintro ⟨x3576, _⟩
 try dsimp only
 refine qN (m' := jG F (zo F x1 x2 x5 x6 x10 x13 x156 x157 x160 x161 x164 x175 x204 x208 x211 x214 x217 x220 x226 x229 x235 k3300) x217 x220 x2897 (yc F (zo F x1 x2 x5 x6 x10 x13 x156 x157 x160 x161 x164 x175 x204 x208 x211 x214 x217 x220 x226 x229 x235 k3300) x217 x220 x2897 k3639) x3576) rfl ?_
 refine au [3,3,5,1,1,24,4,24,3,1] ?_
 refine qi 5 (decide (x3576 < (x217.1.length : Int))) [(3, .slice a11 x10.length c12), (4, .slice a14 x13.length c15), (6, .pointer (some ⟨g17, 0, none⟩)), (7, .pointer (some ⟨g18, 0, none⟩)), (13, .pointer (some ⟨g152, 0, none⟩)), (14, .pointer (some ⟨g153, 0, none⟩)), (15, .slice a154 x156.1.length c155), (16, .slice a173 x175.1.length c174), (31, .slice a205 x204.1.length c206), (33, .slice a209 x208.1.length c210), (35, .slice a212 x211.1.length c213), (37, .slice a215 x214.1.length c216), (40, .slice a218 x217.1.length c219.1), (42, .slice a221 x220.1.length c222.1), (44, .slice a227 x226.1.length c228), (46, .slice a230 x229.1.length c231), (49, .slice a236 x235.1.length c237), (51, .int .i64 x2897), (52, .int .i64 x3576), (233, .bool ((decide (x3576 < (x217.1.length : Int))) && (decide (x3576 < (x220.1.length : Int)))))] (fun h3642 => ?_) (fun h3642 => ?_) ?_
 refine qa (os := _) rfl (qg (k := 228) rfl h3642 ?_)
 refine au [1,1,24,4,24,3,14] ?_
 refine qb (d := 233) (v := .bool ((decide (x3576 < (x217.1.length : Int))) && (decide (x3576 < (x220.1.length : Int))))) rfl (by rw [h3642]; simp only [Bool.true_and]) ?_
 exact az [0,8]
 refine qa (os := _) rfl (qf (k := 228) rfl h3642 ?_)
 refine au [6,6,6,6,15] ?_
 refine qb (d := 233) (v := .bool ((decide (x3576 < (x217.1.length : Int))) && (decide (x3576 < (x220.1.length : Int))))) rfl (by rw [h3642]; simp only [Bool.false_and]) ?_
 exact az [0,8]
 refine qa (os := _) rfl ?_
 refine av [0,2,10] ?_ ?_
 intro _
 refine au [13,2,3,18,3] ?_
 refine qfx (j := 6) rfl ?_
 intro x3686 e3686 g3687 h3688 g3689 h3690
 replace h3690 : a218 = some ⟨g3689, 0, none⟩ := h3690
 have h3691 := qaV (k := x217.1.length) (c := c219.1) h3690
 refine au [26,9] ?_
 intro h3692
 refine qdt (i := 6) rfl h3688 (qjC h3692) (qfx (j := 8) rfl ?_)
 intro x3693 e3693 g3694 h3695 g3696 h3697
 replace h3697 : a221 = some ⟨g3696, 0, none⟩ := h3697
 have h3698 := qaV (k := x220.1.length) (c := c222.1) h3697
 refine qdt (i := 8) rfl h3695 (List.not_mem_nil) (qT mixed [] [⟨g18, 25, [.int .i64 x5, .slice a7 x6.length c8]⟩, ⟨g17, 25, [.int .i64 x1, .slice a3 x2.length c4]⟩, ⟨g152, 25, [.int .i64 x157, .slice a158 x160.1.length c159]⟩, ⟨g153, 25, [.int .i64 x161, .slice a162 x164.1.length c163]⟩] [Sl (eI .i64) 1 (.slice a11 x10.length c12) x10, Sl (eI .u64) 1 (.slice a14 x13.length c15) x13, Sl (eI .u8) 1 (.slice a7 x6.length c8) x6, Sl (eI .u8) 1 (.slice a3 x2.length c4) x2, Sl (eI .u8) 1 (.slice a158 (x160.1 ++ x160.2).length c159) (x160.1 ++ x160.2), Sl (eI .u8) 1 (.slice a162 (x164.1 ++ x164.2).length c163) (x164.1 ++ x164.2), qJ g3689 (x3576.toNat * 2) (eN25 (x3686, g3687)), qJ g3696 (x3576.toNat * 2) (eN25 (x3693, g3694))] (.cons 0 rfl (.cons 0 rfl (.cons 0 rfl (.cons 0 rfl .nil)))) (qz 0 rfl (qz 1 rfl (qz 2 rfl (qz 3 rfl (qz 4 rfl (qz 5 rfl (qeE 3 rfl (qdD kR h3688 h3690) (qeE 1 rfl (qdD kR h3695 h3697) qL)))))))) 10 rfl ?_)
 refine au [11,0,11,1] ?_
 refine qo (d := 236) (v := .slice (some ⟨g3689, 0, none⟩) x217.1.length c219.1) rfl (by rw [h3690] <;> rfl) (qj 2 (.pointer (some ⟨g3689, x3576.toNat * 2, none⟩)) rfl rfl rfl (qbG Tryz.underlying95 tf25 rfl rfl (qt e3686).1 (kH e3686)) (qo (d := 236) (v := .slice a218 x217.1.length c219.1) rfl (by rw [h3690] <;> rfl) (zq 3 (.agg #[.int .i64 x3686.1, .slice g3687.1 x3686.2.length g3687.2]) [] rfl rfl rfl (zN (j := 6) rfl tf25 rfl rfl (by simp) rfl) ?_)))
 refine au [11,4,11,5] ?_
 refine qo (d := 240) (v := .slice (some ⟨g3696, 0, none⟩) x220.1.length c222.1) rfl (by rw [h3697] <;> rfl) (qj 6 (.pointer (some ⟨g3696, x3576.toNat * 2, none⟩)) rfl rfl rfl (qbG Tryz.underlying95 tf25 rfl rfl (qt e3693).1 (kH e3693)) (qo (d := 240) (v := .slice a221 x220.1.length c222.1) rfl (by rw [h3697] <;> rfl) (zq 7 (.agg #[.int .i64 x3693.1, .slice g3694.1 x3693.2.length g3694.2]) [] rfl rfl rfl (zN (j := 7) rfl tf25 rfl rfl (by simp) rfl) ?_)))
 refine au [17,8,26,2] ?_
 intro x3699 e3699 _
 refine au [0] ?_
 refine q9 (.cons 0 rfl (.cons 0 rfl (.cons 0 rfl (.cons 0 rfl .nil)))) (qz 0 rfl (qz 1 rfl (qz 2 rfl (qz 3 rfl (qz 4 rfl (qz 5 rfl (qeE 3 rfl (qdD kR h3688 h3690) (qeE 1 rfl (qdD kR h3695 h3697) qL)))))))) ?_
 refine au [11,9,24,7] ?_
 refine qR ?_ (by intro c h; cases h)
 refine av [2,10] ?_ ?_
 intro _
 refine au [3] ?_
 refine qaX (rin := rN25) (p := (x3693, g3694)) (i := 0) (k := 0) (.cons 0 rfl .nil) rfl rfl h3695 (qaX (rin := rN25) (p := (x3686, g3687)) (i := 1) (k := 0) (.cons 1 rfl .nil) rfl rfl h3688 ?_)
 exact az [5,4,0,2,9,24,0,12,12,24,0,24,0,12,12,24,0,12,16]
 intro _
 refine au [13,24,2,2] ?_
 refine qaX (rin := rN25) (p := (x3693, g3694)) (i := 0) (k := 0) (.cons 0 rfl .nil) rfl rfl h3695 (qaX (rin := rN25) (p := (x3686, g3687)) (i := 1) (k := 0) (.cons 1 rfl .nil) rfl rfl h3688 ?_)
 refine au [5,1,21,4,0] ?_
 exact jz (iadd .i64 x3576 1, ()) (hB := (.cons 0 rfl (.cons 0 rfl (.cons 0 rfl (.cons 0 rfl .nil))))) (hR := (pk [2, 3, 4, 5, 6, 7, 0, 1, 8, 9, 10])) (hF := (qe 0 rfl (qe 1 rfl (qe 2 rfl (qe 3 rfl (qe 4 rfl (qe 5 rfl zi)))))))
 intro _
 refine au [24,8,20,20,24,9,24,2] ?_
 exact za ((), ()) (hB := (.cons 0 rfl (.cons 0 rfl (.cons 0 rfl (.cons 0 rfl .nil))))) (hR := (pk [0, 1, 2, 3, 4, 5, 6, 7, 8, 9, 10])) (hF := (qe 0 rfl (qe 1 rfl (qe 2 rfl (qe 3 rfl (qe 4 rfl (qe 5 rfl zi)))))))
 rintro ⟨_, _⟩
 try dsimp only
 refine au [5,1,21,4,0] ?_
 exact jz ((iadd .i64 x2897 1, iadd .i64 x2897 1), ()) (hB := (.cons 0 rfl (.cons 0 rfl (.cons 0 rfl (.cons 0 rfl .nil))))) (hR := (pk [0, 1, 2, 3, 4, 5, 6, 7, 8, 9, 10])) (hF := (qe 0 rfl (qe 1 rfl (qe 2 rfl (qe 3 rfl (qe 4 rfl (qe 5 rfl zi)))))))
 intro _
 refine au [24,8,20,20,24,9] ?_
 exact za ((), ()) (hB := (.cons 0 rfl (.cons 0 rfl (.cons 0 rfl (.cons 0 rfl .nil))))) (hR := (pk [0, 1, 2, 3, 4, 5, 8, 9, 10])) (hF := (qe 0 rfl (qe 1 rfl (qe 2 rfl (qe 3 rfl (qe 4 rfl (qe 5 rfl zi)))))))
 rintro ⟨_, _⟩
 try dsimp only
 refine au [3,5,1,1,1,1] ?_
 refine qq (vs := [.slice a205 x204.1.length c206, .slice a227 x226.1.length c228, .slice a230 x229.1.length c231, .slice a236 x235.1.length c237]) (ys := ([(x204.1, (a205, c206)), (x226.1, (a227, c228)), (x229.1, (a230, c231)), (x235.1, (a236, c237))] : List (List Int × (Option Addr × Nat)))) qfj (by decide) rfl Tryz.underlying28 tf22 rfl rfl rfl rfl rfl (by decide) (fun a1502 c1503 => qig (rin := rN22) (i := 0) ([x204.1, x226.1, x229.1, x235.1] : List (List Int)) ([(a205, c206), (a227, c228), (a230, c231), (a236, c237)] : List (Option Addr × Nat)) rfl rfl (.cons 2 rfl (.cons 6 rfl (.cons 7 rfl (.cons 8 rfl .nil)))) (.cons 0 rfl (.cons 1 rfl (.cons 3 rfl (.cons 4 rfl (.cons 5 rfl .nil))))) (kU qji ?_))
 intro x1504 e1504 g1505
 refine au [25,4] ?_
 intro h1506
 replace h1506 := of_decide_eq_true h1506
 refine qb (d := 250) (v := .slice a1502 x1504.length c1503) rfl (by rw [h1506] <;> rfl) ?_
 refine au [0,2] ?_
 refine qm (fun ((_, _) : (Unit × Unit)) => ([(3, .slice a11 x10.length c12), (4, .slice a14 x13.length c15), (6, .pointer (some ⟨g17, 0, none⟩)), (7, .pointer (some ⟨g18, 0, none⟩)), (13, .pointer (some ⟨g152, 0, none⟩)), (14, .pointer (some ⟨g153, 0, none⟩)), (15, .slice a154 x156.1.length c155), (16, .slice a173 x175.1.length c174), (35, .slice a212 x211.1.length c213), (37, .slice a215 x214.1.length c216)], [⟨g18, 25, [.int .i64 x5, .slice a7 x6.length c8]⟩, ⟨g17, 25, [.int .i64 x1, .slice a3 x2.length c4]⟩, ⟨g152, 25, [.int .i64 x157, .slice a158 x160.1.length c159]⟩, ⟨g153, 25, [.int .i64 x161, .slice a162 x164.1.length c163]⟩], [Ro (eI .i64) 3 1 (.slice a154 (x156.1 ++ x156.2).length c155) (x156.1 ++ x156.2), Ro (eI .u64) 80 1 (.slice a173 (x175.1 ++ x175.2).length c174) (x175.1 ++ x175.2), Ro (eI .u64) 80 1 (.slice a212 x211.1.length c213) x211.1, Ro (eI .u64) 80 1 (.slice a215 x214.1.length c216) x214.1], [Sl (eI .i64) 1 (.slice a11 x10.length c12) x10, Sl (eI .u64) 1 (.slice a14 x13.length c15) x13, Sl (eI .u8) 1 (.slice a7 x6.length c8) x6, Sl (eI .u8) 1 (.slice a3 x2.length c4) x2, Sl (eI .u8) 1 (.slice a158 (x160.1 ++ x160.2).length c159) (x160.1 ++ x160.2), Sl (eI .u8) 1 (.slice a162 (x164.1 ++ x164.2).length c163) (x164.1 ++ x164.2)], jO F x1 x2 x5 x6 x10 x13 x156 x157 x160 x161 x164 x175 x211 x214)) ?_ ?_
 refine au [3,5,4,0,2,18] ?_
 refine qx (fun (((x2465, x2466), _) : ((List Int × Int) × Unit)) => ([(3, .slice a11 x10.length c12), (4, .slice a14 x13.length c15), (6, .pointer (some ⟨g17, 0, none⟩)), (7, .pointer (some ⟨g18, 0, none⟩)), (13, .pointer (some ⟨g152, 0, none⟩)), (14, .pointer (some ⟨g153, 0, none⟩)), (15, .slice a154 x156.1.length c155), (16, .slice a173 x175.1.length c174), (33, .slice a209 x2465.length c210), (35, .slice a212 x211.1.length c213), (37, .slice a215 x214.1.length c216), (53, .int .i64 x2466)], [⟨g18, 25, [.int .i64 x5, .slice a7 x6.length c8]⟩, ⟨g17, 25, [.int .i64 x1, .slice a3 x2.length c4]⟩, ⟨g152, 25, [.int .i64 x157, .slice a158 x160.1.length c159]⟩, ⟨g153, 25, [.int .i64 x161, .slice a162 x164.1.length c163]⟩], [Ro (eI .i64) 3 1 (.slice a154 (x156.1 ++ x156.2).length c155) (x156.1 ++ x156.2), Ro (eI .u64) 80 1 (.slice a173 (x175.1 ++ x175.2).length c174) (x175.1 ++ x175.2), Ro (eI .u8) 5 1 (.slice a209 x2465.length c210) x2465, Ro (eI .u64) 80 1 (.slice a212 x211.1.length c213) x211.1, Ro (eI .u64) 80 1 (.slice a215 x214.1.length c216) x214.1], [Sl (eI .i64) 1 (.slice a11 x10.length c12) x10, Sl (eI .u64) 1 (.slice a14 x13.length c15) x13, Sl (eI .u8) 1 (.slice a7 x6.length c8) x6, Sl (eI .u8) 1 (.slice a3 x2.length c4) x2, Sl (eI .u8) 1 (.slice a158 (x160.1 ++ x160.2).length c159) (x160.1 ++ x160.2), Sl (eI .u8) 1 (.slice a162 (x164.1 ++ x164.2).length c163) (x164.1 ++ x164.2)])) (fun k (s : ((List Int × Int) × Unit)) => yb F x1 x2 x5 x6 x10 x13 x156 x157 x160 x161 x164 x175 x211 x214 k s.1) ((x208.1, 0), ()) F ?_
 intro k2481
 rintro ⟨⟨x2465, x2466⟩, _⟩
 try dsimp only
 refine qN (m' := jE F x1 x2 x5 x6 x10 x13 x156 x157 x160 x161 x164 x175 x211 x214 (yb F x1 x2 x5 x6 x10 x13 x156 x157 x160 x161 x164 x175 x211 x214 k2481) x2465 x2466) rfl ?_
 refine av [3,3,5,1,1,24,4,24,3,0,2,10] ?_ ?_
 intro _
 refine au [13,2,3,18,5,1,1,34,1] ?_
 intro x2489 e2489 g2490 h2491
 refine kz (j := 2) (y' := 99) (qn .u8) rfl rfl rfl tf5 rfl h2491 (qt e2489).2.1 rfl (fun x2492 e2492 h2493 => ?_)
 have h2494 : x2492.length = x2465.length := by rw [← e2492, List.length_set]
 refine qb (d := 33) (v := .slice a209 x2492.length c210) rfl h2493 (qb (d := 253) (v := .slice a209 x2492.length c210) rfl h2493 (qb (d := 258) (v := .slice a209 x2492.length c210) rfl h2493 ?_))
 refine au [0,24,2,2,5,1,21,4,0] ?_
 exact qs ((x2492, iadd .i64 x2466 1), ())
 intro _
 exact az [24,8,20,20,24,9,25,13]
 rintro ⟨_, _⟩
 try dsimp only
 refine qm (fun ((_, _) : (Unit × Unit)) => ([(3, .slice a11 x10.length c12), (4, .slice a14 x13.length c15), (6, .pointer (some ⟨g17, 0, none⟩)), (7, .pointer (some ⟨g18, 0, none⟩)), (13, .pointer (some ⟨g152, 0, none⟩)), (14, .pointer (some ⟨g153, 0, none⟩)), (15, .slice a154 x156.1.length c155), (16, .slice a173 x175.1.length c174)], [⟨g18, 25, [.int .i64 x5, .slice a7 x6.length c8]⟩, ⟨g17, 25, [.int .i64 x1, .slice a3 x2.length c4]⟩, ⟨g152, 25, [.int .i64 x157, .slice a158 x160.1.length c159]⟩, ⟨g153, 25, [.int .i64 x161, .slice a162 x164.1.length c163]⟩], [Ro (eI .i64) 3 1 (.slice a154 (x156.1 ++ x156.2).length c155) (x156.1 ++ x156.2), Ro (eI .u64) 80 1 (.slice a173 (x175.1 ++ x175.2).length c174) (x175.1 ++ x175.2)], [Sl (eI .i64) 1 (.slice a11 x10.length c12) x10, Sl (eI .u64) 1 (.slice a14 x13.length c15) x13, Sl (eI .u8) 1 (.slice a7 x6.length c8) x6, Sl (eI .u8) 1 (.slice a3 x2.length c4) x2, Sl (eI .u8) 1 (.slice a158 (x160.1 ++ x160.2).length c159) (x160.1 ++ x160.2), Sl (eI .u8) 1 (.slice a162 (x164.1 ++ x164.2).length c163) (x164.1 ++ x164.2)], jP F x1 x2 x5 x6 x10 x13 x156 x157 x160 x161 x164 x175)) ?_ ?_
 refine au [3,5,1,1] ?_
 refine qq (vs := [.slice a212 x211.1.length c213, .slice a215 x214.1.length c216]) (ys := ([(x211.1, (a212, c213)), (x214.1, (a215, c216))] : List (List Int × (Option Addr × Nat)))) qlw (by decide) rfl Tryz.underlying104 tf33 rfl rfl rfl rfl rfl (by decide) (fun a2013 c2014 => qhe (rin := rN33) (i := 0) ([x211.1, x214.1] : List (List Int)) ([(a212, c213), (a215, c216)] : List (Option Addr × Nat)) rfl rfl (.cons 2 rfl (.cons 2 rfl .nil)) ?_)
 refine au [24,4,1,0,2,18] ?_
 refine qx (fun (((x2160, x2161), g2159) : ((List (List Int) × Int) × List (Option Addr × Nat))) => ([(3, .slice a11 x10.length c12), (4, .slice a14 x13.length c15), (6, .pointer (some ⟨g17, 0, none⟩)), (7, .pointer (some ⟨g18, 0, none⟩)), (13, .pointer (some ⟨g152, 0, none⟩)), (14, .pointer (some ⟨g153, 0, none⟩)), (15, .slice a154 x156.1.length c155), (16, .slice a173 x175.1.length c174), (263, .slice a2013 x2160.length c2014), (264, .int .i64 (([x211.1, x214.1] : List (List Int)).length : Int)), (265, .int .i64 x2161)], [⟨g18, 25, [.int .i64 x5, .slice a7 x6.length c8]⟩, ⟨g17, 25, [.int .i64 x1, .slice a3 x2.length c4]⟩, ⟨g152, 25, [.int .i64 x157, .slice a158 x160.1.length c159]⟩, ⟨g153, 25, [.int .i64 x161, .slice a162 x164.1.length c163]⟩], [Ro (eI .i64) 3 1 (.slice a154 (x156.1 ++ x156.2).length c155) (x156.1 ++ x156.2), Ro (eI .u64) 80 1 (.slice a173 (x175.1 ++ x175.2).length c174) (x175.1 ++ x175.2), RoN eN33 rN33 33 1 (.slice a2013 x2160.length c2014) x2160 g2159 []], [Sl (eI .i64) 1 (.slice a11 x10.length c12) x10, Sl (eI .u64) 1 (.slice a14 x13.length c15) x13, Sl (eI .u8) 1 (.slice a7 x6.length c8) x6, Sl (eI .u8) 1 (.slice a3 x2.length c4) x2, Sl (eI .u8) 1 (.slice a158 (x160.1 ++ x160.2).length c159) (x160.1 ++ x160.2), Sl (eI .u8) 1 (.slice a162 (x164.1 ++ x164.2).length c163) (x164.1 ++ x164.2)])) (fun k (s : ((List (List Int) × Int) × List (Option Addr × Nat))) => zn F x1 x2 x5 x6 x10 x13 x156 x157 x160 x161 x164 x175 x211 x214 k s.1) ((([x211.1, x214.1] : List (List Int)), 0), ([(a212, c213), (a215, c216)] : List (Option Addr × Nat))) F ?_
 intro k2306
 rintro ⟨⟨x2160, x2161⟩, g2159⟩
 try dsimp only
 refine qN (m' := jC F x1 x2 x5 x6 x10 x13 x156 x157 x160 x161 x164 x175 x211 x214 (zn F x1 x2 x5 x6 x10 x13 x156 x157 x160 x161 x164 x175 x211 x214 k2306) x2160 x2161) rfl ?_
 refine av [3,5,24,3,0,2,3,10] ?_ ?_
 intro _
 refine au [13,2] ?_
 refine qm (fun ((x2379, g2378) : (List (List Int) × List (Option Addr × Nat))) => ([(3, .slice a11 x10.length c12), (4, .slice a14 x13.length c15), (6, .pointer (some ⟨g17, 0, none⟩)), (7, .pointer (some ⟨g18, 0, none⟩)), (13, .pointer (some ⟨g152, 0, none⟩)), (14, .pointer (some ⟨g153, 0, none⟩)), (15, .slice a154 x156.1.length c155), (16, .slice a173 x175.1.length c174), (263, .slice a2013 x2379.length c2014), (264, .int .i64 (([x211.1, x214.1] : List (List Int)).length : Int)), (265, .int .i64 x2161)], [⟨g18, 25, [.int .i64 x5, .slice a7 x6.length c8]⟩, ⟨g17, 25, [.int .i64 x1, .slice a3 x2.length c4]⟩, ⟨g152, 25, [.int .i64 x157, .slice a158 x160.1.length c159]⟩, ⟨g153, 25, [.int .i64 x161, .slice a162 x164.1.length c163]⟩], [Ro (eI .i64) 3 1 (.slice a154 (x156.1 ++ x156.2).length c155) (x156.1 ++ x156.2), Ro (eI .u64) 80 1 (.slice a173 (x175.1 ++ x175.2).length c174) (x175.1 ++ x175.2), RoN eN33 rN33 33 1 (.slice a2013 x2379.length c2014) x2379 g2378 []], [Sl (eI .i64) 1 (.slice a11 x10.length c12) x10, Sl (eI .u64) 1 (.slice a14 x13.length c15) x13, Sl (eI .u8) 1 (.slice a7 x6.length c8) x6, Sl (eI .u8) 1 (.slice a3 x2.length c4) x2, Sl (eI .u8) 1 (.slice a158 (x160.1 ++ x160.2).length c159) (x160.1 ++ x160.2), Sl (eI .u8) 1 (.slice a162 (x164.1 ++ x164.2).length c163) (x164.1 ++ x164.2)], jU F (zn F x1 x2 x5 x6 x10 x13 x156 x157 x160 x161 x164 x175 x211 x214 k2306) x2161 x2379)) ?_ ?_
 refine au [18,3,5] ?_
 refine qfz (j := 2) rfl UnF.u inferInstance rfl rfl rfl rfl ?_
 intro x2380 e2380 g2381 h2382 g2383 h2384
 refine qbS (i := 2) rfl h2382 (List.not_mem_nil) (qaY (j := 1) (p := (x2380, g2381)) qlw rfl rfl tf33 rfl h2384 h2382 rfl (fun _ => rfl) rfl rfl ?_)
 refine au [4,0,2,3,5,4,0,2,18] ?_
 refine qx (fun (((x2399, x2400), _) : ((List Int × Int) × Unit)) => ([(3, .slice a11 x10.length c12), (4, .slice a14 x13.length c15), (6, .pointer (some ⟨g17, 0, none⟩)), (7, .pointer (some ⟨g18, 0, none⟩)), (13, .pointer (some ⟨g152, 0, none⟩)), (14, .pointer (some ⟨g153, 0, none⟩)), (15, .slice a154 x156.1.length c155), (16, .slice a173 x175.1.length c174), (55, .slice g2381.1 x2399.length g2381.2), (56, .int .i64 x2400), (263, .slice a2013 x2160.length c2014), (264, .int .i64 (([x211.1, x214.1] : List (List Int)).length : Int)), (265, .int .i64 x2161)], [⟨g18, 25, [.int .i64 x5, .slice a7 x6.length c8]⟩, ⟨g17, 25, [.int .i64 x1, .slice a3 x2.length c4]⟩, ⟨g152, 25, [.int .i64 x157, .slice a158 x160.1.length c159]⟩, ⟨g153, 25, [.int .i64 x161, .slice a162 x164.1.length c163]⟩], [Ro (eI .i64) 3 1 (.slice a154 (x156.1 ++ x156.2).length c155) (x156.1 ++ x156.2), Ro (eI .u64) 80 1 (.slice a173 (x175.1 ++ x175.2).length c174) (x175.1 ++ x175.2), Ro (eI .u64) 80 1 (.slice g2381.1 x2399.length g2381.2) x2399, RoN eN33 rN33 33 1 (.slice a2013 x2160.length c2014) x2160 g2159 [x2161.toNat]], [Sl (eI .i64) 1 (.slice a11 x10.length c12) x10, Sl (eI .u64) 1 (.slice a14 x13.length c15) x13, Sl (eI .u8) 1 (.slice a7 x6.length c8) x6, Sl (eI .u8) 1 (.slice a3 x2.length c4) x2, Sl (eI .u8) 1 (.slice a158 (x160.1 ++ x160.2).length c159) (x160.1 ++ x160.2), Sl (eI .u8) 1 (.slice a162 (x164.1 ++ x164.2).length c163) (x164.1 ++ x164.2)])) (fun k (s : ((List Int × Int) × Unit)) => ya F (zn F x1 x2 x5 x6 x10 x13 x156 x157 x160 x161 x164 x175 x211 x214 k2306) x2160 x2161 x2380 k s.1) ((x2380, 0), ()) F ?_
 intro k2425
 rintro ⟨⟨x2399, x2400⟩, _⟩
 try dsimp only
 refine qN (m' := jD F (zn F x1 x2 x5 x6 x10 x13 x156 x157 x160 x161 x164 x175 x211 x214 k2306) x2160 x2161 x2380 (ya F (zn F x1 x2 x5 x6 x10 x13 x156 x157 x160 x161 x164 x175 x211 x214 k2306) x2160 x2161 x2380 k2425) x2399 x2400) rfl ?_
 refine av [3,3,5,1,1,24,4,24,3,0,2,10] ?_ ?_
 intro _
 refine au [13,2,3,18,5,1,1,34,1] ?_
 intro x2438 e2438 g2439 h2440
 refine kz (j := 2) (y' := 99) (qn .u64) rfl rfl rfl tf80 rfl h2440 (qt e2438).2.1 rfl (fun x2441 e2441 h2442 => ?_)
 have h2443 : x2441.length = x2399.length := by rw [← e2441, List.length_set]
 refine qb (d := 55) (v := .slice g2381.1 x2441.length g2381.2) rfl h2442 (qb (d := 270) (v := .slice g2381.1 x2441.length g2381.2) rfl h2442 (qb (d := 275) (v := .slice g2381.1 x2441.length g2381.2) rfl h2442 ?_))
 refine au [0,24,2,2,5,1,21,4,0] ?_
 exact qs ((x2441, iadd .i64 x2400 1), ())
 intro _
 refine au [24,8,20,20,24,9,24,2,28,2] ?_
 intro h2444
 replace h2444 := of_decide_eq_true h2444
 refine qe0 (rin := rN33) (i := 2) (kh := 0) (y := x2399) (q := g2381) (.cons 2 rfl .nil) rfl rfl h2382 (by simp only [eN33, h2444]) (fun x2445 e2445 h2446 g2448 => ?_)
 have h2447 : x2445.length = x2160.length := by rw [← e2445, List.length_set]
 exact qhg (d := 263) (v := .slice a2013 x2445.length c2014) rfl (by rw [h2446] <;> rfl) (qc (x2445, g2448))
 rintro ⟨x2379, g2378⟩
 try dsimp only
 refine au [5,21,1,0] ?_
 exact qs ((x2379, iadd .i64 x2161 1), g2378)
 intro _
 exact az [24,8,20,20,24,9,25,13]
 rintro ⟨_, _⟩
 try dsimp only
 refine au [3,5,26,5,25,14,34,2] ?_
 intro x1990 e1990 _
 refine au [1] ?_
 refine qy 4 (fun ((x1993, _) : (Bool × Unit)) => ([(3, .slice a11 x10.length c12), (4, .slice a14 x13.length c15), (15, .slice a154 x156.1.length c155), (16, .slice a173 x175.1.length c174), (286, .bool x1993)], [], [Ro (eI .i64) 3 1 (.slice a154 (x156.1 ++ x156.2).length c155) (x156.1 ++ x156.2), Ro (eI .u64) 80 1 (.slice a173 (x175.1 ++ x175.2).length c174) (x175.1 ++ x175.2)], [Sl (eI .i64) 1 (.slice a11 x10.length c12) x10, Sl (eI .u64) 1 (.slice a14 x13.length c15) x13], jQ F x10 x13 x156 x175 x1993)) ?_ ?_
 refine qa (os := _) rfl ?_
 refine av [24,12] ?_ ?_
 intro h1991
 refine qg (k := 282) rfl h1991 ?_
 refine au [26,15,24,5,34,2] ?_
 intro x2012 e2012 _
 refine au [14,0] ?_
 exact qc (x2012, ())
 intro h1991
 refine qf (k := 282) rfl h1991 ?_
 refine au [6,6,6,15,0] ?_
 exact qc (false, ())
 rintro ⟨x1993, _⟩
 try dsimp only
 refine qa (os := _) rfl ?_
 refine au [1] ?_
 refine qy 4 (fun ((x1996, _) : (Bool × Unit)) => ([(4, .slice a14 x13.length c15), (16, .slice a173 x175.1.length c174), (291, .bool x1996)], [], [Ro (eI .u64) 80 1 (.slice a173 (x175.1 ++ x175.2).length c174) (x175.1 ++ x175.2)], [Sl (eI .u64) 1 (.slice a14 x13.length c15) x13], jR F x13 x175 x1996)) ?_ ?_
 refine qa (os := _) rfl ?_
 refine av [24,12] ?_ ?_
 intro h1994
 refine qg (k := 287) rfl h1994 ?_
 refine au [1,1] ?_
 refine qh qmT ?_
 intro x2011 e2011 _
 refine au [14,0] ?_
 exact qc (x2011, ())
 intro h1994
 refine qf (k := 287) rfl h1994 ?_
 refine au [6,6,6,15,0] ?_
 exact qc (false, ())
 rintro ⟨x1996, _⟩
 try dsimp only
 refine qa (os := _) rfl ?_
 refine au [1] ?_
 refine qy 4 (fun ((x1999, _) : (Bool × Unit)) => ([(4, .slice a14 x13.length c15), (16, .slice a173 x175.1.length c174), (296, .bool x1999)], [], [Ro (eI .u64) 80 1 (.slice a173 (x175.1 ++ x175.2).length c174) (x175.1 ++ x175.2)], [Sl (eI .u64) 1 (.slice a14 x13.length c15) x13], jS F x13 x175 x1999)) ?_ ?_
 refine qa (os := _) rfl ?_
 refine av [24,12] ?_ ?_
 intro h1997
 refine qg (k := 292) rfl h1997 ?_
 refine au [1,1] ?_
 refine kx ent64 rfl rfl rfl (fun x2010 e2010 => qe1 F x175.1 a173 c174 x13 a14 c15 x2010 e2010) (.consG 0 rfl (qaW (qn .u64)) (.consF 0 rfl .nil)) (fun x2010 e2010 _ => ?_)
 refine au [14,0] ?_
 exact qc (x2010, ())
 intro h1997
 refine qf (k := 292) rfl h1997 ?_
 refine au [6,6,6,15,0] ?_
 exact qc (false, ())
 rintro ⟨x1999, _⟩
 try dsimp only
 refine qa (os := _) rfl ?_
 refine au [1] ?_
 refine qy 11 (fun ((x2005, _) : (Bool × Unit)) => ([(308, .bool x2005)], [], [], [], jT F x2005)) ?_ ?_
 refine qa (os := _) rfl ?_
 refine av [24,12] ?_ ?_
 intro h2000
 refine qg (k := 297) rfl h2000 ?_
 refine au [1,1,24,4,21] ?_
 refine qmI (xs := x175.1) (ts := x175.2) (i := 0) rfl Tryz.underlying33 tf80 rfl rfl rfl rfl ?_
 refine au [1,24,4,27,8] ?_
 intro x2007 e2007 g2008 h2009
 refine y8 (j := 0) (y := x2007) (qn .u64) rfl rfl tf80 rfl h2009 (qt e2007).2.2 (fun _ => rfl) rfl rfl ?_
 refine au [19,14,0] ?_
 exact qc (((x2007 : Int) == 77), ())
 intro h2000
 refine qf (k := 297) rfl h2000 ?_
 refine au [6,6,6,6,6,6,6,6,6,6,15,0] ?_
 exact qc (false, ())
 rintro ⟨x2005, _⟩
 try dsimp only
 refine qa (os := _) rfl ?_
 exact az [4,0,2,9,16]
end Go.Proofs.YtmoikolponkmpaaGreat
