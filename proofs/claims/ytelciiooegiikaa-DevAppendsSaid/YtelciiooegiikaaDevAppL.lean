/- The reference's AppendedOf; the law of DevAppend, walked. -/
import Derived.Test.YtelciiooegiikaaDevApp
import Derived.Test.YtelciiooegiikaaOct
import Derived.Test.YtelciiooegiikaaTypes
namespace Go.Proofs.Ytelciiooegiikaa
open Go.RowKit
set_option maxRecDepth 100000
def c7_1 : SC := (.seq (.reg [SO.mk (some 19) (.build 28 []) none, SO.mk (some 20) (.move (.tmp 10)) none, SO.mk none (.store 28 (.tmp 8) (.tmp 19)) none, SO.mk (some 9) (.move (.tmp 20)) none]) (.keep [8, 9] .ret))
theorem u7_1 : type_of% (@swc _ _ c7_1.eq_1) := @swc _ _ c7_1.eq_1
def c7_2 : SC := (.cond (.tmp 18) c7_1 .skip)
theorem u7_2 : type_of% (@swc _ _ c7_2.eq_1) := @swc _ _ c7_2.eq_1
def o7_3 : List SO := ((SO.mk (some 29) (.load 3 (.tmp 28)) (some (26 , true))) :: (SO.mk (some 30) (.bin .lss 3 (.tmp 27) (.tmp 29)) (some (26 , true))) :: (SO.mk (some 31) (.pick (.tmp 26) (.tmp 30) (.const (Value.bool false))) none) :: (SO.mk (some 11) (.move (.tmp 31)) none) :: [])
theorem v7_3 : type_of% (@swl _ _ o7_3.eq_1) := @swl _ _ o7_3.eq_1
def o7_4 : List SO := ((SO.mk (some 25) (.bin .eql 3 (.tmp 21) (.tmp 24)) none) :: (SO.mk (some 26) (.move (.tmp 25)) none) :: (SO.mk (some 27) (.move (.tmp 2)) (some (26 , true))) :: (SO.mk (some 28) (.faddr 23 (.tmp 4) 4) (some (26 , true))) :: o7_3)
theorem v7_4 : type_of% (@swl _ _ o7_4.eq_1) := @swl _ _ o7_4.eq_1
def o7_5 : List SO := ((SO.mk (some 36) (.move (.tmp 2)) (some (34 , true))) :: (SO.mk (some 37) (.call 14 [(.tmp 35), (.tmp 36)]) (some (34 , true))) :: (SO.mk (some 38) (.un .not (.tmp 37)) (some (34 , true))) :: (SO.mk (some 39) (.pick (.tmp 34) (.tmp 38) (.const (Value.bool false))) none) :: [])
theorem v7_5 : type_of% (@swl _ _ o7_5.eq_1) := @swl _ _ o7_5.eq_1
def c7_6 : SC := (.seq (.reg [SO.mk (some 40) (.build 28 []) none, SO.mk none (.store 28 (.tmp 8) (.tmp 40)) none, SO.mk (some 9) (.move (.const (Value.int .i64 6))) none]) (.keep [8, 9] .ret))
theorem u7_6 : type_of% (@swc _ _ c7_6.eq_1) := @swc _ _ c7_6.eq_1
def c7_7 : SC := (.cond (.tmp 39) c7_6 .skip)
theorem u7_7 : type_of% (@swc _ _ c7_7.eq_1) := @swc _ _ c7_7.eq_1
def o7_8 : List SO := ((SO.mk (some 53) (.bin .add 3 (.tmp 45) (.tmp 52)) none) :: (SO.mk (some 12) (.move (.tmp 53)) none) :: [])
theorem v7_8 : type_of% (@swl _ _ o7_8.eq_1) := @swl _ _ o7_8.eq_1
def o7_9 : List SO := ((SO.mk (some 49) (.iaddr 26 (.tmp 47) (.tmp 48)) none) :: (SO.mk (some 50) (.faddr 41 (.tmp 49) 0) none) :: (SO.mk (some 51) (.load 29 (.tmp 50)) none) :: (SO.mk (some 52) (.len 29 (.tmp 51)) none) :: o7_8)
theorem v7_9 : type_of% (@swl _ _ o7_9.eq_1) := @swl _ _ o7_9.eq_1
def c7_10 : SC := (.reg ((SO.mk (some 45) (.move (.tmp 12)) none) :: (SO.mk (some 46) (.faddr 28 (.tmp 5) 2) none) :: (SO.mk (some 47) (.load 26 (.tmp 46)) none) :: (SO.mk (some 48) (.move (.tmp 2)) none) :: o7_9))
theorem u7_10 : type_of% (@swc _ _ c7_10.eq_1) := @swc _ _ c7_10.eq_1
def c7_11 : SC := (.cond (.tmp 44) c7_10 .skip)
theorem u7_11 : type_of% (@swc _ _ c7_11.eq_1) := @swc _ _ c7_11.eq_1
def c7_12 : SC := (.seq (.reg [SO.mk (some 58) (.build 28 []) none, SO.mk none (.store 28 (.tmp 8) (.tmp 58)) none, SO.mk (some 9) (.move (.const (Value.int .i64 8))) none]) (.keep [8, 9] .ret))
theorem u7_12 : type_of% (@swc _ _ c7_12.eq_1) := @swc _ _ c7_12.eq_1
def c7_13 : SC := (.cond (.tmp 57) c7_12 .skip)
theorem u7_13 : type_of% (@swc _ _ c7_13.eq_1) := @swc _ _ c7_13.eq_1
def o7_14 : List SO := ((SO.mk (some 63) (.extract (.tmp 59) 1) none) :: (SO.mk (some 13) (.alloc 28) none) :: (SO.mk none (.store 28 (.tmp 13) (.tmp 62)) none) :: (SO.mk (some 10) (.move (.tmp 63)) none) :: [])
theorem v7_14 : type_of% (@swl _ _ o7_14.eq_1) := @swl _ _ o7_14.eq_1
def c7_15 : SC := (.seq (.reg [SO.mk (some 66) (.build 28 []) none, SO.mk (some 67) (.move (.tmp 10)) none, SO.mk none (.store 28 (.tmp 8) (.tmp 66)) none, SO.mk (some 9) (.move (.tmp 67)) none]) (.keep [8, 9] .ret))
theorem u7_15 : type_of% (@swc _ _ c7_15.eq_1) := @swc _ _ c7_15.eq_1
def c7_16 : SC := (.cond (.tmp 65) c7_15 .skip)
theorem u7_16 : type_of% (@swc _ _ c7_16.eq_1) := @swc _ _ c7_16.eq_1
def o7_17 : List SO := ((SO.mk (some 73) (.app 26 26 (.tmp 70) (.tmp 72)) none) :: (SO.mk (some 74) (.faddr 28 (.tmp 13) 2) none) :: (SO.mk none (.store 26 (.tmp 74) (.tmp 73)) none) :: [])
theorem v7_17 : type_of% (@swl _ _ o7_17.eq_1) := @swl _ _ o7_17.eq_1
def c7_18 : SC := (.reg ((SO.mk (some 69) (.faddr 28 (.tmp 13) 2) none) :: (SO.mk (some 70) (.load 26 (.tmp 69)) none) :: (SO.mk (some 71) (.build 41 []) none) :: (SO.mk (some 72) (.bslice 26 1 [(0 , (.tmp 71))]) none) :: o7_17))
theorem u7_18 : type_of% (@swc _ _ c7_18.eq_1) := @swc _ _ c7_18.eq_1
def c7_19 : SC := (.cond (.tmp 68) c7_18 .skip)
theorem u7_19 : type_of% (@swc _ _ c7_19.eq_1) := @swc _ _ c7_19.eq_1
def o7_20 : List SO := ((SO.mk (some 87) (.iaddr 26 (.tmp 76) (.tmp 77)) none) :: (SO.mk (some 88) (.faddr 41 (.tmp 87) 0) none) :: [])
theorem v7_20 : type_of% (@swd _ _ o7_20.eq_1) := @swd _ _ o7_20.eq_1
def o7_21 : List SO := ((SO.mk (some 83) (.load 29 (.tmp 82)) none) :: (SO.mk (some 84) (.move (.tmp 3)) none) :: (SO.mk (some 85) (.bslice 24 2 [(0 , (.tmp 83)), (1 , (.tmp 84))]) none) :: (SO.mk (some 86) (.call 9 [(.tmp 85)]) none) :: o7_20)
theorem v7_21 : type_of% (@swd _ _ o7_21.eq_1) := @swd _ _ o7_21.eq_1
def o7_22 : List SO := ((SO.mk (some 79) (.load 26 (.tmp 78)) none) :: (SO.mk (some 80) (.move (.tmp 2)) none) :: (SO.mk (some 81) (.iaddr 26 (.tmp 79) (.tmp 80)) none) :: (SO.mk (some 82) (.faddr 41 (.tmp 81) 0) none) :: o7_21)
theorem v7_22 : type_of% (@swd _ _ o7_22.eq_1) := @swd _ _ o7_22.eq_1
def o7_23 : List SO := ((SO.mk (some 75) (.faddr 28 (.tmp 13) 2) none) :: (SO.mk (some 76) (.load 26 (.tmp 75)) none) :: (SO.mk (some 77) (.move (.tmp 2)) none) :: (SO.mk (some 78) (.faddr 28 (.tmp 13) 2) none) :: o7_22)
theorem v7_23 : type_of% (@swd _ _ o7_23.eq_1) := @swd _ _ o7_23.eq_1
theorem m7_23 (B : Nat) : mkNames B o7_23 = [] := (rfl)
def c7_24 : SC := (.seq (.reg [SO.mk (some 89) (.load 28 (.tmp 13)) none, SO.mk none (.store 28 (.tmp 8) (.tmp 89)) none, SO.mk (some 9) (.move (.const (Value.int .i64 0))) none]) (.keep [8, 9] .ret))
theorem u7_24 : type_of% (@swc _ _ c7_24.eq_1) := @swc _ _ c7_24.eq_1
def c7_25 : SC := (.seq (.dreg false o7_23 [SO.mk none (.store 29 (.tmp 88) (.tmp 86)) none]) (.keep [13, 8] c7_24))
theorem u7_25 : type_of% (@swc _ _ c7_25.eq_1) := @swc _ _ c7_25.eq_1
def c7_26 : SC := (.seq (.seq (.reg [SO.mk (some 68) (.move (.tmp 11)) none]) (.keep [68, 2, 3, 13, 8] c7_19)) (.keep [2, 3, 13, 8] c7_25))
theorem u7_26 : type_of% (@swc _ _ c7_26.eq_1) := @swc _ _ c7_26.eq_1
def c7_27 : SC := (.seq (.seq (.reg [SO.mk (some 64) (.move (.tmp 10)) none, SO.mk (some 65) (.bin .neq 31 (.tmp 64) (.const (Value.int .i64 0))) none]) (.keep [65, 10, 11, 2, 3, 13, 8] c7_16)) (.keep [11, 2, 3, 13, 8] c7_26))
theorem u7_27 : type_of% (@swc _ _ c7_27.eq_1) := @swc _ _ c7_27.eq_1
def c7_28 : SC := (.seq (.reg ((SO.mk (some 60) (.load 28 (.tmp 5)) none) :: (SO.mk (some 61) (.call 15 [(.tmp 60)]) none) :: (SO.mk (some 59) (.move (.tmp 61)) none) :: (SO.mk (some 62) (.extract (.tmp 59) 0) none) :: o7_14)) (.keep [10, 11, 2, 3, 13, 8] c7_27))
theorem u7_28 : type_of% (@swc _ _ c7_28.eq_1) := @swc _ _ c7_28.eq_1
def c7_29 : SC := (.seq (.seq (.reg [SO.mk (some 54) (.move (.tmp 12)) none, SO.mk (some 55) (.faddr 23 (.tmp 4) 3) none, SO.mk (some 56) (.load 3 (.tmp 55)) none, SO.mk (some 57) (.bin .gtr 3 (.tmp 54) (.tmp 56)) none]) (.keep [57, 5, 11, 2, 3, 8] c7_13)) (.keep [5, 11, 2, 3, 8] c7_28))
theorem u7_29 : type_of% (@swc _ _ c7_29.eq_1) := @swc _ _ c7_29.eq_1
def c7_30 : SC := (.seq (.seq (.reg [SO.mk (some 43) (.move (.tmp 11)) none, SO.mk (some 44) (.un .not (.tmp 43)) none]) (.keep [44, 12, 4, 5, 11, 2, 3, 8] c7_11)) (.keep [12, 4, 5, 11, 2, 3, 8] c7_29))
theorem u7_30 : type_of% (@swc _ _ c7_30.eq_1) := @swc _ _ c7_30.eq_1
def c7_31 : SC := (.seq (.reg [SO.mk (some 41) (.move (.tmp 3)) none, SO.mk (some 42) (.len 29 (.tmp 41)) none, SO.mk (some 12) (.move (.tmp 42)) none]) (.keep [12, 4, 5, 11, 2, 3, 8] c7_30))
theorem u7_31 : type_of% (@swc _ _ c7_31.eq_1) := @swc _ _ c7_31.eq_1
def c7_32 : SC := (.seq (.seq (.reg ((SO.mk (some 32) (.move (.tmp 11)) none) :: (SO.mk (some 33) (.un .not (.tmp 32)) none) :: (SO.mk (some 34) (.move (.tmp 33)) none) :: (SO.mk (some 35) (.load 28 (.tmp 5)) (some (34 , true))) :: o7_5)) (.keep [39, 4, 5, 11, 2, 3, 8] c7_7)) (.keep [4, 5, 11, 2, 3, 8] c7_31))
theorem u7_32 : type_of% (@swc _ _ c7_32.eq_1) := @swc _ _ c7_32.eq_1
def c7_33 : SC := (.seq (.reg ((SO.mk (some 21) (.move (.tmp 2)) none) :: (SO.mk (some 22) (.faddr 28 (.tmp 5) 2) none) :: (SO.mk (some 23) (.load 26 (.tmp 22)) none) :: (SO.mk (some 24) (.len 26 (.tmp 23)) none) :: o7_4)) (.keep [4, 5, 11, 2, 3, 8] c7_32))
theorem u7_33 : type_of% (@swc _ _ c7_33.eq_1) := @swc _ _ c7_33.eq_1
def c7_34 : SC := (.seq (.seq (.reg [SO.mk (some 17) (.move (.tmp 10)) none, SO.mk (some 18) (.bin .neq 31 (.tmp 17) (.const (Value.int .i64 0))) none]) (.keep [18, 10, 4, 5, 2, 3, 8] c7_2)) (.keep [4, 5, 2, 3, 8] c7_33))
theorem u7_34 : type_of% (@swc _ _ c7_34.eq_1) := @swc _ _ c7_34.eq_1
def c7_35 : SC := (.seq (.reg [SO.mk (some 14) (.load 23 (.tmp 4)) none, SO.mk (some 15) (.load 28 (.tmp 5)) none, SO.mk (some 16) (.call 13 [(.tmp 14), (.tmp 15)]) none, SO.mk (some 10) (.move (.tmp 16)) none]) (.keep [10, 4, 5, 2, 3, 8] c7_34))
theorem u7_35 : type_of% (@swc _ _ c7_35.eq_1) := @swc _ _ c7_35.eq_1
def c7 : SC := (.seq (.reg [SO.mk (some 4) (.box 23 (.tmp 0)) none, SO.mk (some 5) (.box 28 (.tmp 1)) none, SO.mk (some 8) (.alloc 28) none, SO.mk (some 9) (.move (.const (Value.int .i64 0))) none]) (.keep [4, 5, 2, 3, 8] c7_35))
theorem c7_eq : annC Try.f7 = some c7 := by kernel_rfl
theorem r7 : Try.f7.results.toList = [.cell 8 28, .tmp 9] := by kernel_rfl
theorem e7 : enters Try.prog 7 = true := by kernel_rfl
def o3_1 : List SO := ((SO.mk (some 24) (.extract (.tmp 16) 1) none) :: (SO.mk (some 10) (.alloc 28) none) :: [])
theorem v3_1 : type_of% (@swd _ _ o3_1.eq_1) := @swd _ _ o3_1.eq_1
def o3_2 : List SO := ((SO.mk (some 21) (.call 6 [(.tmp 20)]) none) :: (SO.mk (some 22) (.call 5 [(.tmp 17), (.tmp 18), (.tmp 19), (.tmp 21)]) none) :: (SO.mk (some 16) (.move (.tmp 22)) none) :: (SO.mk (some 23) (.extract (.tmp 16) 0) none) :: o3_1)
theorem v3_2 : type_of% (@swd _ _ o3_2.eq_1) := @swd _ _ o3_2.eq_1
def o3_3 : List SO := ((SO.mk (some 17) (.load 23 (.tmp 4)) none) :: (SO.mk (some 18) (.load 28 (.tmp 9)) none) :: (SO.mk (some 19) (.move (.tmp 2)) none) :: (SO.mk (some 20) (.move (.tmp 3)) none) :: o3_2)
theorem v3_3 : type_of% (@swd _ _ o3_3.eq_1) := @swd _ _ o3_3.eq_1
theorem m3_3 (B : Nat) : mkNames B o3_3 = [B + 10] := (rfl)
def o3_4 : List SO := ((SO.mk (some 12) (.alloc 28) none) :: (SO.mk none (.store 28 (.tmp 12) (.tmp 31)) none) :: (SO.mk (some 13) (.move (.tmp 32)) none) :: [])
theorem v3_4 : type_of% (@swl _ _ o3_4.eq_1) := @swl _ _ o3_4.eq_1
def o3_5 : List SO := ((SO.mk (some 30) (.call 7 [(.tmp 26), (.tmp 27), (.tmp 28), (.tmp 29)]) none) :: (SO.mk (some 25) (.move (.tmp 30)) none) :: (SO.mk (some 31) (.extract (.tmp 25) 0) none) :: (SO.mk (some 32) (.extract (.tmp 25) 1) none) :: o3_4)
theorem v3_5 : type_of% (@swl _ _ o3_5.eq_1) := @swl _ _ o3_5.eq_1
def o3_6 : List SO := ((SO.mk (some 45) (.pick (.tmp 41) (.tmp 44) (.const (Value.bool false))) none) :: (SO.mk (some 8) (.move (.tmp 45)) none) :: [])
theorem v3_6 : type_of% (@swl _ _ o3_6.eq_1) := @swl _ _ o3_6.eq_1
def o3_7 : List SO := ((SO.mk (some 41) (.move (.tmp 40)) none) :: (SO.mk (some 42) (.load 28 (.tmp 9)) (some (41 , true))) :: (SO.mk (some 43) (.load 28 (.tmp 5)) (some (41 , true))) :: (SO.mk (some 44) (.call 8 [(.tmp 42), (.tmp 43)]) (some (41 , true))) :: o3_6)
theorem v3_7 : type_of% (@swl _ _ o3_7.eq_1) := @swl _ _ o3_7.eq_1
def o3_8 : List SO := ((SO.mk (some 37) (.load 28 (.tmp 10)) (some (36 , true))) :: (SO.mk (some 38) (.load 28 (.tmp 12)) (some (36 , true))) :: (SO.mk (some 39) (.call 8 [(.tmp 37), (.tmp 38)]) (some (36 , true))) :: (SO.mk (some 40) (.pick (.tmp 36) (.tmp 39) (.const (Value.bool false))) none) :: o3_7)
theorem v3_8 : type_of% (@swl _ _ o3_8.eq_1) := @swl _ _ o3_8.eq_1
def c3_9 : SC := (.seq (.reg ((SO.mk (some 33) (.move (.tmp 11)) none) :: (SO.mk (some 34) (.move (.tmp 13)) none) :: (SO.mk (some 35) (.bin .eql 31 (.tmp 33) (.tmp 34)) none) :: (SO.mk (some 36) (.move (.tmp 35)) none) :: o3_8)) (.keep [8] .ret))
theorem u3_9 : type_of% (@swc _ _ c3_9.eq_1) := @swc _ _ c3_9.eq_1
def c3_10 : SC := (.seq (.reg ((SO.mk (some 26) (.load 23 (.tmp 4)) none) :: (SO.mk (some 27) (.load 28 (.tmp 5)) none) :: (SO.mk (some 28) (.move (.tmp 2)) none) :: (SO.mk (some 29) (.move (.tmp 3)) none) :: o3_5)) (.keep [11, 13, 10, 12, 9, 5] c3_9))
theorem u3_10 : type_of% (@swc _ _ c3_10.eq_1) := @swc _ _ c3_10.eq_1
def c3_11 : SC := (.seq (.dreg false o3_3 [SO.mk none (.store 28 (.tmp 10) (.tmp 23)) none, SO.mk (some 11) (.move (.tmp 24)) none]) (.keep [4, 2, 3, 11, 10, 9, 5] c3_10))
theorem u3_11 : type_of% (@swc _ _ c3_11.eq_1) := @swc _ _ c3_11.eq_1
def c3_12 : SC := (.seq (.reg [SO.mk (some 14) (.load 28 (.tmp 5)) none, SO.mk (some 15) (.call 4 [(.tmp 14)]) none, SO.mk (some 9) (.alloc 28) none, SO.mk none (.store 28 (.tmp 9) (.tmp 15)) none]) (.keep [4, 2, 3, 9, 5] c3_11))
theorem u3_12 : type_of% (@swc _ _ c3_12.eq_1) := @swc _ _ c3_12.eq_1
def c3 : SC := (.seq (.reg [SO.mk (some 4) (.box 23 (.tmp 0)) none, SO.mk (some 5) (.box 28 (.tmp 1)) none, SO.mk (some 8) (.move (.const (Value.bool false))) none]) (.keep [4, 2, 3, 5] c3_12))
theorem c3_eq : annC Try.f3 = some c3 := by kernel_rfl
theorem r3 : Try.f3.results.toList = [.tmp 8] := by kernel_rfl
theorem e3 : enters Try.prog 3 = true := by kernel_rfl
end Go.Proofs.Ytelciiooegiikaa
namespace Go.Proofs.Ytelciiooegiikaa
open Go.RowKit
set_option maxHeartbeats 4000000
set_option maxRecDepth 20000
attribute [local irreducible] SW OSW SWL SWLn SWD SEcall SEcallv SDv SE SO1 SOg ACalls ACallv Wk EndV
set_option linter.unusedSimpArgs false
set_option linter.unusedVariables false
theorem vols_set2 {l : List VolD} {n : Nat} (x : List UInt8) (s : Int) (g : Bool) : (l.map VolD.row).set n [.ro (x.map by_), .v (.int .i64 s), .v (.bool g)] = (l.set n ⟨x, s, g⟩).map VolD.row := by
  rw [List.map_set]; rfl
theorem appOf_p (g : GeoD) (d : DevD) (v : Int) (b : List UInt8) (hw : d.fit) : Pure Try.prog 7 [g.av, d.av, I v, .d (bytes b)] (.tup [(appD g d v b).av, I (appE g d v b)]) := by
  refine pureY_of follows Try.func7 c7_eq r7 (Nat.le_of_ble_eq_true rfl) fun B σ hcl hsz => ?_
  obtain ⟨z1, z2, z3⟩ := dev_sz (hsz d.av (by simp))
  have z4 : b.length ≤ 2 ^ 47 := by simpa using (show Sized (bytes b) from hsz (.d (bytes b)) (by simp)).len
  clear hsz
  rcases app_c g d v b with ⟨v, h1, h1', hs, hn⟩ | ⟨v, h1, hf, hv, hs, hn⟩ | ⟨h1, hg2, hb, hs, hn⟩ | ⟨h1, hg2, hb, h2, hs, hn, hq, hbad⟩ | ⟨h1, hg2, hb, h2, hs, hV⟩ | ⟨n, h1, hn1, hne, hv, hb, hr, hs, hn⟩ | ⟨n, h1, hn1, hne, hv, hb, hb2, hr, h2, hs, hn, hq, hbad⟩ | ⟨n, h1, hn1, hne, hv, hb, hb2, hr, h2, hs, hV⟩
  all_goals (try (rcases hf with hf | ⟨hf, hf2⟩))
  all_goals (try have hrow : rowOf (d.vols.map VolD.row) n = VolD.row d.vols[n]! := rowOf_map _ _ _ hn1)
  all_goals (try have hv8 := (okd h1).vols)
  all_goals (try have hvd := (okd h1).vol _ hn1)
  all_goals (try have hw1 : IntKind.i64.wrap ((b.length : Int) + ((d.vols[n]!).data.length : Int)) = (b.length : Int) + ((d.vols[n]!).data.length : Int) := IntWalk.i64_in _ (by omega))
  all_goals (try have hvl := volume_le h1)
  all_goals (try (have hsum : (d.vols[n]!).data.length + b.length ≤ 2 ^ 47 := by simp only [decide_eq_false_iff_not] at hb2; omega))
  all_goals (try have hfr : rowOf (d.vols.map VolD.row ++ [[.v (.slice none 0 0), .v (.int .i64 0), .v (.bool false)]]) d.vols.length = [.v (.slice none 0 0), .v (.int .i64 0), .v (.bool false)] := by simp [rowOf])
  all_goals (try have hfr2 : rowOf (d.vols.map VolD.row ++ [[.ro [], .v (.int .i64 0), .v (.bool false)]]) d.vols.length = [.ro [], .v (.int .i64 0), .v (.bool false)] := by simp [rowOf])
  repeat' (first | (simp -implicitDefEqProofs only [*, contN, contC, Nat.reduceBEq, Bool.or_false, Bool.or_true, Bool.false_or, Bool.true_or, Bool.not_true, Bool.not_false, SEconv, w_skip, w_ret, w_exit, w_reg, w_dreg, w_oreg, HO_app, w_odone, w_onil, w_ofst, w_obr, w_seq, SK_n, SK_r, SK_x, w_keep, w_block, w_cond, w_nil, w_cons, w_consg, w_nnil, w_ncons, w_dnil, w_dcons, w_dconsg, HK_app, HD_app, HQ_n, HQ_r, HQ_x, HQ_bn, HQ_br, HQ_bx, HQ_en, HQ_er, HQ_ex, CondB_true, CondB_false, SO1, w_sdv, SDe_alloc, SDe_box, SDe_bslice, SDe_app, true_imp_iff, false_imp_iff, and_false, false_and, not_false_eq_true, not_true_eq_false, addN, mkNames, killT, killD, killO, List.foldl_nil, List.foldl_cons, List.append_nil, List.nil_append, List.cons_append, GuardS_true, GuardS_false, GuardD_true, GuardD_false, DK_true, DK_false, lt_self_add, le_self_add, decide_true, decide_false, Bool.false_eq_true, Bool.true_eq_false, Nat.add_left_cancel_iff, SE, SEalloc, SEbox, SEstore, w_bs, SEbl, SEfz, SEbs0, fzName, osOf, AV.fz1, w_app, w_mk, aev, opd, Fr.get, putO, Fr.norm, List.map_cons, List.map_nil, with1, with2, onInt, AV.lit, entry, ↓reduceIte, Nat.reduceEqDiff, Nat.reduceAdd, reduceCtorEq, true_and, and_true, Option.map_some, Option.map_none, Option.bind_some, Option.bind_none, cond_true, cond_false, binV, unV, fieldV, loadV, sto, cellsAV, newF, newL, Fr.map, Loc.kill, Loc.set, AO.kill, AV.kill, AV.mapN, AV.mapNL, List.filter_nil, List.filter_cons, allP, EndV, retV, resV, resL, frz, dropL, AV.pick, nilV, tupV, imp_self, ne_eq, Int.cast_ofNat_Int, Int.reduceLT, Int.reduceToNat, List.getD_cons_zero, List.getD_cons_succ, bsliceV, buildV, afill, repl, chunk, rvs, AV.rv, RV.nrm, List.getElem?_nil, List.append_assoc, Nat.reduceMul, Nat.reducePow, Nat.zero_lt_succ, Nat.zero_add, Nat.add_zero, List.length_cons, List.length_nil, Nat.reduceLeDiff, Nat.le_refl, List.take_succ_cons, List.take_zero, List.drop_succ_cons, List.drop_zero, indexV, lenV, rowOf_mapD, rowOf_mapI, rowOf_mapA, List.length_map, Int.toNat_natCast, List.getElem?_cons_zero, List.getElem?_cons_succ, and_self, implies_true, if_true, if_false, HQ_zn, HQ_zr, HQ_wn, HQ_wr, AV.nz, AV.nzL, RV.nrm, SEbin, SEnil, nilK, srcV, dstV, appName, List.length_append, Nat.mul_one, take_map_len, take_map_app, List.getElem?_cons_zero, List.map_append, SEmkmap, SEmset, mgetV, kvOf, getM, setM, w_bsH, SEapA, SEapB, bsliceA, c7, r7, u7_1, u7_2, v7_3, v7_4, v7_5, u7_6, u7_7, v7_8, v7_9, u7_10, u7_11, u7_12, u7_13, v7_14, u7_15, u7_16, v7_17, u7_18, u7_19, v7_20, v7_21, v7_22, v7_23, m7_23, u7_24, u7_25, u7_26, u7_27, u7_28, u7_29, u7_30, u7_31, u7_32, u7_33, u7_34, u7_35, ty23, ty28, ty31, ty26, ty3, ty29, ty41, ty24, ty5, GeoD.av, DevD.av, devA, devL, HQ_yn, HQ_yr, Loc.nz, AO.nz, bne_self_eq_false, beq_self_eq_true, nilD, bytes, VolD.row]) | (with_reducible refine And.intro ?_ ?_) | (refine call_ro e13 ( devFault_p g d) rfl ?_ ?_ ?_ ?_) | (refine gcall_ro e13 ( devFault_p g d) rfl ?_ ?_ ?_ ?_) | (refine dcall_ro e13 ( devFault_p g d) rfl ?_ ?_ ?_ ?_) | (refine gdcall_ro rfl e13 ( devFault_p g d) rfl ?_ ?_ ?_ ?_) | (refine call_ro e14 ( volumeMay_p d _) rfl ?_ ?_ ?_ ?_) | (refine gcall_ro e14 ( volumeMay_p d _) rfl ?_ ?_ ?_ ?_) | (refine dcall_ro e14 ( volumeMay_p d _) rfl ?_ ?_ ?_ ?_) | (refine gdcall_ro rfl e14 ( volumeMay_p d _) rfl ?_ ?_ ?_ ?_) | (refine call_ro e15 ( spent_bad d h2) rfl ?_ ?_ ?_ ?_) | (refine gcall_ro e15 ( spent_bad d h2) rfl ?_ ?_ ?_ ?_) | (refine dcall_ro e15 ( spent_bad d h2) rfl ?_ ?_ ?_ ?_) | (refine gdcall_ro rfl e15 ( spent_bad d h2) rfl ?_ ?_ ?_ ?_) | (refine call_ro e9 ( joined2_p (d.vols[n]!).data b hsum) rfl ?_ ?_ ?_ ?_) | (refine gcall_ro e9 ( joined2_p (d.vols[n]!).data b hsum) rfl ?_ ?_ ?_ ?_) | (refine dcall_ro e9 ( joined2_p (d.vols[n]!).data b hsum) rfl ?_ ?_ ?_ ?_) | (refine gdcall_ro rfl e9 ( joined2_p (d.vols[n]!).data b hsum) rfl ?_ ?_ ?_ ?_) | (refine call_ro e9 ( joined2_p [] b (by simpa using z4)) rfl ?_ ?_ ?_ ?_) | (refine gcall_ro e9 ( joined2_p [] b (by simpa using z4)) rfl ?_ ?_ ?_ ?_) | (refine dcall_ro e9 ( joined2_p [] b (by simpa using z4)) rfl ?_ ?_ ?_ ?_) | (refine gdcall_ro rfl e9 ( joined2_p [] b (by simpa using z4)) rfl ?_ ?_ ?_ ?_) | (refine call_own [B + 90001, B + 90002, B + 90003] (devL (B + 90001) (B + 90002) (B + 90003) d.safe d.cache d.vols) e15 (spent_good d hw h2 _ _ (B + 90001) (B + 90002) (B + 90003) (Free3.new hcl (by simp [AO.kill, AV.kill, AV.mapN]))) rfl ?_ ?_ ?_ ?_ ?_) | (refine EndX.plain ?_) | (refine nil_split (fun hn => ?_) (fun hn => ?_)) | (refine gcall_no not_false ?_) | (refine gdcall_no not_false ?_) | (refine GuardS_of _ _ _ _ _ _ (fun hg => ?_) (fun hg => ?_)) | (refine GuardD_of _ _ _ _ (fun hg => ?_) (fun hg => ?_)) | (refine CondB_of _ _ _ _ _ _ _ ?_ (fun hg => ?_) (fun hg => ?_)))
  all_goals (try (first | ((first | unfold noN | unfold Fr.below | unfold Loc.below); simp [Fr.allN, AV.allN, AV.allNL, AO.allN]; done) | rfl | trivial | assumption | (intro row hrow; simp only [List.mem_map] at hrow; obtain ⟨x, _, rfl⟩ := hrow; rfl) | (refine Wk.keep hcl ?_ ?_ ?_; (focus (simp [Fr.get, GeoD.av, DevD.av, devA, devL, HQ_yn, HQ_yr, Loc.nz, AO.nz, bne_self_eq_false, beq_self_eq_true, nilD, bytes, VolD.row] <;> fail)); (focus (simp [sto, GeoD.av, DevD.av, devA, devL, HQ_yn, HQ_yr, Loc.nz, AO.nz, bne_self_eq_false, beq_self_eq_true, nilD, bytes, VolD.row] <;> fail)); (focus (simp <;> fail))) | (simp [allP, opd, Fr.get, Fr.below, Fr.allN, AV.allN, AV.allNL, Loc.below, AO.allN, noN, killO, killT, killD, mkNames, AO.kill, AV.kill, AV.mapN, AV.mapNL]; done) | (with_reducible exact ltD (by assumption)) | omega | (simp only [decide_eq_true_eq, decide_eq_false_iff_not] at *; omega)))
  all_goals (try first
    | exact res_errS rfl hs hn
    | omega)
  · rw [if_pos (by simp)]
    refine res_okS (f := ⟨d.safe, d.cache, appV g d d.vols.length b, fuel1 d⟩) rfl hs rfl rfl ?_ rfl
    rw [List.take_of_length_le (by simp), List.set_append_right _ _ (by simp)]
    simp only [List.length_map, Nat.sub_self, List.set_cons_zero]
    rw [vols_app, hV]
  · rw [if_pos (by simp)]
    refine res_okS (f := ⟨d.safe, d.cache, appV g d n b, fuel1 d⟩) rfl hs rfl rfl ?_ rfl
    rw [List.take_of_length_le (by simp), ← List.map_append, vols_set2, hV]
theorem devAppends_p (g : GeoD) (d : DevD) (v : Int) (b : List UInt8) (hw : d.fit) : Pure Try.prog 3 [g.av, d.av, I v, .d (bytes b)] (Bo true) := by
  refine pure_of follows Try.func3 c3_eq r3 (Nat.le_of_ble_eq_true rfl) fun B σ hcl hsz => ?_
  clear hsz
  repeat' (first | (simp -implicitDefEqProofs only [*, contN, contC, Nat.reduceBEq, Bool.or_false, Bool.or_true, Bool.false_or, Bool.true_or, Bool.not_true, Bool.not_false, SEconv, w_skip, w_ret, w_exit, w_reg, w_dreg, w_oreg, HO_app, w_odone, w_onil, w_ofst, w_obr, w_seq, SK_n, SK_r, SK_x, w_keep, w_block, w_cond, w_nil, w_cons, w_consg, w_nnil, w_ncons, w_dnil, w_dcons, w_dconsg, HK_app, HD_app, HQ_n, HQ_r, HQ_x, HQ_bn, HQ_br, HQ_bx, HQ_en, HQ_er, HQ_ex, CondB_true, CondB_false, SO1, w_sdv, SDe_alloc, SDe_box, SDe_bslice, SDe_app, true_imp_iff, false_imp_iff, and_false, false_and, not_false_eq_true, not_true_eq_false, addN, mkNames, killT, killD, killO, List.foldl_nil, List.foldl_cons, List.append_nil, List.nil_append, List.cons_append, GuardS_true, GuardS_false, GuardD_true, GuardD_false, DK_true, DK_false, lt_self_add, le_self_add, decide_true, decide_false, Bool.false_eq_true, Bool.true_eq_false, Nat.add_left_cancel_iff, SE, SEalloc, SEbox, SEstore, w_bs, SEbl, SEfz, SEbs0, fzName, osOf, AV.fz1, w_app, w_mk, aev, opd, Fr.get, putO, Fr.norm, List.map_cons, List.map_nil, with1, with2, onInt, AV.lit, entry, ↓reduceIte, Nat.reduceEqDiff, Nat.reduceAdd, reduceCtorEq, true_and, and_true, Option.map_some, Option.map_none, Option.bind_some, Option.bind_none, cond_true, cond_false, binV, unV, fieldV, loadV, sto, cellsAV, newF, newL, Fr.map, Loc.kill, Loc.set, AO.kill, AV.kill, AV.mapN, AV.mapNL, List.filter_nil, List.filter_cons, allP, EndV, retV, resV, resL, frz, dropL, AV.pick, nilV, tupV, imp_self, ne_eq, Int.cast_ofNat_Int, Int.reduceLT, Int.reduceToNat, List.getD_cons_zero, List.getD_cons_succ, bsliceV, buildV, afill, repl, chunk, rvs, AV.rv, RV.nrm, List.getElem?_nil, List.append_assoc, Nat.reduceMul, Nat.reducePow, Nat.zero_lt_succ, Nat.zero_add, Nat.add_zero, List.length_cons, List.length_nil, Nat.reduceLeDiff, Nat.le_refl, List.take_succ_cons, List.take_zero, List.drop_succ_cons, List.drop_zero, indexV, lenV, rowOf_mapD, rowOf_mapI, rowOf_mapA, List.length_map, Int.toNat_natCast, List.getElem?_cons_zero, List.getElem?_cons_succ, and_self, implies_true, if_true, if_false, HQ_zn, HQ_zr, HQ_wn, HQ_wr, AV.nz, AV.nzL, RV.nrm, SEbin, SEnil, nilK, srcV, dstV, appName, List.length_append, Nat.mul_one, take_map_len, take_map_app, List.getElem?_cons_zero, List.map_append, SEmkmap, SEmset, mgetV, kvOf, getM, setM, w_bsH, SEapA, SEapB, bsliceA, c3, r3, v3_1, v3_2, v3_3, m3_3, v3_4, v3_5, v3_6, v3_7, v3_8, u3_9, u3_10, u3_11, u3_12, ty23, ty28, ty31, GeoD.av, DevD.av, bytes, bne_self_eq_false, beq_self_eq_true]) | (with_reducible refine And.intro ?_ ?_) | (refine call_ro e4 ( devCopy_p d hw) rfl ?_ ?_ ?_ ?_) | (refine gcall_ro e4 ( devCopy_p d hw) rfl ?_ ?_ ?_ ?_) | (refine dcall_ro e4 ( devCopy_p d hw) rfl ?_ ?_ ?_ ?_) | (refine gdcall_ro rfl e4 ( devCopy_p d hw) rfl ?_ ?_ ?_ ?_) | (refine call_ro e6 ( octets_p b) rfl ?_ ?_ ?_ ?_) | (refine gcall_ro e6 ( octets_p b) rfl ?_ ?_ ?_ ?_) | (refine dcall_ro e6 ( octets_p b) rfl ?_ ?_ ?_ ?_) | (refine gdcall_ro rfl e6 ( octets_p b) rfl ?_ ?_ ?_ ?_) | (refine call_ro e5 ( append_p g d v b hw) rfl ?_ ?_ ?_ ?_) | (refine gcall_ro e5 ( append_p g d v b hw) rfl ?_ ?_ ?_ ?_) | (refine dcall_ro e5 ( append_p g d v b hw) rfl ?_ ?_ ?_ ?_) | (refine gdcall_ro rfl e5 ( append_p g d v b hw) rfl ?_ ?_ ?_ ?_) | (refine call_ro e7 ( appOf_p g d v b hw) rfl ?_ ?_ ?_ ?_) | (refine gcall_ro e7 ( appOf_p g d v b hw) rfl ?_ ?_ ?_ ?_) | (refine dcall_ro e7 ( appOf_p g d v b hw) rfl ?_ ?_ ?_ ?_) | (refine gdcall_ro rfl e7 ( appOf_p g d v b hw) rfl ?_ ?_ ?_ ?_) | (refine call_ro e8 ( sameDev_self (appD g d v b)) rfl ?_ ?_ ?_ ?_) | (refine gcall_ro e8 ( sameDev_self (appD g d v b)) rfl ?_ ?_ ?_ ?_) | (refine dcall_ro e8 ( sameDev_self (appD g d v b)) rfl ?_ ?_ ?_ ?_) | (refine gdcall_ro rfl e8 ( sameDev_self (appD g d v b)) rfl ?_ ?_ ?_ ?_) | (refine call_ro e8 ( sameDev_self d) rfl ?_ ?_ ?_ ?_) | (refine gcall_ro e8 ( sameDev_self d) rfl ?_ ?_ ?_ ?_) | (refine dcall_ro e8 ( sameDev_self d) rfl ?_ ?_ ?_ ?_) | (refine gdcall_ro rfl e8 ( sameDev_self d) rfl ?_ ?_ ?_ ?_) | (refine EndX.plain ?_) | (refine nil_split (fun hn => ?_) (fun hn => ?_)) | (refine gcall_no not_false ?_) | (refine gdcall_no not_false ?_) | (refine GuardS_of _ _ _ _ _ _ (fun hg => ?_) (fun hg => ?_)) | (refine GuardD_of _ _ _ _ (fun hg => ?_) (fun hg => ?_)) | (refine CondB_of _ _ _ _ _ _ _ ?_ (fun hg => ?_) (fun hg => ?_)))
  all_goals (try (first | ((first | unfold noN | unfold Fr.below | unfold Loc.below); simp [Fr.allN, AV.allN, AV.allNL, AO.allN]; done) | rfl | trivial | assumption | (intro row hrow; simp only [List.mem_map] at hrow; obtain ⟨x, _, rfl⟩ := hrow; rfl) | (refine Wk.keep hcl ?_ ?_ ?_; (focus (simp [Fr.get, GeoD.av, DevD.av, bytes, bne_self_eq_false, beq_self_eq_true] <;> fail)); (focus (simp [sto, GeoD.av, DevD.av, bytes, bne_self_eq_false, beq_self_eq_true] <;> fail)); (focus (simp <;> fail))) | (simp [allP, opd, Fr.get, Fr.below, Fr.allN, AV.allN, AV.allNL, Loc.below, AO.allN, noN, killO, killT, killD, mkNames, AO.kill, AV.kill, AV.mapN, AV.mapNL]; done) | (with_reducible exact ltD (by assumption)) | omega | (simp only [decide_eq_true_eq, decide_eq_false_iff_not] at *; omega)))
end Go.Proofs.Ytelciiooegiikaa
