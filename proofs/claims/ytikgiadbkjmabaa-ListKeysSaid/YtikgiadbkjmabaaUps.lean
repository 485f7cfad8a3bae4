/- All uploads that may be. -/
import Derived.Test.YtikgiadbkjmabaaSound
import Derived.Test.YtikgiadbkjmabaaBkts
import Derived.Test.YtikgiadbkjmabaaTypes
namespace Go.Proofs.Ytikgiadbkjmabaa
open Go.RowKit
set_option maxRecDepth 100000
def o39_1:List SO:=((SO.mk (some 5) (.move (.tmp 16)) none) :: (SO.mk none (.store 83 (.tmp 6) (.tmp 18)) none) :: [])
theorem v39_1:type_of% (@swl _ _ o39_1.eq_1):=@swl _ _ o39_1.eq_1
def o39_2:List SO:=((SO.mk (some 8) (.move (.tmp 25)) none) :: [])
theorem v39_2:type_of% (@swl _ _ o39_2.eq_1):=@swl _ _ o39_2.eq_1
def o39_3:List SO:=((SO.mk (some 19) (.move (.tmp 23)) none) :: (SO.mk (some 24) (.extract (.tmp 19) 0) none) :: (SO.mk (some 25) (.extract (.tmp 19) 1) none) :: (SO.mk (some 7) (.move (.tmp 24)) none) :: o39_2)
theorem v39_3:type_of% (@swl _ _ o39_3.eq_1):=@swl _ _ o39_3.eq_1
def o39_4:List SO:=((SO.mk (some 30) (.load 9 (.tmp 29)) (some (28 ,false))) :: [])
theorem v39_4:type_of% (@swd _ _ o39_4.eq_1):=@swd _ _ o39_4.eq_1
def o39_5:List SO:=((SO.mk (some 26) (.move (.tmp 8)) none) :: (SO.mk (some 27) (.un .not (.tmp 26)) none) :: (SO.mk (some 28) (.move (.tmp 27)) none) :: (SO.mk (some 29) (.faddr 83 (.tmp 6) 2) (some (28 ,false))) :: o39_4)
theorem v39_5:type_of% (@swd _ _ o39_5.eq_1):=@swd _ _ o39_5.eq_1
theorem m39_5 (B:Nat):mkNames B o39_5 = []:=(rfl)
def o39_6:List SO:=((SO.mk (some 59) (.bin .geq 3 (.tmp 56) (.tmp 58)) (some (49 ,true))) :: (SO.mk (some 60) (.pick (.tmp 49) (.tmp 59) (.const (Value.bool false))) (some (46 ,false))) :: (SO.mk (some 61) (.pick (.tmp 46) (.const (Value.bool true)) (.tmp 60)) none) :: [])
theorem v39_6:type_of% (@swl _ _ o39_6.eq_1):=@swl _ _ o39_6.eq_1
def o39_7:List SO:=((SO.mk (some 55) (.faddr 83 (.tmp 54) 0) (some (49 ,true))) :: (SO.mk (some 56) (.load 3 (.tmp 55)) (some (49 ,true))) :: (SO.mk (some 57) (.faddr 83 (.tmp 6) 0) (some (49 ,true))) :: (SO.mk (some 58) (.load 3 (.tmp 57)) (some (49 ,true))) :: o39_6)
theorem v39_7:type_of% (@swl _ _ o39_7.eq_1):=@swl _ _ o39_7.eq_1
def o39_8:List SO:=((SO.mk (some 50) (.faddr 28 (.tmp 2) 4) (some (49 ,true))) :: (SO.mk (some 51) (.load 24 (.tmp 50)) (some (49 ,true))) :: (SO.mk (some 53) (.bin .sub 3 (.tmp 52) (.const (Value.int .i64 1))) (some (49 ,true))) :: (SO.mk (some 54) (.iaddr 24 (.tmp 51) (.tmp 53)) (some (49 ,true))) :: o39_7)
theorem v39_8:type_of% (@swl _ _ o39_8.eq_1):=@swl _ _ o39_8.eq_1
def o39_9:List SO:=((SO.mk (some 47) (.move (.tmp 5)) (some (46 ,false))) :: (SO.mk (some 48) (.bin .gtr 3 (.tmp 47) (.const (Value.int .i64 0))) (some (46 ,false))) :: (SO.mk (some 49) (.move (.tmp 48)) (some (46 ,false))) :: (SO.mk (some 52) (.move (.tmp 5)) (some (49 ,true))) :: o39_8)
theorem v39_9:type_of% (@swl _ _ o39_9.eq_1):=@swl _ _ o39_9.eq_1
def o39_10:List SO:=((SO.mk (some 43) (.load 3 (.tmp 42)) (some (39 ,false))) :: (SO.mk (some 44) (.bin .geq 3 (.tmp 41) (.tmp 43)) (some (39 ,false))) :: (SO.mk (some 45) (.pick (.tmp 39) (.const (Value.bool true)) (.tmp 44)) none) :: (SO.mk (some 46) (.move (.tmp 45)) none) :: o39_9)
theorem v39_10:type_of% (@swl _ _ o39_10.eq_1):=@swl _ _ o39_10.eq_1
def o39_11:List SO:=((SO.mk (some 39) (.move (.tmp 38)) none) :: (SO.mk (some 40) (.faddr 83 (.tmp 6) 0) (some (39 ,false))) :: (SO.mk (some 41) (.load 3 (.tmp 40)) (some (39 ,false))) :: (SO.mk (some 42) (.faddr 28 (.tmp 2) 0) (some (39 ,false))) :: o39_10)
theorem v39_11:type_of% (@swl _ _ o39_11.eq_1):=@swl _ _ o39_11.eq_1
def o39_12:List SO:=((SO.mk (some 35) (.faddr 83 (.tmp 6) 0) (some (34 ,false))) :: (SO.mk (some 36) (.load 3 (.tmp 35)) (some (34 ,false))) :: (SO.mk (some 37) (.bin .lss 3 (.tmp 36) (.const (Value.int .i64 1))) (some (34 ,false))) :: (SO.mk (some 38) (.pick (.tmp 34) (.const (Value.bool true)) (.tmp 37)) none) :: o39_11)
theorem v39_12:type_of% (@swl _ _ o39_12.eq_1):=@swl _ _ o39_12.eq_1
def c39_13:SC:=(.seq (.reg [SO.mk (some 4) (.move (.const (Value.bool false))) none]) (.keep [4] .ret))
theorem u39_13:type_of% (@swc _ _ c39_13.eq_1):=@swc _ _ c39_13.eq_1
def c39_14:SC:=(.cond (.tmp 61) c39_13 .skip)
theorem u39_14:type_of% (@swc _ _ c39_14.eq_1):=@swc _ _ c39_14.eq_1
def c39_15:SC:=(.seq (.dreg false o39_5 ((SO.mk (some 31) (.call 63 [(.tmp 30)]) (some (28 ,false))) :: (SO.mk (some 32) (.bin .neq 30 (.tmp 31) (.const (Value.int .i64 0))) (some (28 ,false))) :: (SO.mk (some 33) (.pick (.tmp 28) (.const (Value.bool true)) (.tmp 32)) none) :: (SO.mk (some 34) (.move (.tmp 33)) none) :: o39_12)) (.keep [61,6,14,13,1,12,2] c39_14))
theorem u39_15:type_of% (@swc _ _ c39_15.eq_1):=@swc _ _ c39_15.eq_1
def o39_16:List SO:=((SO.mk (some 9) (.move (.tmp 67)) none) :: (SO.mk none (.store 85 (.tmp 10) (.tmp 69)) none) :: [])
theorem v39_16:type_of% (@swl _ _ o39_16.eq_1):=@swl _ _ o39_16.eq_1
def o39_17:List SO:=((SO.mk (some 90) (.faddr 85 (.tmp 10) 2) (some (88 ,false))) :: (SO.mk (some 91) (.load 26 (.tmp 90)) (some (88 ,false))) :: (SO.mk (some 92) (.faddr 85 (.tmp 10) 1) (some (88 ,false))) :: (SO.mk (some 93) (.load 3 (.tmp 92)) (some (88 ,false))) :: [])
theorem v39_17:type_of% (@swd _ _ o39_17.eq_1):=@swd _ _ o39_17.eq_1
def o39_18:List SO:=((SO.mk (some 86) (.bin .gtr 3 (.tmp 85) (.const (Value.int .i64 600))) (some (83 ,false))) :: (SO.mk (some 87) (.pick (.tmp 83) (.const (Value.bool true)) (.tmp 86)) none) :: (SO.mk (some 88) (.move (.tmp 87)) none) :: (SO.mk (some 89) (.move (.tmp 1)) (some (88 ,false))) :: o39_17)
theorem v39_18:type_of% (@swd _ _ o39_18.eq_1):=@swd _ _ o39_18.eq_1
def o39_19:List SO:=((SO.mk (some 82) (.pick (.tmp 78) (.const (Value.bool true)) (.tmp 81)) none) :: (SO.mk (some 83) (.move (.tmp 82)) none) :: (SO.mk (some 84) (.faddr 85 (.tmp 10) 1) (some (83 ,false))) :: (SO.mk (some 85) (.load 3 (.tmp 84)) (some (83 ,false))) :: o39_18)
theorem v39_19:type_of% (@swd _ _ o39_19.eq_1):=@swd _ _ o39_19.eq_1
def o39_20:List SO:=((SO.mk (some 78) (.move (.tmp 77)) none) :: (SO.mk (some 79) (.faddr 85 (.tmp 10) 1) (some (78 ,false))) :: (SO.mk (some 80) (.load 3 (.tmp 79)) (some (78 ,false))) :: (SO.mk (some 81) (.bin .lss 3 (.tmp 80) (.const (Value.int .i64 0))) (some (78 ,false))) :: o39_19)
theorem v39_20:type_of% (@swd _ _ o39_20.eq_1):=@swd _ _ o39_20.eq_1
def o39_21:List SO:=((SO.mk (some 74) (.faddr 85 (.tmp 10) 0) (some (73 ,false))) :: (SO.mk (some 75) (.load 3 (.tmp 74)) (some (73 ,false))) :: (SO.mk (some 76) (.bin .gtr 3 (.tmp 75) (.const (Value.int .i64 5))) (some (73 ,false))) :: (SO.mk (some 77) (.pick (.tmp 73) (.const (Value.bool true)) (.tmp 76)) none) :: o39_20)
theorem v39_21:type_of% (@swd _ _ o39_21.eq_1):=@swd _ _ o39_21.eq_1
def o39_22:List SO:=((SO.mk (some 70) (.faddr 85 (.tmp 10) 0) none) :: (SO.mk (some 71) (.load 3 (.tmp 70)) none) :: (SO.mk (some 72) (.bin .lss 3 (.tmp 71) (.const (Value.int .i64 1))) none) :: (SO.mk (some 73) (.move (.tmp 72)) none) :: o39_21)
theorem v39_22:type_of% (@swd _ _ o39_22.eq_1):=@swd _ _ o39_22.eq_1
theorem m39_22 (B:Nat):mkNames B o39_22 = []:=(rfl)
def o39_23:List SO:=((SO.mk (some 110) (.bin .geq 3 (.tmp 107) (.tmp 109)) (some (100 ,true))) :: (SO.mk (some 111) (.pick (.tmp 100) (.tmp 110) (.const (Value.bool false))) (some (97 ,false))) :: (SO.mk (some 112) (.pick (.tmp 97) (.const (Value.bool true)) (.tmp 111)) none) :: [])
theorem v39_23:type_of% (@swl _ _ o39_23.eq_1):=@swl _ _ o39_23.eq_1
def o39_24:List SO:=((SO.mk (some 106) (.faddr 85 (.tmp 105) 0) (some (100 ,true))) :: (SO.mk (some 107) (.load 3 (.tmp 106)) (some (100 ,true))) :: (SO.mk (some 108) (.faddr 85 (.tmp 10) 0) (some (100 ,true))) :: (SO.mk (some 109) (.load 3 (.tmp 108)) (some (100 ,true))) :: o39_23)
theorem v39_24:type_of% (@swl _ _ o39_24.eq_1):=@swl _ _ o39_24.eq_1
def o39_25:List SO:=((SO.mk (some 101) (.faddr 83 (.tmp 6) 3) (some (100 ,true))) :: (SO.mk (some 102) (.load 81 (.tmp 101)) (some (100 ,true))) :: (SO.mk (some 104) (.bin .sub 3 (.tmp 103) (.const (Value.int .i64 1))) (some (100 ,true))) :: (SO.mk (some 105) (.iaddr 81 (.tmp 102) (.tmp 104)) (some (100 ,true))) :: o39_24)
theorem v39_25:type_of% (@swl _ _ o39_25.eq_1):=@swl _ _ o39_25.eq_1
def o39_26:List SO:=((SO.mk (some 98) (.move (.tmp 9)) (some (97 ,false))) :: (SO.mk (some 99) (.bin .gtr 3 (.tmp 98) (.const (Value.int .i64 0))) (some (97 ,false))) :: (SO.mk (some 100) (.move (.tmp 99)) (some (97 ,false))) :: (SO.mk (some 103) (.move (.tmp 9)) (some (100 ,true))) :: o39_25)
theorem v39_26:type_of% (@swl _ _ o39_26.eq_1):=@swl _ _ o39_26.eq_1
def c39_27:SC:=(.seq (.reg [SO.mk (some 4) (.move (.const (Value.bool false))) none]) (.keep [4] .ret))
theorem u39_27:type_of% (@swc _ _ c39_27.eq_1):=@swc _ _ c39_27.eq_1
def c39_28:SC:=(.cond (.tmp 112) c39_27 .skip)
theorem u39_28:type_of% (@swc _ _ c39_28.eq_1):=@swc _ _ c39_28.eq_1
def c39_29:SC:=(.seq (.dreg false o39_22 ((SO.mk (some 94) (.call 64 [(.tmp 89),(.tmp 91),(.tmp 93)]) (some (88 ,false))) :: (SO.mk (some 95) (.un .not (.tmp 94)) (some (88 ,false))) :: (SO.mk (some 96) (.pick (.tmp 88) (.const (Value.bool true)) (.tmp 95)) none) :: (SO.mk (some 97) (.move (.tmp 96)) none) :: o39_26)) (.keep [112,65,64,6,63,14,13,1,12,2] c39_28))
theorem u39_29:type_of% (@swc _ _ c39_29.eq_1):=@swc _ _ c39_29.eq_1
def c39_30:SC:=(.reg [SO.mk (some 113) (.bin .add 3 (.tmp 65) (.const (Value.int .i64 1))) none,SO.mk (some 65) (.move (.tmp 113)) none])
theorem u39_30:type_of% (@swc _ _ c39_30.eq_1):=@swc _ _ c39_30.eq_1
def c39_31:SC:=(.seq (.block 3 (.seq (.reg ((SO.mk (some 67) (.move (.tmp 65)) none) :: (SO.mk (some 68) (.iaddr 81 (.tmp 63) (.tmp 65)) none) :: (SO.mk (some 69) (.load 85 (.tmp 68)) none) :: (SO.mk (some 10) (.alloc 85) none) :: o39_16)) (.keep [9,10,65,64,6,63,14,13,1,12,2] c39_29))) (.keep [65,64,6,63,14,13,1,12,2] c39_30))
theorem u39_31:type_of% (@swc _ _ c39_31.eq_1):=@swc _ _ c39_31.eq_1
def c39_32:SC:=(.seq (.cond (.tmp 66) .skip (.exit 2)) (.keep [65,64,6,63,14,13,1,12,2] c39_31))
theorem u39_32:type_of% (@swc _ _ c39_32.eq_1):=@swc _ _ c39_32.eq_1
def c39_33:SC:=(.seq (.reg [SO.mk (some 66) (.bin .lss 3 (.tmp 65) (.tmp 64)) none]) (.keep [66,63,6,64,65,14,13,1,12,2] c39_32))
theorem u39_33:type_of% (@swc _ _ c39_33.eq_1):=@swc _ _ c39_33.eq_1
def c39_34:SC:=(.block 2 (.loop (.keep [63,6,64,65,14,13,1,12,2] c39_33)))
theorem u39_34:type_of% (@swc _ _ c39_34.eq_1):=@swc _ _ c39_34.eq_1
def c39_35:SC:=(.seq (.reg [SO.mk (some 62) (.faddr 83 (.tmp 6) 3) none,SO.mk (some 63) (.load 81 (.tmp 62)) none,SO.mk (some 64) (.len 81 (.tmp 63)) none,SO.mk (some 65) (.move (.const (Value.int .i64 0))) none]) (.keep [63,6,64,65,14,13,1,12,2] c39_34))
theorem u39_35:type_of% (@swc _ _ c39_35.eq_1):=@swc _ _ c39_35.eq_1
def c39_36:SC:=(.seq (.seq (.reg ((SO.mk (some 20) (.load 28 (.tmp 2)) none) :: (SO.mk (some 21) (.faddr 83 (.tmp 6) 1) none) :: (SO.mk (some 22) (.load 9 (.tmp 21)) none) :: (SO.mk (some 23) (.call 62 [(.tmp 20),(.tmp 22)]) none) :: o39_3)) (.keep [8,5,6,14,13,1,12,2] c39_15)) (.keep [6,14,13,1,12,2] c39_35))
theorem u39_36:type_of% (@swc _ _ c39_36.eq_1):=@swc _ _ c39_36.eq_1
def c39_37:SC:=(.reg [SO.mk (some 114) (.bin .add 3 (.tmp 14) (.const (Value.int .i64 1))) none,SO.mk (some 14) (.move (.tmp 114)) none])
theorem u39_37:type_of% (@swc _ _ c39_37.eq_1):=@swc _ _ c39_37.eq_1
def c39_38:SC:=(.seq (.block 1 (.seq (.reg ((SO.mk (some 16) (.move (.tmp 14)) none) :: (SO.mk (some 17) (.iaddr 24 (.tmp 12) (.tmp 14)) none) :: (SO.mk (some 18) (.load 83 (.tmp 17)) none) :: (SO.mk (some 6) (.alloc 83) none) :: o39_1)) (.keep [5,6,14,13,1,12,2] c39_36))) (.keep [14,13,1,12,2] c39_37))
theorem u39_38:type_of% (@swc _ _ c39_38.eq_1):=@swc _ _ c39_38.eq_1
def c39_39:SC:=(.seq (.cond (.tmp 15) .skip (.exit 0)) (.keep [14,13,1,12,2] c39_38))
theorem u39_39:type_of% (@swc _ _ c39_39.eq_1):=@swc _ _ c39_39.eq_1
def c39_40:SC:=(.seq (.reg [SO.mk (some 15) (.bin .lss 3 (.tmp 14) (.tmp 13)) none]) (.keep [15,12,1,13,14,2] c39_39))
theorem u39_40:type_of% (@swc _ _ c39_40.eq_1):=@swc _ _ c39_40.eq_1
def c39_41:SC:=(.block 0 (.loop (.keep [12,1,13,14,2] c39_40)))
theorem u39_41:type_of% (@swc _ _ c39_41.eq_1):=@swc _ _ c39_41.eq_1
def c39_42:SC:=(.seq (.reg [SO.mk (some 115) (.faddr 28 (.tmp 2) 4) none,SO.mk (some 116) (.load 24 (.tmp 115)) none,SO.mk (some 117) (.len 24 (.tmp 116)) none,SO.mk (some 118) (.bin .leq 3 (.tmp 117) (.const (Value.int .i64 4))) none,SO.mk (some 4) (.move (.tmp 118)) none]) (.keep [4] .ret))
theorem u39_42:type_of% (@swc _ _ c39_42.eq_1):=@swc _ _ c39_42.eq_1
def c39_43:SC:=(.seq (.seq (.reg [SO.mk (some 11) (.faddr 28 (.tmp 2) 4) none,SO.mk (some 12) (.load 24 (.tmp 11)) none,SO.mk (some 13) (.len 24 (.tmp 12)) none,SO.mk (some 14) (.move (.const (Value.int .i64 0))) none]) (.keep [12,1,13,14,2] c39_41)) (.keep [2] c39_42))
theorem u39_43:type_of% (@swc _ _ c39_43.eq_1):=@swc _ _ c39_43.eq_1
def c39:SC:=(.seq (.reg [SO.mk (some 2) (.box 28 (.tmp 0)) none,SO.mk (some 4) (.move (.const (Value.bool false))) none]) (.keep [1,2] c39_43))
theorem c39_eq:annC Try.f39 = some c39:=by kernel_rfl
theorem r39:Try.f39.results.toList = [.tmp 4]:=by kernel_rfl
theorem e39:enters Try.prog 39 = true:=by kernel_rfl
end Go.Proofs.Ytikgiadbkjmabaa
namespace Go.Proofs.Ytikgiadbkjmabaa
open Go.RowKit
set_option maxHeartbeats 4000000
set_option maxRecDepth 20000
attribute [local irreducible] SW OSW SWL SWLn SWD SEcall SEcallv SDv SE SO1 SOg ACalls ACallv Wk EndV
set_option linter.unusedSimpArgs false
set_option linter.unusedVariables false
def ptA (l:List PartD) (k:Nat):Bool:=decide (l[k]!.num < 1) || (decide (l[k]!.num > 5) || (decide (l[k]!.size < 0) || decide (l[k]!.size > 600)))
def ptB (l:List PartD) (k:Nat) (e:List (KV × Bool)):Bool:=!(takeF e l[k]!.secs l[k]!.size).1 || (decide ((k:Int) > 0) && decide (l[k - 1]!.num ≥ l[k]!.num))
def ptGo (l:List PartD):Nat → Nat → List (KV × Bool) → Bool × List (KV × Bool)
  | 0,_,e=>(true,e)
  | j + 1,k,e=>bif ptA l k then (false,e) else bif ptB l k e then (false,(takeF e l[k]!.secs l[k]!.size).2) else ptGo l j (k + 1) (takeF e l[k]!.secs l[k]!.size).2
def ptE (l:List PartD) (e:List (KV × Bool)):Nat → List (KV × Bool)
  | 0=>e
  | k + 1=>(takeF (ptE l e k) l[k]!.secs l[k]!.size).2
def ptF (l:List PartD) (e:List (KV × Bool)):Bool × List (KV × Bool):=ptGo l l.length 0 e
def upA (s:SttD) (k:Nat):Bool:=!thereB s s.ups[k]!.bkt || (wordF s.ups[k]!.key 16 != 0 || (decide (s.ups[k]!.id < 1) || (decide (s.ups[k]!.id ≥ s.next) || (decide ((k:Int) > 0) && decide (s.ups[k - 1]!.id ≥ s.ups[k]!.id)))))
def upGo (s:SttD):Nat → Nat → List (KV × Bool) → Bool × List (KV × Bool)
  | 0,_,e=>(true,e)
  | j + 1,k,e=>bif upA s k then (false,e) else bif (ptF s.ups[k]!.parts e).1 then upGo s j (k + 1) (ptF s.ups[k]!.parts e).2 else ptF s.ups[k]!.parts e
def upE (s:SttD) (e:List (KV × Bool)):Nat → List (KV × Bool)
  | 0=>e
  | k + 1=>ptE s.ups[k]!.parts (upE s e k) s.ups[k]!.parts.length
def upsF (s:SttD) (e:List (KV × Bool)):Bool × List (KV × Bool):=((upGo s s.ups.length 0 e).1 && decide ((s.ups.length:Int) ≤ 4),(upGo s s.ups.length 0 e).2)
def ptOk (l:List PartD) (e:List (KV × Bool)) (k:Nat):Bool:=ptA l k || ptB l k (ptE l e k)
theorem ptGo_all {l:List PartD} {e:List (KV × Bool)}:∀ k,k ≤ l.length → (∀ i,i < k → ptOk l e i = false) → ptF l e = ptGo l (l.length - k) k (ptE l e k)
  | 0,_,_=>rfl
  | k + 1,hk,h=>by
    rw [ptGo_all k (by omega) fun i hi=>h i (by omega),show l.length - k = (l.length - (k + 1)) + 1 by omega]
    have h0:=Bool.or_eq_false_iff.1 (h k (by omega))
    simp only [ptGo,h0.1,h0.2,cond_false,ptE]
theorem pt_end {l:List PartD} {e:List (KV × Bool)} {k:Nat} (hk:decide ((k:Int) < (l.length:Int)) = false) (h0:k ≤ l.length) (h:∀ i,i < k → ptOk l e i = false):ptF l e = (true,ptE l e l.length):=by
  have hk:=geS hk
  have:k = l.length:=by omega
  subst this
  rw [ptGo_all l.length (Nat.le_refl _) h,Nat.sub_self];rfl
theorem pt_noA {l:List PartD} {e:List (KV × Bool)} {k:Nat} (hk:decide ((k:Int) < (l.length:Int)) = true) (h:∀ i,i < k → ptOk l e i = false) (hA:ptA l k = true):ptF l e = (false,ptE l e k):=by
  have hk:=ltS hk
  rw [ptGo_all k (by omega) h,show l.length - k = (l.length - (k + 1)) + 1 by omega]
  simp only [ptGo,hA,cond_true]
theorem pt_noB {l:List PartD} {e:List (KV × Bool)} {k:Nat} (hk:decide ((k:Int) < (l.length:Int)) = true) (h:∀ i,i < k → ptOk l e i = false) (hA:ptA l k = false) (hB:ptB l k (ptE l e k) = true):ptF l e = (false,(takeF (ptE l e k) l[k]!.secs l[k]!.size).2):=by
  have hk:=ltS hk
  rw [ptGo_all k (by omega) h,show l.length - k = (l.length - (k + 1)) + 1 by omega]
  simp only [ptGo,hA,hB,cond_true,cond_false]
def upOk (s:SttD) (e:List (KV × Bool)) (k:Nat):Bool:=upA s k || !(ptF s.ups[k]!.parts (upE s e k)).1
theorem ptF_snd {l:List PartD} {e:List (KV × Bool)} (h:(ptF l e).1 = true):(ptF l e).2 = ptE l e l.length:=by
  have key:∀ j k e',(ptGo l j k e').1 = true → j + k = l.length → e' = ptE l e k → (ptGo l j k e').2 = ptE l e l.length:=by
    intro j
    induction j with
    | zero=>intro k e' _ hk he;simp only [ptGo];rw [he,show k = l.length by omega]
    | succ j ih =>
      intro k e' h1 hk he
      simp only [ptGo] at h1 ⊢
      cases hA:ptA l k
      · cases hB:ptB l k e'
        · simp only [hA,hB,cond_false] at h1 ⊢
          exact ih (k + 1) _ h1 (by omega) (by rw [he];rfl)
        · simp only [hA,hB,cond_false,cond_true] at h1;cases h1
      · simp only [hA,cond_true] at h1;cases h1
  exact key l.length 0 e h (by omega) rfl
theorem upGo_all {s:SttD} {e:List (KV × Bool)}:∀ k,k ≤ s.ups.length → (∀ i,i < k → upOk s e i = false) → upGo s s.ups.length 0 e = upGo s (s.ups.length - k) k (upE s e k)
  | 0,_,_=>rfl
  | k + 1,hk,h=>by
    rw [upGo_all k (by omega) fun i hi=>h i (by omega),show s.ups.length - k = (s.ups.length - (k + 1)) + 1 by omega]
    have h0:=Bool.or_eq_false_iff.1 (h k (by omega))
    have h1:(ptF s.ups[k]!.parts (upE s e k)).1 = true:=by simpa using h0.2
    simp only [upGo,h0.1,h1,cond_false,cond_true,upE,ptF_snd h1]
theorem ups_noA {s:SttD} {e:List (KV × Bool)} {k:Nat} (hk:decide ((k:Int) < (s.ups.length:Int)) = true) (h:∀ i,i < k → upOk s e i = false) (hA:upA s k = true):upsF s e = (false,upE s e k):=by
  have hk:=ltS hk
  unfold upsF
  rw [upGo_all k (by omega) h,show s.ups.length - k = (s.ups.length - (k + 1)) + 1 by omega]
  simp only [upGo,hA,cond_true,Bool.false_and]
theorem ups_noP {s:SttD} {e e':List (KV × Bool)} {k:Nat} (hk:decide ((k:Int) < (s.ups.length:Int)) = true) (h:∀ i,i < k → upOk s e i = false) (hA:upA s k = false) (hP:ptF s.ups[k]!.parts (upE s e k) = (false,e')):upsF s e = (false,e'):=by
  have hk:=ltS hk
  unfold upsF
  rw [upGo_all k (by omega) h,show s.ups.length - k = (s.ups.length - (k + 1)) + 1 by omega]
  simp only [upGo,hA,hP,cond_false,Bool.false_and]
theorem ups_all {s:SttD} {e:List (KV × Bool)} {k:Nat} (hk:decide ((k:Int) < (s.ups.length:Int)) = false) (h0:k ≤ s.ups.length) (h:∀ i,i < k → upOk s e i = false):upsF s e = (decide ((s.ups.length:Int) ≤ 4),upE s e k):=by
  have hk:=geS hk
  unfold upsF
  rw [upGo_all k h0 h,show s.ups.length - k = 0 by omega]
  simp only [upGo,Bool.true_and]
theorem uploads_p (s:SttD) (es:List (KV × Bool)) (hfit:∀ k:Nat,(s.ups[k]!).parts.length ≤ 2 ^ 47) (B:Nat) (σ:Sto) (n:Nat) (hn:n < B) (hσ:σ n = .mp false es) :
    ACalls Try.prog 39 [s.av,.mp n] σ B [] (fun v' σ'=>v' = Bo (upsF s es).1 ∧ σ' = sto [(n,.mp false (upsF s es).2)] σ):=by
  refine own_of follows Try.func39 c39_eq r39 (Nat.le_of_ble_eq_true rfl) fun hcl hsz=>?_
  obtain ⟨z1,z2,z3,z4,z5⟩:=st_sz5 (hsz s.av (by simp))
  clear hsz
  have y1:∀ s,(n = B + s) = False:=fun s=>by simp;omega
  have y2:∀ s,(B + s = n) = False:=fun s=>by simp;omega
  have y3:(n < B) = True:=eq_true hn
  have y4:decide (n < B) = true:=by simpa using hn
  have y5:decide (n < B + 100000) = true:=by simp;omega
  simp -implicitDefEqProofs only [contN,contC,Nat.reduceBEq,Bool.or_false,Bool.or_true,Bool.false_or,Bool.true_or,Bool.not_true,Bool.not_false,SEconv,w_skip,w_ret,w_exit,w_reg,w_dreg,w_oreg,HO_app,w_odone,w_onil,w_ofst,w_obr,w_seq,SK_n,SK_r,SK_x,w_keep,w_block,w_cond,w_nil,w_cons,w_consg,w_nnil,w_ncons,w_dnil,w_dcons,w_dconsg,HK_app,HD_app,HQ_n,HQ_r,HQ_x,HQ_bn,HQ_br,HQ_bx,HQ_en,HQ_er,HQ_ex,CondB_true,CondB_false,SO1,w_sdv,SDe_alloc,SDe_box,SDe_bslice,SDe_app,true_imp_iff,false_imp_iff,and_false,false_and,not_false_eq_true,not_true_eq_false,addN,mkNames,killT,killD,killO,List.foldl_nil,List.foldl_cons,List.append_nil,List.nil_append,List.cons_append,GuardS_true,GuardS_false,GuardD_true,GuardD_false,DK_true,DK_false,lt_self_add,le_self_add,decide_true,decide_false,Bool.false_eq_true,Bool.true_eq_false,Nat.add_left_cancel_iff,SE,SEalloc,SEbox,SEstore,w_bs,SEbl,SEfz,SEbs0,fzName,osOf,AV.fz1,w_app,w_mk,aev,opd,Fr.get,putO,Fr.norm,List.map_cons,List.map_nil,with1,with2,onInt,AV.lit,entry,↓reduceIte,Nat.reduceEqDiff,Nat.reduceAdd,reduceCtorEq,true_and,and_true,Option.map_some,Option.map_none,Option.bind_some,Option.bind_none,cond_true,cond_false,binV,unV,fieldV,loadV,sto,cellsAV,newF,newL,Fr.map,Loc.kill,Loc.set,AO.kill,AV.kill,AV.mapN,AV.mapNL,List.filter_nil,List.filter_cons,allP,EndV,retV,resV,resL,frz,dropL,AV.pick,nilV,tupV,imp_self,ne_eq,Int.cast_ofNat_Int,Int.reduceLT,Int.reduceToNat,List.getD_cons_zero,List.getD_cons_succ,bsliceV,buildV,afill,repl,chunk,rvs,AV.rv,RV.nrm,List.getElem?_nil,List.append_assoc,Nat.reduceMul,Nat.reducePow,Nat.zero_lt_succ,Nat.zero_add,Nat.add_zero,List.length_cons,List.length_nil,Nat.reduceLeDiff,Nat.le_refl,List.take_succ_cons,List.take_zero,List.drop_succ_cons,List.drop_zero,indexV,lenV,rowOf_mapD,rowOf_mapI,rowOf_mapA,List.length_map,Int.toNat_natCast,List.getElem?_cons_zero,List.getElem?_cons_succ,and_self,implies_true,if_true,if_false,HQ_zn,HQ_zr,HQ_wn,HQ_wr,AV.nz,AV.nzL,RV.nrm,SEbin,SEnil,nilK,srcV,dstV,appName,List.length_append,Nat.mul_one,take_map_len,take_map_app,List.getElem?_cons_zero,List.map_append,SEmkmap,SEmset,mgetV,kvOf,getM,setM,w_bsH,SEapA,SEapB,bsliceA,SEclr,nilIn,nilIn.nilC,c39,r39,v39_1,v39_2,v39_3,v39_4,v39_5,m39_5,v39_6,v39_7,v39_8,v39_9,v39_10,v39_11,v39_12,u39_13,u39_14,u39_15,v39_16,v39_17,v39_18,v39_19,v39_20,v39_21,v39_22,m39_22,v39_23,v39_24,v39_25,v39_26,u39_27,u39_28,u39_29,u39_30,u39_31,u39_32,u39_33,u39_34,u39_35,u39_36,u39_37,u39_38,u39_39,u39_40,u39_41,u39_42,u39_43,ty28,ty24,ty3,ty83,ty9,ty30,ty81,ty85,ty26,SttD.av,SttD.cells]
  refine loop_nat s.ups.length (fun k=>∀ i,i < k → upOk s es i = false) (fun k=>[(12,.d (.ro (s.ups.map UpD.row))),(1,.mp n),(13,I s.ups.length),(14,I k),(2,.lp (B + 2) 0)]) (fun k=>[(n,.mp false (upE s es k)),(B + 2,.box s.cells)]) (by simp) (Wk.keep hcl (by simp [Fr.get,newF,Fr.map,AV.kill,AV.mapN,y1,y2]) (by simp [sto,SttD.cells,y1,y2,hσ,upE]) (by simp)) fun k hk hF=>?_
  have hw:IntKind.i64.wrap ((k:Int) + 1) = (k:Int) + 1:=IntWalk.i64_in _ (by omega)
  have hpw:=prev_w (k:=k) (by omega)
  have hpr:=prev_row (f:=UpD.row) (l:=s.ups) hk
  have hpl:=hfit k
  have hpwj:∀ j:Nat,decide ((j:Int) < (s.ups[k]!.parts.length:Int)) = true → decide ((j:Int) > 0) = true → IntKind.i64.wrap ((j:Int) - 1) = ((j - 1:Nat):Int):=fun j h1 h2=>prev_w (by have:=ltS h1;omega) h2
  have hprj:∀ j:Nat,decide ((j:Int) < (s.ups[k]!.parts.length:Int)) = true → decide ((j:Int) > 0) = true → rowOf (s.ups[k]!.parts.map PartD.row) (j - 1) = PartD.row s.ups[k]!.parts[j - 1]!:=fun j h1 h2=>prev_row (by have:=ltS h1;omega) h2
  repeat' (first | (simp -implicitDefEqProofs only [*,Nat.reduceBEq,↓reduceIte,Nat.reduceEqDiff,Nat.reduceAdd,reduceCtorEq,AO.kill,Int.reduceLT,Int.reduceToNat,List.getElem?_nil,Nat.reduceMul,Nat.reducePow,Nat.reduceLeDiff,rowOf_mapD,rowOf_mapI,rowOf_mapA,List.getElem?_cons_zero,List.getElem?_cons_succ,take_map_len,take_map_app,List.getElem?_cons_zero,c39,r39,v39_1,v39_2,v39_3,v39_4,v39_5,m39_5,v39_6,v39_7,v39_8,v39_9,v39_10,v39_11,v39_12,u39_13,u39_14,u39_15,v39_16,v39_17,v39_18,v39_19,v39_20,v39_21,v39_22,m39_22,v39_23,v39_24,v39_25,v39_26,u39_27,u39_28,u39_29,u39_30,u39_31,u39_32,u39_33,u39_34,u39_35,u39_36,u39_37,u39_38,u39_39,u39_40,u39_41,u39_42,u39_43,ty28,ty24,ty3,ty83,ty9,ty30,ty81,ty85,ty26,y1,y2,y3,y4,y5,SttD.av,SttD.cells,UpD.row,PartD.row,ints,ptE,upE,mvcgen_simp]) | (with_reducible refine And.intro ?_ ?_) | (refine call_ro e62 ( bkt_p s s.ups[k]!.bkt) rfl ?_ ?_ ?_ ?_) | (refine gcall_ro e62 ( bkt_p s s.ups[k]!.bkt) rfl ?_ ?_ ?_ ?_) | (refine dcall_ro e62 ( bkt_p s s.ups[k]!.bkt) rfl ?_ ?_ ?_ ?_) | (refine gdcall_ro rfl e62 ( bkt_p s s.ups[k]!.bkt) rfl ?_ ?_ ?_ ?_) | (refine call_ro e63 ( key_p s.ups[k]!.key) rfl ?_ ?_ ?_ ?_) | (refine gcall_ro e63 ( key_p s.ups[k]!.key) rfl ?_ ?_ ?_ ?_) | (refine dcall_ro e63 ( key_p s.ups[k]!.key) rfl ?_ ?_ ?_ ?_) | (refine gdcall_ro rfl e63 ( key_p s.ups[k]!.key) rfl ?_ ?_ ?_ ?_) | (refine gcall_do trivial ?_) | (refine call_own [] [(n,.mp false (takeF (ptE s.ups[k]!.parts (upE s es k) j) s.ups[k]!.parts[j]!.secs s.ups[k]!.parts[j]!.size).2)] e64 (take_p s.ups[k]!.parts[j]!.secs s.ups[k]!.parts[j]!.size (ptE s.ups[k]!.parts (upE s es k) j) _ _ n (by omega) (by simp [sto,y1,y2])) rfl ?_ ?_ ?_ ?_ ?_) | (refine loop_nat ((s.ups[k]!).parts.length) (fun j=>∀ i,i < j → ptOk s.ups[k]!.parts (upE s es k) i = false) (fun j=>[(63,.d (.ro (s.ups[k]!.parts.map PartD.row))),(6,.lp (B + 6) 0),(64,I s.ups[k]!.parts.length),(65,I j),(14,I k),(13,I s.ups.length),(1,.mp n),(12,.d (.ro (s.ups.map UpD.row))),(2,.lp (B + 2) 0)]) (fun j=>[(n,.mp false (ptE s.ups[k]!.parts (upE s es k) j)),(B + 6,.box [I s.ups[k]!.id,.d (.v (.string s.ups[k]!.bkt)),.d (.v (.string s.ups[k]!.key)),.d (.ro (s.ups[k]!.parts.map PartD.row))]),(B + 2,.box s.cells)]) ?_ (Wk.keep hcl ?_ ?_ ?_) fun j hj hFj=>?_;rotate_left 1;(focus (simp [Fr.get,newF,Fr.map,AV.kill,AV.mapN,y1,y2,y3,y4,y5,SttD.av,SttD.cells,UpD.row,PartD.row,ints,ptE,upE]<;>fail));(focus (simp [sto,newL,Loc.kill,Loc.set,AO.kill,AV.kill,AV.mapN,y1,y2,y3,y4,y5,SttD.av,SttD.cells,UpD.row,PartD.row,ints,ptE,upE]<;>fail));(focus (simp [newL,Loc.kill,Loc.set,y1,y2,y3,y4,y5,SttD.av,SttD.cells,UpD.row,PartD.row,ints,ptE,upE]<;>fail));(try have hwj:IntKind.i64.wrap ((j:Int) + 1) = (j:Int) + 1:=IntWalk.i64_in _ (by omega))) | (refine EndX.plain ?_) | (refine nil_split (fun hn=>?_) (fun hn=>?_)) | (refine gcall_no not_false ?_) | (refine gdcall_no not_false ?_) | (refine GuardS_of _ _ _ _ _ _ (fun hg=>?_) (fun hg=>?_)) | (refine GuardD_of _ _ _ _ (fun hg=>?_) (fun hg=>?_)) | (refine CondB_of _ _ _ _ _ _ _ ?_ (fun hg=>?_) (fun hg=>?_)))
  all_goals (try (first | ((first | unfold noN | unfold Fr.below | unfold Loc.below);simp [Fr.allN,AV.allN,AV.allNL,AO.allN];done) | rfl | trivial | assumption | (intro row hrow;simp only [List.mem_map] at hrow;obtain ⟨x,_,rfl⟩:=hrow;rfl) | (refine Wk.keep hcl ?_ ?_ ?_;(focus (simp [Fr.get,y1,y2,y3,y4,y5,SttD.av,SttD.cells,UpD.row,PartD.row,ints,ptE,upE]<;>fail));(focus (simp [sto,y1,y2,y3,y4,y5,SttD.av,SttD.cells,UpD.row,PartD.row,ints,ptE,upE]<;>fail));(focus (simp<;>fail))) | (simp [allP,opd,Fr.get,Fr.below,Fr.allN,AV.allN,AV.allNL,Loc.below,AO.allN,noN,killO,killT,killD,mkNames,AO.kill,AV.kill,AV.mapN,AV.mapNL];done) | (with_reducible exact ltD (by assumption)) | omega | (simp only [decide_eq_true_eq,decide_eq_false_iff_not] at *;omega)))
  all_goals (try (simp [Fr.below,Loc.below,Fr.allN,AO.allN,AV.allN,AV.allNL,y5];done))
  all_goals (try (
    have ej:s.ups[k]!.parts.length = j:=by
      have h0:decide ((j:Int) < (s.ups[k]!.parts.length:Int)) = false:=by assumption
      have:=geS h0
      omega
    rw [ej]
    refine Wk.keep hcl ?_ ?_ ?_
    · simp [Fr.get]
    · simp [sto,y1,y2,SttD.cells,ints]
    · simp))
  all_goals (clear hpw hpr hpwj hprj y1 y2 y3 y4 y5)
  all_goals (try (
    have h1:decide ((k:Int) < (s.ups.length:Int)) = false:=by assumption
    have e:=ups_all (e:=es) h1 hk hF
    (rw [e]<;>first | rfl | (funext m;by_cases hm:m = n<;>simp [hm]))))
  all_goals (try (
    have hA:upA s k = true:=by simp only [upA, *,Bool.false_or,Bool.true_or,Bool.or_true,Bool.or_false,Bool.and_true,Bool.true_and,Bool.false_and,Bool.and_false,Bool.not_true,Bool.not_false,cond_true,cond_false]
    have h1:decide ((k:Int) < (s.ups.length:Int)) = true:=by assumption
    have e:=ups_noA (e:=es) h1 hF hA
    (rw [e]<;>first | rfl | (funext m;by_cases hm:m = n<;>simp [hm]))))
  all_goals (have h1:decide ((k:Int) < (s.ups.length:Int)) = true:=by assumption)
  all_goals (have eA:upA s k = false:=by simp only [upA, *,Bool.false_or,Bool.true_or,Bool.or_true,Bool.or_false,Bool.and_true,Bool.true_and,Bool.false_and,Bool.and_false,Bool.not_true,Bool.not_false,cond_true,cond_false])
  all_goals (try (
    have h2:decide ((j:Int) < (s.ups[k]!.parts.length:Int)) = true:=by assumption
    have hpA:ptA s.ups[k]!.parts j = true:=by simp only [ptA, *,Bool.false_or,Bool.true_or,Bool.or_true,Bool.or_false,Bool.and_true,Bool.true_and,Bool.false_and,Bool.and_false,Bool.not_true,Bool.not_false,cond_true,cond_false]
    have e:=ups_noP (e:=es) h1 hF eA (pt_noA h2 hFj hpA)
    (rw [e]<;>first | rfl | (funext m;by_cases hm:m = n<;>simp [hm]))))
  all_goals (try (
    have h2:decide ((j:Int) < (s.ups[k]!.parts.length:Int)) = true:=by assumption
    have hpA:ptA s.ups[k]!.parts j = false:=by simp only [ptA, *,Bool.false_or,Bool.true_or,Bool.or_true,Bool.or_false,Bool.and_true,Bool.true_and,Bool.false_and,Bool.and_false,Bool.not_true,Bool.not_false,cond_true,cond_false]
    have hpB:ptB s.ups[k]!.parts j (ptE s.ups[k]!.parts (upE s es k) j) = true:=by simp only [ptB, *,Bool.false_or,Bool.true_or,Bool.or_true,Bool.or_false,Bool.and_true,Bool.true_and,Bool.false_and,Bool.and_false,Bool.not_true,Bool.not_false,cond_true,cond_false]
    have e:=ups_noP (e:=es) h1 hF eA (pt_noB h2 hFj hpA hpB)
    (rw [e]<;>first | rfl | (funext m;by_cases hm:m = n<;>simp [hm]))))
  all_goals (try (
    have hpO:ptOk s.ups[k]!.parts (upE s es k) j = false:=by simp only [ptOk,ptA,ptB, *,Bool.false_or,Bool.true_or,Bool.or_true,Bool.or_false,Bool.and_true,Bool.true_and,Bool.false_and,Bool.and_false,Bool.not_true,Bool.not_false,cond_true,cond_false]
    exact allN' (p:=fun i=>ptOk s.ups[k]!.parts (upE s es k) i) hFj hpO))
  all_goals (try (
    have h2:decide ((j:Int) < (s.ups[k]!.parts.length:Int)) = false:=by assumption
    have e:=pt_end h2 hj hFj
    have hO:upOk s es k = false:=by simp only [upOk,eA,e,Bool.false_or,Bool.true_or,Bool.or_true,Bool.or_false,Bool.and_true,Bool.true_and,Bool.false_and,Bool.and_false,Bool.not_true,Bool.not_false,cond_true,cond_false]
    exact allN' (p:=fun i=>upOk s es i) hF hO))
end Go.Proofs.Ytikgiadbkjmabaa
