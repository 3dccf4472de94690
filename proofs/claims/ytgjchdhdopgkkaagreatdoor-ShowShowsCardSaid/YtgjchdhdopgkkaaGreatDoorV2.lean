/-
  Part 2 of the proof: own lemmas and contracts on plain data. No condition beyond those that each lemma states.
-/
import Derived.Test.YtgjchdhdopgkkaaGreatDoorV1
import Derived.Lib.IndexBytes
set_option linter.all false
set_option maxRecDepth 100000
section
namespace Go.Proofs.YtgjchdhdopgkkaaGreatDoor
open Go.Ab Civ
def c121:AC:=(.seq (.reg [Oo 5 (.box 46 3 (.tmp 2)),Oo 6 (.mv (Ci 0))]) (.seq (.block 0 (.seq (.reg [Mv 8 0,Oo 9 (.call (.func 149) [(.tmp 8),(Ci 1),(Ci 9999)]),Oo 10 (.un .not (.tmp 9)),Mv 11 10,Of 12 11 (.mv (.tmp 1)),Of 13 11 (.call (.func 149) [(.tmp 12),(Ci 1),(Ci 12)]),Of 14 11 (.un .not (.tmp 13)),Oo 15 (.pick (.tmp 11) (.const (.bool true)) (.tmp 14)),Mv 7 15]) (.cond (.tmp 7) (.seq (.reg [Oo 6 (.mv (Ci 3))]) .ret) (.seq (.reg [Fa 17 0 5,Ld 18 17,Oo 19 (.call (.func 149) [(.tmp 18),(Ci 1),(Ci 4)]),Oo 20 (.un .not (.tmp 19)),Mv 16 20]) (.cond (.tmp 16) (.seq (.reg [Oo 6 (.mv (Ci 7))]) .ret) (.seq (.reg [Fa 22 1 5,Ld 23 22,Oo 24 (.call (.func 149) [(.tmp 23),(Ci 0),(Ci 6)]),Oo 25 (.un .not (.tmp 24)),Mv 26 25,Of 27 26 (.fa 0 (.tmp 5)),Of 28 26 (.load false 1 (.tmp 27)),Of 29 26 (.bin .eql (.tmp 28) (Ci 1)),Of 30 26 (.mv (.tmp 29)),Ot 31 30 (.fa 1 (.tmp 5)),Ot 32 30 (.load false 1 (.tmp 31)),Ot 33 30 (.bin .neq (.tmp 32) (Ci 0)),Of 34 26 (.pick (.tmp 30) (.tmp 33) (.const (.bool false))),Oo 35 (.pick (.tmp 26) (.const (.bool true)) (.tmp 34)),Mv 21 35]) (.cond (.tmp 21) (.seq (.reg [Oo 6 (.mv (Ci 3))]) .ret) (.seq (.drw [Fa 37 0 5,Ld 38 37,Oo 39 (.bin .eql (.tmp 38) (Ci 2)),Mv 40 39,Ot 41 40 (.fa 2 (.tmp 5)),Ot 42 40 (.load false 1 (.tmp 41)),Ot 43 40 (.bin .neq (.tmp 42) (Ci 0)),Oo 44 (.pick (.tmp 40) (.tmp 43) (.const (.bool false))),Mv 45 44,Of 46 45 (.fa 0 (.tmp 5)),Of 47 45 (.load false 1 (.tmp 46)),Of 48 45 (.bin .neq (.tmp 47) (Ci 2)),Of 49 45 (.mv (.tmp 48)),Ot 50 49 (.fa 2 (.tmp 5)),Ot 51 49 (.load false 1 (.tmp 50)),Ot 52 49 (.mv (.tmp 0)),Ot 53 49 (.mv (.tmp 1)),Ot 54 49 (.call (.func 124) [(.tmp 52),(.tmp 53)]),Ot 55 49 (.call (.func 149) [(.tmp 51),(Ci 1),(.tmp 54)]),Ot 56 49 (.un .not (.tmp 55)),Of 57 45 (.pick (.tmp 49) (.tmp 56) (.const (.bool false))),Oo 58 (.pick (.tmp 45) (.const (.bool true)) (.tmp 57)),Mv 36 58] [] []) (.cond (.tmp 36) (.seq (.reg [Oo 6 (.mv (Ci 3))]) .ret) .skip))))))))) (.seq (.reg [Oo 6 (.mv (Ci 0))]) .ret)))
theorem k121:compF Tryz.prog 121=some ⟨c121,[(.tmp 6)],59⟩:=by kernel_rfl
def c83:AC:=(.seq (.reg [Oo 5 (.box 46 3 (.tmp 2)),Oo 6 (.new 60 3 [(iv 0),(iv 0),(iv 0)]),Oo 7 (.mv (Ci 0))]) (.seq (.seq (.reg [Mv 11 0,Mv 12 1,Oo 13 (.load true 3 (.tmp 5)),Oo 14 (.call (.func 121) [(.tmp 11),(.tmp 12),(.tmp 13)]),Mv 8 14]) (.seq (.reg [Mv 15 8,Oo 16 (.bin .neq (.tmp 15) (Ci 0))]) (.cond (.tmp 16) (.seq (.reg [Oo 17 (.build [(iv 0),(iv 0),(iv 0)] []),Mv 18 8,⟨none,none,(.store 3 (.tmp 6) (.tmp 17))⟩,Mv 7 18]) .ret) .skip))) (.seq (.reg [Mv 19 0,Mv 20 1,Oo 21 (.build [(iv 0),(iv 0),(iv 0)] [(0,(1,(.tmp 19))),(1,(1,(.tmp 20))),(2,(1,(Ci 1)))]),Oo 22 (.call (.func 122) [(.tmp 21)]),Mv 9 22]) (.seq (.reg [Mv 23 9,Fa 24 2 5,Ld 25 24,Oo 26 (.bin .add (.tmp 23) (.tmp 25)),Oo 27 (.bin .sub (.tmp 26) (Ci 1)),Mv 10 27]) (.seq (.seq (.reg [Fa 28 0 5,Ld 29 28]) (.block 0 (.seq (.reg [Oo 31 (.bin .eql (.tmp 29) (Ci 2)),Mv 30 31]) (.cond (.tmp 30) (.drw [Mv 32 9,Mv 33 0,Mv 34 1,Oo 35 (.call (.func 124) [(.tmp 33),(.tmp 34)]),Oo 36 (.bin .add (.tmp 32) (.tmp 35)),Oo 37 (.bin .sub (.tmp 36) (Ci 1)),Fa 38 1 5,Ld 39 38,Oo 40 (.call (.func 123) [(.tmp 37),(.tmp 39),(.const (.int .i64 (-1)))]),Mv 10 40] [] []) (.seq (.reg [Oo 42 (.bin .eql (.tmp 29) (Ci 3)),Mv 41 42]) (.cond (.tmp 41) (.reg [Mv 43 10,Fa 44 1 5,Ld 45 44,Oo 46 (.call (.func 123) [(.tmp 43),(.tmp 45),(Ci 1)]),Mv 10 46]) (.seq (.reg [Oo 48 (.bin .eql (.tmp 29) (Ci 4)),Mv 47 48]) (.cond (.tmp 47) (.reg [Mv 49 10,Fa 50 1 5,Ld 51 50,Oo 52 (.call (.func 123) [(.tmp 49),(.tmp 51),(.const (.int .i64 (-1)))]),Mv 10 52]) .skip)))))))) (.seq (.reg [Mv 53 10,Oo 54 (.call (.func 125) [(.tmp 53)]),Ex 55 54 0,Ex 56 54 1,⟨none,none,(.store 3 (.tmp 6) (.tmp 55))⟩,Mv 7 56]) .ret))))))
theorem k83:compF Tryz.prog 83=some ⟨c83,[(.cell 6 true 3),(.tmp 7)],57⟩:=by kernel_rfl
def c136:AC:=(.seq (.reg [Oo 2 (.mv (.const (.bool false)))]) (.seq (.reg [Mv 3 0,Oo 4 (.bin .rem (.tmp 3) (Ci 400)),Oo 5 (.bin .eql (.tmp 4) (Ci 0)),Mv 6 5,Of 7 6 (.mv (.tmp 0)),Of 8 6 (.bin .rem (.tmp 7) (Ci 4)),Of 9 6 (.bin .eql (.tmp 8) (Ci 0)),Of 10 6 (.mv (.tmp 9)),Ot 11 10 (.mv (.tmp 0)),Ot 12 10 (.bin .rem (.tmp 11) (Ci 100)),Ot 13 10 (.bin .neq (.tmp 12) (Ci 0)),Of 14 6 (.pick (.tmp 10) (.tmp 13) (.const (.bool false))),Oo 15 (.pick (.tmp 6) (.const (.bool true)) (.tmp 14)),Mv 2 15]) .ret))
theorem k136:compF Tryz.prog 136=some ⟨c136,[(.tmp 2)],16⟩:=by kernel_rfl
def c98:AC:=(.seq (.reg [Oo 4 (.mv (Ci 0))]) (.seq (.seq (.reg [Mv 5 1]) (.block 0 (.seq (.seq (.reg [Oo 7 (.bin .eql (.tmp 5) (Ci 4)),Mv 6 7]) (.cond (.tmp 6) .skip (.seq (.reg [Oo 8 (.bin .eql (.tmp 5) (Ci 6)),Mv 6 8]) (.cond (.tmp 6) .skip (.seq (.reg [Oo 9 (.bin .eql (.tmp 5) (Ci 9)),Mv 6 9]) (.cond (.tmp 6) .skip (.reg [Oo 10 (.bin .eql (.tmp 5) (Ci 11)),Mv 6 10]))))))) (.cond (.tmp 6) (.seq (.reg [Oo 4 (.mv (Ci 30))]) .ret) (.seq (.reg [Oo 12 (.bin .eql (.tmp 5) (Ci 2)),Mv 11 12]) (.cond (.tmp 11) (.seq (.seq (.reg [Mv 13 0,Oo 14 (.call (.func 136) [(.tmp 13)])]) (.cond (.tmp 14) (.seq (.reg [Oo 4 (.mv (Ci 29))]) .ret) .skip)) (.seq (.reg [Oo 4 (.mv (Ci 28))]) .ret)) .skip)))))) (.seq (.reg [Oo 4 (.mv (Ci 31))]) .ret)))
theorem k98:compF Tryz.prog 98=some ⟨c98,[(.tmp 4)],15⟩:=by kernel_rfl
def c74:AC:=(.seq (.reg [Oo 1 (.box 60 3 (.tmp 0)),Oo 2 (.mv (.const (.bool false)))]) (.seq (.drw [Fa 3 0 1,Ld 4 3,Oo 5 (.call (.func 68) [(.tmp 4),(Ci 1),(Ci 9999)]),Mv 6 5,Ot 7 6 (.fa 1 (.tmp 1)),Ot 8 6 (.load false 1 (.tmp 7)),Ot 9 6 (.call (.func 68) [(.tmp 8),(Ci 1),(Ci 12)]),Oo 10 (.pick (.tmp 6) (.tmp 9) (.const (.bool false))),Mv 11 10,Ot 12 11 (.fa 2 (.tmp 1)),Ot 13 11 (.load false 1 (.tmp 12)),Ot 14 11 (.fa 0 (.tmp 1)),Ot 15 11 (.load false 1 (.tmp 14)),Ot 16 11 (.fa 1 (.tmp 1)),Ot 17 11 (.load false 1 (.tmp 16)),Ot 18 11 (.call (.func 98) [(.tmp 15),(.tmp 17)]),Ot 19 11 (.call (.func 68) [(.tmp 13),(Ci 1),(.tmp 18)]),Oo 20 (.pick (.tmp 11) (.tmp 19) (.const (.bool false))),Mv 2 20] [] []) .ret))
theorem k74:compF Tryz.prog 74=some ⟨c74,[(.tmp 2)],21⟩:=by kernel_rfl
def c99:AC:=(.seq (.reg [Oo 1 (.box 60 3 (.tmp 0)),Oo 2 (.mv (Ci 0))]) (.seq (.drw [Fa 6 0 1,Ld 7 6,Fa 8 1 1,Ld 9 8,Oo 10 (.bin .sub (.tmp 9) (Ci 3)),Mv 3 7,Mv 4 10] [] []) (.seq (.seq (.reg [Mv 11 4,Oo 12 (.bin .lss (.tmp 11) (Ci 0))]) (.cond (.tmp 12) (.seq (.reg [Mv 13 3,Oo 14 (.bin .sub (.tmp 13) (Ci 1)),Mv 3 14]) (.reg [Mv 15 4,Oo 16 (.bin .add (.tmp 15) (Ci 12)),Mv 4 16])) .skip)) (.seq (.reg [Mv 17 3,Oo 18 (.bin .quo (.tmp 17) (Ci 400)),Oo 19 (.bin .mul (.tmp 18) (Ci 146097)),Mv 20 3,Oo 21 (.bin .rem (.tmp 20) (Ci 400)),Oo 22 (.bin .mul (.tmp 21) (Ci 365)),Oo 23 (.bin .add (.tmp 19) (.tmp 22)),Mv 24 3,Oo 25 (.bin .rem (.tmp 24) (Ci 400)),Oo 26 (.bin .quo (.tmp 25) (Ci 4)),Oo 27 (.bin .add (.tmp 23) (.tmp 26)),Mv 28 3,Oo 29 (.bin .rem (.tmp 28) (Ci 400)),Oo 30 (.bin .quo (.tmp 29) (Ci 100)),Oo 31 (.bin .sub (.tmp 27) (.tmp 30)),Mv 5 31]) (.seq (.reg [Mv 32 5,Mv 33 4,Oo 34 (.bin .mul (Ci 153) (.tmp 33)),Oo 35 (.bin .add (.tmp 34) (Ci 2)),Oo 36 (.bin .quo (.tmp 35) (Ci 5)),Oo 37 (.bin .add (.tmp 32) (.tmp 36)),Fa 38 2 1,Ld 39 38,Oo 40 (.bin .add (.tmp 37) (.tmp 39)),Oo 41 (.bin .sub (.tmp 40) (Ci 1)),Oo 42 (.bin .sub (.tmp 41) (Ci 719468)),Mv 2 42]) .ret)))))
theorem k99:compF Tryz.prog 99=some ⟨c99,[(.tmp 2)],43⟩:=by kernel_rfl
def c101:AC:=(.seq (.reg [Oo 0 (.mv (Ci 0))]) (.seq (.reg [Oo 1 (.build [(iv 0),(iv 0),(iv 0)] [(0,(1,(Ci 1))),(1,(1,(Ci 1))),(2,(1,(Ci 1)))]),Oo 2 (.call (.func 99) [(.tmp 1)]),Mv 0 2]) .ret))
theorem k101:compF Tryz.prog 101=some ⟨c101,[(.tmp 0)],3⟩:=by kernel_rfl
def c102:AC:=(.seq (.reg [Oo 0 (.mv (Ci 0))]) (.seq (.reg [Oo 1 (.build [(iv 0),(iv 0),(iv 0)] [(0,(1,(Ci 9999))),(1,(1,(Ci 12))),(2,(1,(Ci 31)))]),Oo 2 (.call (.func 99) [(.tmp 1)]),Mv 0 2]) .ret))
theorem k102:compF Tryz.prog 102=some ⟨c102,[(.tmp 0)],3⟩:=by kernel_rfl
def c100:AC:=(.seq (.reg [Oo 2 (.mv (Ci 0))]) (.seq (.reg [Mv 4 0,Oo 5 (.bin .rem (.tmp 4) (Ci 7)),Mv 3 5]) (.seq (.seq (.reg [Mv 6 3,Oo 7 (.bin .lss (.tmp 6) (Ci 0))]) (.cond (.tmp 7) (.reg [Mv 8 3,Oo 9 (.bin .add (.tmp 8) (Ci 7)),Mv 3 9]) .skip)) (.seq (.reg [Mv 10 3,Oo 11 (.bin .add (.tmp 10) (Ci 4)),Oo 12 (.bin .rem (.tmp 11) (Ci 7)),Mv 2 12]) .ret))))
theorem k100:compF Tryz.prog 100=some ⟨c100,[(.tmp 2)],13⟩:=by kernel_rfl
def c103:AC:=(.seq (.reg [Oo 2 (.new 60 3 [(iv 0),(iv 0),(iv 0)])]) (.seq (.reg [Oo 3 (.mv (Ci 1)),Oo 4 (.mv (Ci 10000))]) (.seq (.block 0 (.loop (.seq (.seq (.reg [Mv 7 4,Mv 8 3,Oo 9 (.bin .sub (.tmp 7) (.tmp 8)),Oo 10 (.bin .gtr (.tmp 9) (Ci 1))]) (.cond (.tmp 10) .skip (.exit 0))) (.block 1 (.seq (.reg [Mv 11 3,Mv 12 4,Oo 13 (.bin .add (.tmp 11) (.tmp 12)),Oo 14 (.bin .quo (.tmp 13) (Ci 2)),Mv 5 14]) (.seq (.reg [Mv 15 5,Oo 16 (.build [(iv 0),(iv 0),(iv 0)] [(0,(1,(.tmp 15))),(1,(1,(Ci 1))),(2,(1,(Ci 1)))]),Oo 17 (.call (.func 99) [(.tmp 16)]),Mv 18 0,Oo 19 (.bin .leq (.tmp 17) (.tmp 18))]) (.cond (.tmp 19) (.reg [Mv 20 5,Mv 3 20]) (.reg [Mv 21 5,Mv 4 21])))))))) (.seq (.reg [Mv 22 3,Oo 23 (.build [(iv 0),(iv 0),(iv 0)] [(0,(1,(.tmp 22))),(1,(1,(Ci 12))),(2,(1,(Ci 1)))]),Oo 6 (.new 60 3 [(iv 0),(iv 0),(iv 0)]),⟨none,none,(.store 3 (.tmp 6) (.tmp 23))⟩]) (.seq (.block 2 (.loop (.seq (.seq (.reg [Oo 24 (.load true 3 (.tmp 6)),Oo 25 (.call (.func 99) [(.tmp 24)]),Mv 26 0,Oo 27 (.bin .gtr (.tmp 25) (.tmp 26))]) (.cond (.tmp 27) .skip (.exit 2))) (.block 3 (.reg [Fa 28 1 6,Ld 29 28,Oo 30 (.bin .sub (.tmp 29) (Ci 1)),Fa 31 1 6,⟨none,none,(.store 1 (.tmp 31) (.tmp 30))⟩]))))) (.seq (.reg [Mv 32 0,Oo 33 (.load true 3 (.tmp 6)),Oo 34 (.call (.func 99) [(.tmp 33)]),Oo 35 (.bin .sub (.tmp 32) (.tmp 34)),Oo 36 (.bin .add (.tmp 35) (Ci 1)),Fa 37 2 6,⟨none,none,(.store 1 (.tmp 37) (.tmp 36))⟩]) (.seq (.reg [Oo 38 (.load true 3 (.tmp 6)),⟨none,none,(.store 3 (.tmp 2) (.tmp 38))⟩]) .ret)))))))
theorem k103:compF Tryz.prog 103=some ⟨c103,[(.cell 2 true 3)],39⟩:=by kernel_rfl
def c69:AC:=(.seq (.reg [Oo 5 (.box 46 3 (.tmp 2)),Oo 6 (.new 60 3 [(iv 0),(iv 0),(iv 0)]),Oo 7 (.mv (Ci 0))]) (.seq (.seq (.reg [Mv 11 0,Oo 12 (.call (.func 68) [(.tmp 11),(Ci 1),(Ci 9999)]),Oo 13 (.un .not (.tmp 12)),Mv 14 13,Of 15 14 (.mv (.tmp 1)),Of 16 14 (.call (.func 68) [(.tmp 15),(Ci 1),(Ci 12)]),Of 17 14 (.un .not (.tmp 16)),Oo 18 (.pick (.tmp 14) (.const (.bool true)) (.tmp 17))]) (.cond (.tmp 18) (.seq (.reg [Oo 19 (.build [(iv 0),(iv 0),(iv 0)] []),⟨none,none,(.store 3 (.tmp 6) (.tmp 19))⟩,Oo 7 (.mv (Ci 3))]) .ret) .skip)) (.seq (.seq (.reg [Fa 20 0 5,Ld 21 20,Oo 22 (.call (.func 68) [(.tmp 21),(Ci 1),(Ci 4)]),Oo 23 (.un .not (.tmp 22))]) (.cond (.tmp 23) (.seq (.reg [Oo 24 (.build [(iv 0),(iv 0),(iv 0)] []),⟨none,none,(.store 3 (.tmp 6) (.tmp 24))⟩,Oo 7 (.mv (Ci 7))]) .ret) .skip)) (.seq (.seq (.reg [Fa 25 1 5,Ld 26 25,Oo 27 (.call (.func 68) [(.tmp 26),(Ci 0),(Ci 6)]),Oo 28 (.un .not (.tmp 27)),Mv 29 28,Of 30 29 (.fa 0 (.tmp 5)),Of 31 29 (.load false 1 (.tmp 30)),Of 32 29 (.bin .eql (.tmp 31) (Ci 1)),Of 33 29 (.mv (.tmp 32)),Ot 34 33 (.fa 1 (.tmp 5)),Ot 35 33 (.load false 1 (.tmp 34)),Ot 36 33 (.bin .neq (.tmp 35) (Ci 0)),Of 37 29 (.pick (.tmp 33) (.tmp 36) (.const (.bool false))),Oo 38 (.pick (.tmp 29) (.const (.bool true)) (.tmp 37))]) (.cond (.tmp 38) (.seq (.reg [Oo 39 (.build [(iv 0),(iv 0),(iv 0)] []),⟨none,none,(.store 3 (.tmp 6) (.tmp 39))⟩,Oo 7 (.mv (Ci 3))]) .ret) .skip)) (.seq (.reg [Mv 40 0,Mv 41 1,Oo 42 (.call (.func 98) [(.tmp 40),(.tmp 41)]),Mv 8 42]) (.seq (.seq (.reg [Fa 43 0 5,Ld 44 43,Oo 45 (.bin .eql (.tmp 44) (Ci 2)),Mv 46 45,Ot 47 46 (.fa 2 (.tmp 5)),Ot 48 46 (.load false 1 (.tmp 47)),Ot 49 46 (.bin .neq (.tmp 48) (Ci 0)),Oo 50 (.pick (.tmp 46) (.tmp 49) (.const (.bool false))),Mv 51 50,Of 52 51 (.fa 0 (.tmp 5)),Of 53 51 (.load false 1 (.tmp 52)),Of 54 51 (.bin .neq (.tmp 53) (Ci 2)),Of 55 51 (.mv (.tmp 54)),Ot 56 55 (.fa 2 (.tmp 5)),Ot 57 55 (.load false 1 (.tmp 56)),Ot 58 55 (.mv (.tmp 8)),Ot 59 55 (.call (.func 68) [(.tmp 57),(Ci 1),(.tmp 58)]),Ot 60 55 (.un .not (.tmp 59)),Of 61 51 (.pick (.tmp 55) (.tmp 60) (.const (.bool false))),Oo 62 (.pick (.tmp 51) (.const (.bool true)) (.tmp 61))]) (.cond (.tmp 62) (.seq (.reg [Oo 63 (.build [(iv 0),(iv 0),(iv 0)] []),⟨none,none,(.store 3 (.tmp 6) (.tmp 63))⟩,Oo 7 (.mv (Ci 3))]) .ret) .skip)) (.seq (.reg [Mv 64 0,Mv 65 1,Oo 66 (.build [(iv 0),(iv 0),(iv 0)] [(0,(1,(.tmp 64))),(1,(1,(.tmp 65))),(2,(1,(Ci 1)))]),Oo 67 (.call (.func 99) [(.tmp 66)]),Oo 68 (.bin .sub (.tmp 67) (Ci 1)),Mv 9 68]) (.seq (.seq (.reg [Fa 69 0 5,Ld 70 69]) (.block 0 (.seq (.reg [Oo 76 (.bin .eql (.tmp 70) (Ci 1)),Mv 75 76]) (.cond (.tmp 75) (.reg [Mv 77 9,Fa 78 2 5,Ld 79 78,Oo 80 (.bin .add (.tmp 77) (.tmp 79)),Mv 9 80]) (.seq (.reg [Oo 82 (.bin .eql (.tmp 70) (Ci 2)),Mv 81 82]) (.cond (.tmp 81) (.reg [Mv 83 9,Mv 84 8,Oo 85 (.bin .add (.tmp 83) (.tmp 84)),Mv 9 85]) (.reg [Mv 71 9,Fa 72 2 5,Ld 73 72,Oo 74 (.bin .add (.tmp 71) (.tmp 73)),Mv 9 74]))))))) (.seq (.seq (.reg [Oo 10 (.mv (Ci 0))]) (.block 1 (.loop (.seq (.seq (.drw [Mv 86 10,Oo 87 (.bin .lss (.tmp 86) (Ci 7)),Mv 88 87,Ot 89 88 (.fa 0 (.tmp 5)),Ot 90 88 (.load false 1 (.tmp 89)),Ot 91 88 (.bin .gtr (.tmp 90) (Ci 1)),Oo 92 (.pick (.tmp 88) (.tmp 91) (.const (.bool false))),Mv 93 92,Ot 94 93 (.mv (.tmp 9)),Ot 95 93 (.call (.func 100) [(.tmp 94)]),Ot 96 93 (.fa 1 (.tmp 5)),Ot 97 93 (.load false 1 (.tmp 96)),Ot 98 93 (.bin .neq (.tmp 95) (.tmp 97)),Oo 99 (.pick (.tmp 93) (.tmp 98) (.const (.bool false)))] [] []) (.cond (.tmp 99) .skip (.exit 1))) (.seq (.block 2 (.seq (.reg [Fa 102 0 5,Ld 103 102,Oo 104 (.bin .eql (.tmp 103) (Ci 3))]) (.cond (.tmp 104) (.reg [Mv 105 9,Oo 106 (.bin .add (.tmp 105) (Ci 1)),Mv 9 106]) (.reg [Mv 107 9,Oo 108 (.bin .sub (.tmp 107) (Ci 1)),Mv 9 108])))) (.reg [Mv 100 10,Oo 101 (.bin .add (.tmp 100) (Ci 1)),Mv 10 101])))))) (.seq (.seq (.reg [Mv 109 9,Oo 110 (.call (.func 101) []),Oo 111 (.call (.func 102) []),Oo 112 (.call (.func 68) [(.tmp 109),(.tmp 110),(.tmp 111)]),Oo 113 (.un .not (.tmp 112))]) (.cond (.tmp 113) (.seq (.reg [Oo 114 (.build [(iv 0),(iv 0),(iv 0)] []),⟨none,none,(.store 3 (.tmp 6) (.tmp 114))⟩,Oo 7 (.mv (Ci 3))]) .ret) .skip)) (.seq (.reg [Mv 115 9,Oo 116 (.call (.func 103) [(.tmp 115)]),⟨none,none,(.store 3 (.tmp 6) (.tmp 116))⟩,Oo 7 (.mv (Ci 0))]) .ret)))))))))))
theorem k69:compF Tryz.prog 69=some ⟨c69,[(.cell 6 true 3),(.tmp 7)],117⟩:=by kernel_rfl
namespace Civ
def fwd (n k:Int):Int:=n+(k-wd n)%7
def bwd (n k:Int):Int:=n-(wd n-k)%7
theorem wd_fwd {n k j:Int}(h0:0≤j) (h1:j≤(k-wd n)%7) (hk:0≤k∧k≤6):wd (n+j)=k↔j=(k-wd n)%7:=by unfold wd at *;omega
theorem wd_bwd {n k j:Int}(h0:0≤j) (h1:j≤(wd n-k)%7) (hk:0≤k∧k≤6):wd (n-j)=k↔j=(wd n-k)%7:=by unfold wd at *;omega
def formE (y m kind wk n:Int):Int :=
 if ¬(1≤y∧y≤9999)∨¬(1≤m∧m≤12) then 3
 else if ¬(1≤kind∧kind≤4) then 7
 else if ¬(0≤wk∧wk≤6)∨kind=1∧wk≠0 then 3
 else if kind=2∧n≠0∨kind≠2∧¬(1≤n∧n≤mlen y m) then 3
 else 0
def onDay (y m kind wk n:Int):Int :=
 if kind=2 then bwd (num y m (mlen y m)) wk else if kind=3 then fwd (num y m n) wk else if kind=4 then bwd (num y m n) wk else num y m n
def onV (y m kind wk n:Int):(Int×Int×Int)×Int :=
 if formE y m kind wk n≠0 then ((0,0,0),formE y m kind wk n)
 else if -719162≤onDay y m kind wk n∧onDay y m kind wk n≤2932896 then (dateOf (onDay y m kind wk n),0) else ((0,0,0),3)
theorem formE_bd (y m kind wk n:Int):0≤formE y m kind wk n∧formE y m kind wk n≤7:=by
 unfold formE;repeat' split
 all_goals omega
theorem onV_no {y m kind wk n k:Int}(h:formE y m kind wk n=k) (hk:k≠0):onV y m kind wk n=((0,0,0),k):=by
 unfold onV;rw [h,if_pos hk]
theorem onV_ok {y m kind wk n k:Int}(h:formE y m kind wk n=0) (hk:onDay y m kind wk n=k):onV y m kind wk n=if -719162≤k∧k≤2932896 then (dateOf k,0) else ((0,0,0),3):=by
 unfold onV;rw [h,if_neg (by simp),hk]
theorem num_1 (y m d:Int):num y m d=num y m 1+d-1:=by unfold num;omega
theorem num_bd1 {y m:Int}(hy:1≤y∧y≤20000) (hm:1≤m∧m≤12) : -8000000≤num y m 1∧num y m 1≤8000000:=by
 have:=bef_bd hy.1 hy.2
 have:=cum_bd (y:=y) (m:=m) hm.1 (by omega)
 unfold num;omega
theorem num_ref1 {y m d:Int}(hm:3≤m) (hm2:m≤12):y/400*146097+y%400*365+y%400/4-y%400/100+(153*(m-3)+2)/5+d-1-719468=num y m d:=by
 have:=lp_iff y
 unfold num cum bef;rw [if_neg (by omega),this];split <;> omega
theorem num_ref2 {y m d:Int}(hm:1≤m) (hm2:m<3):(y-1)/400*146097+(y-1)%400*365+(y-1)%400/4-(y-1)%400/100+(153*(m-3+12)+2)/5+d-1-719468=num y m d:=by
 unfold num cum bef;rw [if_pos (by omega)];omega
theorem num_11 (y:Int):num y 1 1=bef y-719162:=by unfold num;rw [cum_1];omega
theorem formE_ok {y m k wk n:Int}(h:formE y m k wk n=0):(1≤y∧y≤9999)∧(1≤m∧m≤12)∧(1≤k∧k≤4)∧(0≤wk∧wk≤6)∧(k=1→wk=0)∧(k=2→n=0)∧(k≠2→1≤n∧n≤mlen y m):=by
 unfold formE at h
 repeat' split at h
 all_goals omega
end Civ
theorem weekday_a {n:Int}{h:AH}:ACalls Tryz.prog 152 [iv n] h fun x h'=>h'=h∧x = .ret (iv (wd n)):=by
 have hb1 : -6≤n.tmod 7∧n.tmod 7≤6:=by rw [tmod7];split <;> omega
 have hb2 : -6≤(n.tmod 7+4).tmod 7∧(n.tmod 7+4).tmod 7≤6:=by rw [tmod7];split <;> omega
 refine tI' k152 fun N hn hlt hlA hbd=>?_
 simp only [tA',AV.bdL,AV.bd,and_true,true_and] at hbd ⊢
 refine wr'<|mv' lki pt2<|sn'<|wr'<|mv' lk0 pt3<|?_
 refine V' (v_remw lk3 lki (by omega)) pt4 ?_
 refine V' (v_add lk4 lki (by omega) (by omega)) pt5 ?_
 refine V' (v_remw lk5 lki (by omega)) pt6 ?_
 refine V' (v_add lk6 lki (by omega) (by omega)) pt7 ?_
 refine V' (v_remw lk7 lki (by omega)) pt8 ?_
 refine mv' lk8 pt2<|sn'<|w_rets<|w_ret (rs1 (rr_t gt2))<|rT'<|?_
 exact ivx (wd_go n)
theorem toward_f {n k:Int}{h:AH}(h0 : -100000000≤n) (h1:n≤100000000) (hk:0≤k∧k≤6):ACalls Tryz.prog 123 [iv n,iv k,iv 1] h fun x h'=>h'=h∧x = .ret (iv (fwd n k)):=by
 refine tI' k123 fun N hn hlt hlA hbd=>?_
 simp only [tA',AV.bdL,AV.bd,and_true,true_and] at hbd ⊢
 refine wr'<|mv' lki pt6<|sn'<|w_seq<|w_block<|?_
 refine w_loop (ι:=Nat) (fun (j:Nat)=>[(0,iv (n+j))]++rn' 7 7) (fun (j:Nat)=>[]) (fun (j:Nat)=>(j:Int)≤(k-wd n)%7) (fun (j:Nat)=>7-j) (0) (by have:=wd_bd n;omega) (by try simp only [setsT,setsE,z',s',rn',la',ln',Nat.reduceAdd];exact ALe.same (by repeat (first | exact wk0 | refine wka ?_ | refine wk1 rfl ?_ | refine wk1 (by first | rfl | exact ivx (by simp)) ?_)) rfl) ?_
 rintro j hi1
 try simp only [setsT,setsE,z',s',rn',la',ln',Nat.reduceAdd]
 have hwf:=wd_fwd (n:=n) (k:=k) (j:=j) (by omega) hi1 hk
 refine w_seq<|wr'<|mv' lk0 pt7<|s_callp (mp1 lk7 mp0) (weekday_a) pt8<|mv' lk1 pt9<|V' (v_neq lk8 lk9) pt10<|sn'<|?_
 refine cd' lk10 (fun hc1=>?_) (fun hc1=>?_)
 ·have hj:¬(j:Int)=(k-wd n)%7:=fun e=>hc1 (hwf.2 e)
  refine w_skip<|n_seq<|w_block<|w_reg<|mv' lk0 pt11<|mv' lk2 pt12<|?_
  refine V' (v_add lk11 lk12 (by omega) (by omega)) pt13 ?_
  refine mv' lk13 pt0<|s_nil<|n_blk<|n_thn<|?_
  refine lU' (j+1) (by (try dsimp only);omega) (by (try dsimp only);(try simp only [setsT,setsE,z',s',rn',la',ln',Nat.reduceAdd]);exact ALe.same (by repeat (first | exact wk0 | refine wka ?_ | refine wk1 rfl ?_ | refine wk1 (by first | rfl | exact ivx (by omega)) ?_)) rfl)
 have hj:=hwf.1 (Decidable.of_not_not hc1)
 refine w_exit<|x_thn<|x_thn<|x_blk<|n_seq<|wr'<|mv' lk0 pt14<|mv' lk14 pt6<|sn'<|w_rets<|w_ret (rs1 (rr_t gt6))<|rT'<|?_
 refine ivx ?_;unfold fwd;omega
theorem toward_b {n k:Int}{h:AH}(h0 : -100000000≤n) (h1:n≤100000000) (hk:0≤k∧k≤6):ACalls Tryz.prog 123 [iv n,iv k,iv (-1)] h fun x h'=>h'=h∧x = .ret (iv (bwd n k)):=by
 refine tI' k123 fun N hn hlt hlA hbd=>?_
 simp only [tA',AV.bdL,AV.bd,and_true,true_and] at hbd ⊢
 refine wr'<|mv' lki pt6<|sn'<|w_seq<|w_block<|?_
 refine w_loop (ι:=Nat) (fun (j:Nat)=>[(0,iv (n-j))]++rn' 7 7) (fun (j:Nat)=>[]) (fun (j:Nat)=>(j:Int)≤(wd n-k)%7) (fun (j:Nat)=>7-j) (0) (by have:=wd_bd n;omega) (by try simp only [setsT,setsE,z',s',rn',la',ln',Nat.reduceAdd];exact ALe.same (by repeat (first | exact wk0 | refine wka ?_ | refine wk1 rfl ?_ | refine wk1 (by first | rfl | exact ivx (by simp)) ?_)) rfl) ?_
 rintro j hi1
 try simp only [setsT,setsE,z',s',rn',la',ln',Nat.reduceAdd]
 have hwf:=wd_bwd (n:=n) (k:=k) (j:=j) (by omega) hi1 hk
 refine w_seq<|wr'<|mv' lk0 pt7<|s_callp (mp1 lk7 mp0) (weekday_a) pt8<|mv' lk1 pt9<|V' (v_neq lk8 lk9) pt10<|sn'<|?_
 refine cd' lk10 (fun hc1=>?_) (fun hc1=>?_)
 ·have hj:¬(j:Int)=(wd n-k)%7:=fun e=>hc1 (hwf.2 e)
  refine w_skip<|n_seq<|w_block<|w_reg<|mv' lk0 pt11<|mv' lk2 pt12<|?_
  refine V' (v_add lk11 lk12 (by omega) (by omega)) pt13 ?_
  refine mv' lk13 pt0<|s_nil<|n_blk<|n_thn<|?_
  refine lU' (j+1) (by (try dsimp only);omega) (by (try dsimp only);(try simp only [setsT,setsE,z',s',rn',la',ln',Nat.reduceAdd]);exact ALe.same (by repeat (first | exact wk0 | refine wka ?_ | refine wk1 rfl ?_ | refine wk1 (by first | rfl | exact ivx (by omega)) ?_)) rfl)
 have hj:=hwf.1 (Decidable.of_not_not hc1)
 refine w_exit<|x_thn<|x_thn<|x_blk<|n_seq<|wr'<|mv' lk0 pt14<|mv' lk14 pt6<|sn'<|w_rets<|w_ret (rs1 (rr_t gt6))<|rT'<|?_
 refine ivx ?_;unfold bwd;omega
theorem wi_iff {n a b:Int}:wi n a b=true↔a≤n∧n≤b:=by unfold wi;simp
theorem wi_not {n a b:Int}:wi n a b=false↔¬(a≤n∧n≤b):=by rw [←wi_iff];simp
set_option maxHeartbeats 1000000 in
theorem form_a {y m k wk n:Int}{h:AH}:ACalls Tryz.prog 121 [iv y,iv m,.agg [iv k,iv wk,iv n]] h fun x h'=>h'=h∧x = .ret (iv (formE y m k wk n)):=by
 refine tI' k121 fun N hn hlt hlA hbd=>?_
 simp only [tA',AV.bdL,AV.bd,and_true,true_and] at hbd ⊢
 refine wr'<|E' (e_box (cvl lk2 rfl) rfl (hl0 hn) ha0) pt5<|mv' lki pt6<|sn'<|w_seq<|w_block<|wr'<|mv' lk0 pt8<|s_callp (mp1 lk8 (mp1 lki (mp1 lki mp0))) (cwithin_a) pt9<|V' (v_notB lk9) pt10<|mv' lk10 pt11<|?_
 refine s_splitB gt11 pt11 pt11 (fun hg11=>?_) (fun hg11=>?_)
 ·refine s_no gt11 pt12<|s_no gt11 pt13<|s_no gt11 pt14<|V' (v_pickT lk11 lkb) pt15<|mv' lk15 pt7<|sn'<|w_condT lk7<|wr'<|mv' lki pt6<|sn'<|w_rets<|?_
  refine r_blk<|r_thn<|w_ret (rs1 (rr_t gt6))<|rT'<|?_
  refine ivx ?_;unfold formE;simp only [Bool.not_eq_true',Bool.not_eq_false',wi_iff,wi_not,decide_eq_true_eq,decide_eq_false_iff_not] at *;repeat' split
  all_goals omega
 refine s_do gt11<|mv' lk1 pt12<|s_do gt11<|s_callp (mp1 lk12 (mp1 lki (mp1 lki mp0))) (cwithin_a) pt13<|s_do gt11<|V' (v_notB lk13) pt14<|V' (v_pickF lk11 lk14) pt15<|mv' lk15 pt7<|sn'<|?_
 refine w_condB lk7 (fun hc1=>?_) (fun hc1=>?_)
 ·refine wr'<|mv' lki pt6<|sn'<|w_rets<|r_blk<|r_thn<|w_ret (rs1 (rr_t gt6))<|rT'<|?_
  refine ivx ?_;unfold formE;simp only [Bool.not_eq_true',Bool.not_eq_false',wi_iff,wi_not,decide_eq_true_eq,decide_eq_false_iff_not] at *;repeat' split
  all_goals omega
 refine wr'<|V' (v_fap0 lk5) pt17<|V' (v_loadp lk17 (hga hn rfl) gt0) pt18<|s_callp (mp1 lk18 (mp1 lki (mp1 lki mp0))) (cwithin_a) pt19<|V' (v_notB lk19) pt20<|mv' lk20 pt16<|sn'<|?_
 refine w_condB lk16 (fun hc2=>?_) (fun hc2=>?_)
 ·refine wr'<|mv' lki pt6<|sn'<|w_rets<|r_blk<|r_thn<|w_ret (rs1 (rr_t gt6))<|rT'<|?_
  refine ivx ?_;unfold formE;simp only [Bool.not_eq_true',Bool.not_eq_false',wi_iff,wi_not,decide_eq_true_eq,decide_eq_false_iff_not] at *;repeat' split
  all_goals omega
 refine wr'<|V' (v_fap0 lk5) pt22<|V' (v_loadp lk22 (hga hn rfl) gt1) pt23<|s_callp (mp1 lk23 (mp1 lki (mp1 lki mp0))) (cwithin_a) pt24<|V' (v_notB lk24) pt25<|mv' lk25 pt26<|?_
 refine s_splitB gt26 pt26 pt26 (fun hg26=>?_) (fun hg26=>?_)
 ·refine s_no gt26 pt27<|s_no gt26 pt28<|s_no gt26 pt29<|s_no gt26 pt30<|s_nu gt30 pt31<|s_nu gt30 pt32<|s_nu gt30 pt33<|s_no gt26 pt34<|V' (v_pickT lk26 lkb) pt35<|mv' lk35 pt21<|sn'<|w_condT lk21<|w_seq<|?_
  refine w_reg<|mv' lki pt6<|sn'<|w_rets<|r_blk<|r_thn<|w_ret (rs1 (rr_t gt6))<|rT'<|?_
  refine ivx ?_;unfold formE;simp only [Bool.not_eq_true',Bool.not_eq_false',wi_iff,wi_not,decide_eq_true_eq,decide_eq_false_iff_not] at *;repeat' split
  all_goals omega
 refine s_do gt26<|V' (v_fap0 lk5) pt27<|s_do gt26<|V' (v_loadp lk27 (hga hn rfl) gt0) pt28<|s_do gt26<|V' (v_eql lk28 lki) pt29<|s_do gt26<|mv' lk29 pt30<|?_
 refine sp' gt30 pt30 pt30 (fun hg30=>?_) (fun hg30=>?_)
 ·refine s_do gt30<|V' (v_fap0 lk5) pt31<|s_do gt30<|V' (v_loadp lk31 (hga hn rfl) gt1) pt32<|s_do gt30<|V' (v_neq lk32 lki) pt33<|s_do gt26<|V' (v_pickT lk30 lk33) pt34<|V' (v_pickF lk26 lk34) pt35<|mv' lk35 pt21<|sn'<|?_
  refine cd' lk21 (fun hc3=>?_) (fun hc3=>?_)
  ·refine wr'<|mv' lki pt6<|sn'<|w_rets<|r_blk<|r_thn<|w_ret (rs1 (rr_t gt6))<|rT'<|?_
   refine ivx ?_;unfold formE;simp only [Bool.not_eq_true',Bool.not_eq_false',wi_iff,wi_not,decide_eq_true_eq,decide_eq_false_iff_not] at *;repeat' split
   all_goals omega
  refine w_seq<|w_drwE<|D' (v_fap0 lk5) pt37<|D' (v_loadp lk37 (hga hn rfl) gt0) pt38<|D' (v_eql lk38 lki) pt39<|D' (v_mv lk39) pt40<|?_
  refine dq' gt40 pt40 pt40 (fun hg40=>?_) (fun hg40=>?_)
  ·refine d_do gt40<|D' (v_fap0 lk5) pt41<|d_do gt40<|D' (v_loadp lk41 (hga hn rfl) gt2) pt42<|d_do gt40<|D' (v_neq lk42 lki) pt43<|D' (v_pickT lk40 lk43) pt44<|D' (v_mv lk44) pt45<|?_
   refine dq' gt45 pt45 pt45 (fun hg45=>?_) (fun hg45=>?_)
   ·refine d_no gt45 pt46<|d_no gt45 pt47<|d_no gt45 pt48<|d_no gt45 pt49<|d_nu gt49 pt50<|d_nu gt49 pt51<|d_nu gt49 pt52<|d_nu gt49 pt53<|d_nu gt49 pt54<|d_nu gt49 pt55<|d_nu gt49 pt56<|d_no gt45 pt57<|D' (v_pickT lk45 lkb) pt58<|D' (v_mv lk58) pt36<|?_
    refine d_nil ?_
    refine e_nil ?_
    refine sn'<|w_condT lk36<|wr'<|mv' lki pt6<|sn'<|w_rets<|r_blk<|r_thn<|w_ret (rs1 (rr_t gt6))<|rT'<|?_
    refine ivx ?_;unfold formE;simp only [Bool.not_eq_true',Bool.not_eq_false',wi_iff,wi_not,decide_eq_true_eq,decide_eq_false_iff_not] at *;repeat' split
    all_goals omega
   refine d_do gt45<|D' (v_fap0 lk5) pt46<|d_do gt45<|D' (v_loadp lk46 (hga hn rfl) gt0) pt47<|d_do gt45<|D' (v_neq lk47 lki) pt48<|d_do gt45<|D' (v_mv lk48) pt49<|?_
   refine dq' gt49 pt49 pt49 (fun hg49=>?_) (fun hg49=>?_)
   ·refine d_do gt49<|D' (v_fap0 lk5) pt50<|d_do gt49<|D' (v_loadp lk50 (hga hn rfl) gt2) pt51<|d_do gt49<|D' (v_mv lk0) pt52<|d_do gt49<|D' (v_mv lk1) pt53<|d_do gt49<|?_
    have hym:(1≤y∧y≤9999)∧(1≤m∧m≤12):=by simp only [Bool.not_eq_true',Bool.not_eq_false',wi_iff,wi_not] at *;omega
    refine d_callp (mp1 lk52 (mp1 lk53 mp0)) (fun hE hX=>length_a (by omega) (by omega) hym.2.1 hym.2.2) pt54 ?_
    refine d_do gt49 ?_
    refine d_callp (mp1 lk51 (mp1 lki (mp1 lk54 mp0))) (fun hE hX=>cwithin_a) pt55 ?_
    refine d_do gt49<|D' (v_notB lk55) pt56<|d_do gt45<|D' (v_pickT lk49 lk56) pt57<|D' (v_pickF lk45 lk57) pt58<|D' (v_mv lk58) pt36<|d_nil<|?_
    refine e_nil ?_
    refine sn' ?_
    refine w_condB lk36 (fun hc4=>?_) (fun hc4=>?_)
    ·refine wr'<|mv' lki pt6<|sn'<|w_rets<|r_blk<|r_thn<|w_ret (rs1 (rr_t gt6))<|rT'<|?_
     refine ivx ?_;unfold formE;simp only [Bool.not_eq_true',Bool.not_eq_false',wi_iff,wi_not,decide_eq_true_eq,decide_eq_false_iff_not] at *;repeat' split
     all_goals omega
    refine w_skip<|n_blk<|n_seq<|wr'<|mv' lki pt6<|sn'<|w_rets<|w_ret (rs1 (rr_t gt6))<|rT'<|?_
    refine ivx ?_;unfold formE;simp only [Bool.not_eq_true',Bool.not_eq_false',wi_iff,wi_not,decide_eq_true_eq,decide_eq_false_iff_not] at *;repeat' split
    all_goals omega
   refine d_no gt49 pt50<|d_no gt49 pt51<|d_no gt49 pt52<|d_no gt49 pt53<|d_no gt49 pt54<|d_no gt49 pt55<|d_no gt49 pt56<|d_do gt45<|D' (v_pickF lk49 lkb) pt57<|D' (v_pickF lk45 lk57) pt58<|D' (v_mv lk58) pt36<|d_nil<|?_
   refine e_nil ?_
   refine sn'<|w_condF lk36<|w_skip<|n_blk<|n_seq<|wr'<|mv' lki pt6<|sn'<|w_rets<|w_ret (rs1 (rr_t gt6))<|rT'<|?_
   refine ivx ?_;unfold formE;simp only [Bool.not_eq_true',Bool.not_eq_false',wi_iff,wi_not,decide_eq_true_eq,decide_eq_false_iff_not] at *;repeat' split
   all_goals omega
  refine d_no gt40 pt41<|d_no gt40 pt42<|d_no gt40 pt43<|D' (v_pickF lk40 lkb) pt44<|D' (v_mv lk44) pt45<|d_do gt45<|D' (v_fap0 lk5) pt46<|d_do gt45<|D' (v_loadp lk46 (hga hn rfl) gt0) pt47<|d_do gt45<|D' (v_neq lk47 lki) pt48<|d_do gt45<|D' (v_mv lk48) pt49<|?_
  refine dq' gt49 pt49 pt49 (fun hg49=>?_) (fun hg49=>?_)
  ·refine d_do gt49<|D' (v_fap0 lk5) pt50<|d_do gt49<|D' (v_loadp lk50 (hga hn rfl) gt2) pt51<|d_do gt49<|D' (v_mv lk0) pt52<|d_do gt49<|D' (v_mv lk1) pt53<|d_do gt49<|?_
   have hym:(1≤y∧y≤9999)∧(1≤m∧m≤12):=by simp only [Bool.not_eq_true',Bool.not_eq_false',wi_iff,wi_not] at *;omega
   refine d_callp (mp1 lk52 (mp1 lk53 mp0)) (fun hE hX=>length_a (by omega) (by omega) hym.2.1 hym.2.2) pt54 ?_
   refine d_do gt49 ?_
   refine d_callp (mp1 lk51 (mp1 lki (mp1 lk54 mp0))) (fun hE hX=>cwithin_a) pt55 ?_
   refine d_do gt49<|D' (v_notB lk55) pt56<|d_do gt45<|D' (v_pickT lk49 lk56) pt57<|D' (v_pickF lk45 lk57) pt58<|D' (v_mv lk58) pt36<|d_nil<|?_
   refine e_nil ?_
   refine sn' ?_
   refine w_condB lk36 (fun hc4=>?_) (fun hc4=>?_)
   ·refine wr'<|mv' lki pt6<|sn'<|w_rets<|r_blk<|r_thn<|w_ret (rs1 (rr_t gt6))<|rT'<|?_
    refine ivx ?_;unfold formE;simp only [Bool.not_eq_true',Bool.not_eq_false',wi_iff,wi_not,decide_eq_true_eq,decide_eq_false_iff_not] at *;repeat' split
    all_goals omega
   refine w_skip<|n_blk<|n_seq<|wr'<|mv' lki pt6<|sn'<|w_rets<|w_ret (rs1 (rr_t gt6))<|rT'<|?_
   refine ivx ?_;unfold formE;simp only [Bool.not_eq_true',Bool.not_eq_false',wi_iff,wi_not,decide_eq_true_eq,decide_eq_false_iff_not] at *;repeat' split
   all_goals omega
  refine d_no gt49 pt50<|d_no gt49 pt51<|d_no gt49 pt52<|d_no gt49 pt53<|d_no gt49 pt54<|d_no gt49 pt55<|d_no gt49 pt56<|d_do gt45<|D' (v_pickF lk49 lkb) pt57<|D' (v_pickF lk45 lk57) pt58<|D' (v_mv lk58) pt36<|d_nil<|?_
  refine e_nil ?_
  refine sn'<|w_condF lk36<|w_skip<|n_blk<|n_seq<|wr'<|mv' lki pt6<|sn'<|w_rets<|w_ret (rs1 (rr_t gt6))<|rT'<|?_
  refine ivx ?_;unfold formE;simp only [Bool.not_eq_true',Bool.not_eq_false',wi_iff,wi_not,decide_eq_true_eq,decide_eq_false_iff_not] at *;repeat' split
  all_goals omega
 refine s_no gt30 pt31<|s_no gt30 pt32<|s_no gt30 pt33<|s_do gt26<|V' (v_pickF lk30 lkb) pt34<|V' (v_pickF lk26 lk34) pt35<|mv' lk35 pt21<|sn'<|w_condF lk21<|w_seq<|w_drwE<|D' (v_fap0 lk5) pt37<|D' (v_loadp lk37 (hga hn rfl) gt0) pt38<|?_
 refine D' (v_eql lk38 lki) pt39<|D' (v_mv lk39) pt40<|?_
 refine dq' gt40 pt40 pt40 (fun hg40=>?_) (fun hg40=>?_)
 ·refine d_do gt40<|D' (v_fap0 lk5) pt41<|d_do gt40<|D' (v_loadp lk41 (hga hn rfl) gt2) pt42<|d_do gt40<|D' (v_neq lk42 lki) pt43<|D' (v_pickT lk40 lk43) pt44<|D' (v_mv lk44) pt45<|?_
  refine dq' gt45 pt45 pt45 (fun hg45=>?_) (fun hg45=>?_)
  ·refine d_no gt45 pt46<|d_no gt45 pt47<|d_no gt45 pt48<|d_no gt45 pt49<|d_nu gt49 pt50<|d_nu gt49 pt51<|d_nu gt49 pt52<|d_nu gt49 pt53<|d_nu gt49 pt54<|d_nu gt49 pt55<|d_nu gt49 pt56<|d_no gt45 pt57<|D' (v_pickT lk45 lkb) pt58<|D' (v_mv lk58) pt36<|?_
   refine d_nil ?_
   refine e_nil ?_
   refine sn'<|w_condT lk36<|wr'<|mv' lki pt6<|sn'<|w_rets<|r_blk<|r_thn<|w_ret (rs1 (rr_t gt6))<|rT'<|?_
   refine ivx ?_;unfold formE;simp only [Bool.not_eq_true',Bool.not_eq_false',wi_iff,wi_not,decide_eq_true_eq,decide_eq_false_iff_not] at *;repeat' split
   all_goals omega
  refine d_do gt45<|D' (v_fap0 lk5) pt46<|d_do gt45<|D' (v_loadp lk46 (hga hn rfl) gt0) pt47<|d_do gt45<|D' (v_neq lk47 lki) pt48<|d_do gt45<|D' (v_mv lk48) pt49<|?_
  refine dq' gt49 pt49 pt49 (fun hg49=>?_) (fun hg49=>?_)
  ·refine d_do gt49<|D' (v_fap0 lk5) pt50<|d_do gt49<|D' (v_loadp lk50 (hga hn rfl) gt2) pt51<|d_do gt49<|D' (v_mv lk0) pt52<|d_do gt49<|D' (v_mv lk1) pt53<|d_do gt49<|?_
   have hym:(1≤y∧y≤9999)∧(1≤m∧m≤12):=by simp only [Bool.not_eq_true',Bool.not_eq_false',wi_iff,wi_not] at *;omega
   refine d_callp (mp1 lk52 (mp1 lk53 mp0)) (fun hE hX=>length_a (by omega) (by omega) hym.2.1 hym.2.2) pt54 ?_
   refine d_do gt49 ?_
   refine d_callp (mp1 lk51 (mp1 lki (mp1 lk54 mp0))) (fun hE hX=>cwithin_a) pt55 ?_
   refine d_do gt49<|D' (v_notB lk55) pt56<|d_do gt45<|D' (v_pickT lk49 lk56) pt57<|D' (v_pickF lk45 lk57) pt58<|D' (v_mv lk58) pt36<|d_nil<|?_
   refine e_nil ?_
   refine sn' ?_
   refine w_condB lk36 (fun hc4=>?_) (fun hc4=>?_)
   ·refine wr'<|mv' lki pt6<|sn'<|w_rets<|r_blk<|r_thn<|w_ret (rs1 (rr_t gt6))<|rT'<|?_
    refine ivx ?_;unfold formE;simp only [Bool.not_eq_true',Bool.not_eq_false',wi_iff,wi_not,decide_eq_true_eq,decide_eq_false_iff_not] at *;repeat' split
    all_goals omega
   refine w_skip<|n_blk<|n_seq<|wr'<|mv' lki pt6<|sn'<|w_rets<|w_ret (rs1 (rr_t gt6))<|rT'<|?_
   refine ivx ?_;unfold formE;simp only [Bool.not_eq_true',Bool.not_eq_false',wi_iff,wi_not,decide_eq_true_eq,decide_eq_false_iff_not] at *;repeat' split
   all_goals omega
  refine d_no gt49 pt50<|d_no gt49 pt51<|d_no gt49 pt52<|d_no gt49 pt53<|d_no gt49 pt54<|d_no gt49 pt55<|d_no gt49 pt56<|d_do gt45<|D' (v_pickF lk49 lkb) pt57<|D' (v_pickF lk45 lk57) pt58<|D' (v_mv lk58) pt36<|d_nil<|?_
  refine e_nil ?_
  refine sn'<|w_condF lk36<|w_skip<|n_blk<|n_seq<|wr'<|mv' lki pt6<|sn'<|w_rets<|w_ret (rs1 (rr_t gt6))<|rT'<|?_
  refine ivx ?_;unfold formE;simp only [Bool.not_eq_true',Bool.not_eq_false',wi_iff,wi_not,decide_eq_true_eq,decide_eq_false_iff_not] at *;repeat' split
  all_goals omega
 refine d_no gt40 pt41<|d_no gt40 pt42<|d_no gt40 pt43<|D' (v_pickF lk40 lkb) pt44<|D' (v_mv lk44) pt45<|d_do gt45<|D' (v_fap0 lk5) pt46<|d_do gt45<|D' (v_loadp lk46 (hga hn rfl) gt0) pt47<|d_do gt45<|D' (v_neq lk47 lki) pt48<|d_do gt45<|D' (v_mv lk48) pt49<|?_
 refine dq' gt49 pt49 pt49 (fun hg49=>?_) (fun hg49=>?_)
 ·refine d_do gt49<|D' (v_fap0 lk5) pt50<|d_do gt49<|D' (v_loadp lk50 (hga hn rfl) gt2) pt51<|d_do gt49<|D' (v_mv lk0) pt52<|d_do gt49<|D' (v_mv lk1) pt53<|d_do gt49<|?_
  have hym:(1≤y∧y≤9999)∧(1≤m∧m≤12):=by simp only [Bool.not_eq_true',Bool.not_eq_false',wi_iff,wi_not] at *;omega
  refine d_callp (mp1 lk52 (mp1 lk53 mp0)) (fun hE hX=>length_a (by omega) (by omega) hym.2.1 hym.2.2) pt54 ?_
  refine d_do gt49 ?_
  refine d_callp (mp1 lk51 (mp1 lki (mp1 lk54 mp0))) (fun hE hX=>cwithin_a) pt55 ?_
  refine d_do gt49<|D' (v_notB lk55) pt56<|d_do gt45<|D' (v_pickT lk49 lk56) pt57<|D' (v_pickF lk45 lk57) pt58<|D' (v_mv lk58) pt36<|d_nil<|?_
  refine e_nil ?_
  refine sn' ?_
  refine w_condB lk36 (fun hc4=>?_) (fun hc4=>?_)
  ·refine wr'<|mv' lki pt6<|sn'<|w_rets<|r_blk<|r_thn<|w_ret (rs1 (rr_t gt6))<|rT'<|?_
   refine ivx ?_;unfold formE;simp only [Bool.not_eq_true',Bool.not_eq_false',wi_iff,wi_not,decide_eq_true_eq,decide_eq_false_iff_not] at *;repeat' split
   all_goals omega
  refine w_skip<|n_blk<|n_seq<|wr'<|mv' lki pt6<|sn'<|w_rets<|w_ret (rs1 (rr_t gt6))<|rT'<|?_
  refine ivx ?_;unfold formE;simp only [Bool.not_eq_true',Bool.not_eq_false',wi_iff,wi_not,decide_eq_true_eq,decide_eq_false_iff_not] at *;repeat' split
  all_goals omega
 refine d_no gt49 pt50<|d_no gt49 pt51<|d_no gt49 pt52<|d_no gt49 pt53<|d_no gt49 pt54<|d_no gt49 pt55<|d_no gt49 pt56<|d_do gt45<|D' (v_pickF lk49 lkb) pt57<|D' (v_pickF lk45 lk57) pt58<|D' (v_mv lk58) pt36<|d_nil<|?_
 refine e_nil ?_
 refine sn'<|w_condF lk36<|w_skip<|n_blk<|n_seq<|wr'<|mv' lki pt6<|sn'<|w_rets<|w_ret (rs1 (rr_t gt6))<|rT'<|?_
 refine ivx ?_;unfold formE;simp only [Bool.not_eq_true',Bool.not_eq_false',wi_iff,wi_not,decide_eq_true_eq,decide_eq_false_iff_not] at *;repeat' split
 all_goals omega
theorem on_a {y m k wk n:Int}{h:AH}:ACalls Tryz.prog 83 [iv y,iv m,.agg [iv k,iv wk,iv n]] h fun x h'=>h'=h∧x = .ret (.tup [.agg [iv (onV y m k wk n).1.1,iv (onV y m k wk n).1.2.1,iv (onV y m k wk n).1.2.2],iv (onV y m k wk n).2]):=by
 have hfb:=formE_bd y m k wk n
 refine tI' k83 fun N hn hlt hlA hbd=>?_
 simp only [tA',AV.bdL,AV.bd,and_true,true_and] at hbd ⊢
 refine wr'<|E' (e_box (cvl lk2 rfl) rfl (hl0 hn) ha0) pt5<|E' (e_new (hl1 hn) ha1) pt6<|mv' lki pt7<|sn'<|w_seq<|wr'<|mv' lk0 pt11<|mv' lk1 pt12<|V' (v_loadpA lk5 (hga hn rfl) CivM_tk0_3 rfl) pt13<|s_callp (mp1 lk11 (mp1 lk12 (mp1 lk13 mp0))) (form_a) pt14<|?_
 refine mv' lk14 pt8<|sn'<|wr'<|mv' lk8 pt15<|V' (v_neq lk15 lki) pt16<|sn'<|?_
 refine cd' lk16 (fun hc1=>?_) (fun hc1=>?_)
 ·have hv:=onV_no (y:=y) (m:=m) (kind:=k) (wk:=wk) (n:=n) rfl hc1
  refine wr'<|V' (v_build CivM_On_11) pt17<|mv' lk8 pt18<|E' (e_store lk6 (cvl lk17 rfl) (hga hn rfl) rfl (nb' rfl) rfl CivM_sc0_3 (hs1 hn)) ptn<|mv' lk18 pt7<|sn'<|w_rets<|r_thn<|w_ret (rsn (rm1 (rr_c gt6 (hga hn rfl) (ld1 CivM_tk0_3 rfl)) (rm1 (rr_t gt7) rm0)))<|rT'<|?_
  rw [hv]
 have he:formE y m k wk n=0:=Decidable.of_not_not hc1
 obtain ⟨hy,hm,hk,hw,hk1,hk2,hn3⟩:=formE_ok he
 have hnb:=num_bd1 (y:=y) (m:=m) ⟨hy.1,by omega⟩ hm
 have hml:=mlen_bd y m
 have hn':0≤n∧n≤31:=by by_cases e:k=2 <;> simp_all <;> omega
 refine w_skip<|n_seq<|wr'<|mv' lk0 pt19<|mv' lk1 pt20<|V' (v_build (CivM_On_17 (cvl lk19 rfl) rfl (cvl lk20 rfl) rfl (cvl lki rfl) rfl)) pt21<|?_
 refine s_callp (mp1 lk21 mp0) (number_a (by omega) (by omega) (by omega) (by omega) (by omega) (by omega)) pt22 ?_
 refine mv' lk22 pt9<|sn'<|wr'<|mv' lk9 pt23<|V' (v_fap0 lk5) pt24<|V' (v_loadp lk24 (hga hn rfl) gt2) pt25<|?_
 refine V' (v_add lk23 lk25 (by omega) (by omega)) pt26 ?_
 refine V' (v_sub lk26 lki (by omega) (by omega)) pt27 ?_
 refine mv' lk27 pt10<|sn'<|w_seq<|wr'<|V' (v_fap0 lk5) pt28<|V' (v_loadp lk28 (hga hn rfl) gt0) pt29<|sn'<|w_block<|wr'<|V' (v_eql lk29 lki) pt31<|?_
 refine mv' lk31 pt30<|sn'<|?_
 refine cd' lk30 (fun hc2=>?_) (fun hc2=>?_)
 ·have hd:onDay y m k wk n=bwd (num y m 1+mlen y m-1) wk:=by unfold onDay;rw [if_pos hc2,num_1 y m (mlen y m)]
  refine w_drwE<|D' (v_mv lk9) pt32<|D' (v_mv lk0) pt33<|D' (v_mv lk1) pt34<|?_
  refine d_callp (mp1 lk33 (mp1 lk34 mp0)) (fun hE hX=>length_a (by omega) (by omega) hm.1 hm.2) pt35 ?_
  refine D' (v_add lk32 lk35 (by omega) (by omega)) pt36 ?_
  refine D' (v_sub lk36 lki (by omega) (by omega)) pt37 ?_
  refine D' (v_fap0 lk5) pt38<|D' (v_loadp lk38 (hga hn rfl) gt1) pt39<|?_
  refine d_callp (mp1 lk37 (mp1 lk39 (mp1 lki mp0))) (fun hE hX=>toward_b (by omega) (by omega) hw) pt40 ?_
  refine D' (v_mv lk40) pt10<|d_nil<|?_
  refine e_nil ?_
  refine s_nil<|n_blk<|n_seq<|wr'<|mv' lk10 pt53<|s_callp (mp1 lk53 mp0) (of_a) pt54<|V' (v_ext lk54 gt0) pt55<|V' (v_ext lk54 gt1) pt56<|E' (e_store lk6 (cvl lk55 rfl) (hga hn rfl) rfl (nb' rfl) rfl CivM_sc0_3 (hs1 hn)) ptn<|mv' lk56 pt7<|sn'<|w_rets<|?_
  refine w_ret (rsn (rm1 (rr_c gt6 (hga hn rfl) (ld1 CivM_tk0_3 rfl)) (rm1 (rr_t gt7) rm0)))<|rT'<|?_
  rw [onV_ok he hd];split <;> rfl
 refine wr'<|V' (v_eql lk29 lki) pt42<|mv' lk42 pt41<|sn'<|?_
 refine cd' lk41 (fun hc3=>?_) (fun hc3=>?_)
 ·have hd:onDay y m k wk n=fwd (num y m 1+n-1) wk:=by unfold onDay;rw [if_neg hc2,if_pos hc3,num_1 y m n]
  refine w_reg<|mv' lk10 pt43<|V' (v_fap0 lk5) pt44<|V' (v_loadp lk44 (hga hn rfl) gt1) pt45<|?_
  refine s_callp (mp1 lk43 (mp1 lk45 (mp1 lki mp0))) (toward_f (by omega) (by omega) hw) pt46 ?_
  refine mv' lk46 pt10<|s_nil<|n_blk<|n_seq<|wr'<|mv' lk10 pt53<|s_callp (mp1 lk53 mp0) (of_a) pt54<|V' (v_ext lk54 gt0) pt55<|V' (v_ext lk54 gt1) pt56<|E' (e_store lk6 (cvl lk55 rfl) (hga hn rfl) rfl (nb' rfl) rfl CivM_sc0_3 (hs1 hn)) ptn<|mv' lk56 pt7<|sn'<|?_
  refine w_rets<|w_ret (rsn (rm1 (rr_c gt6 (hga hn rfl) (ld1 CivM_tk0_3 rfl)) (rm1 (rr_t gt7) rm0)))<|rT'<|?_
  rw [onV_ok he hd];split <;> rfl
 refine wr'<|V' (v_eql lk29 lki) pt48<|mv' lk48 pt47<|sn'<|?_
 refine cd' lk47 (fun hc4=>?_) (fun hc4=>?_)
 ·have hd:onDay y m k wk n=bwd (num y m 1+n-1) wk:=by unfold onDay;rw [if_neg hc2,if_neg hc3,if_pos hc4,num_1 y m n]
  refine w_reg<|mv' lk10 pt49<|V' (v_fap0 lk5) pt50<|V' (v_loadp lk50 (hga hn rfl) gt1) pt51<|?_
  refine s_callp (mp1 lk49 (mp1 lk51 (mp1 lki mp0))) (toward_b (by omega) (by omega) hw) pt52 ?_
  refine mv' lk52 pt10<|s_nil<|n_blk<|n_seq<|wr'<|mv' lk10 pt53<|s_callp (mp1 lk53 mp0) (of_a) pt54<|V' (v_ext lk54 gt0) pt55<|V' (v_ext lk54 gt1) pt56<|E' (e_store lk6 (cvl lk55 rfl) (hga hn rfl) rfl (nb' rfl) rfl CivM_sc0_3 (hs1 hn)) ptn<|mv' lk56 pt7<|sn'<|?_
  refine w_rets<|w_ret (rsn (rm1 (rr_c gt6 (hga hn rfl) (ld1 CivM_tk0_3 rfl)) (rm1 (rr_t gt7) rm0)))<|rT'<|?_
  rw [onV_ok he hd];split <;> rfl
 have hd:onDay y m k wk n=num y m 1+n-1:=by unfold onDay;rw [if_neg hc2,if_neg hc3,if_neg hc4,num_1 y m n]
 refine w_skip<|n_blk<|n_seq<|wr'<|mv' lk10 pt53<|s_callp (mp1 lk53 mp0) (of_a) pt54<|V' (v_ext lk54 gt0) pt55<|V' (v_ext lk54 gt1) pt56<|E' (e_store lk6 (cvl lk55 rfl) (hga hn rfl) rfl (nb' rfl) rfl CivM_sc0_3 (hs1 hn)) ptn<|mv' lk56 pt7<|sn'<|w_rets<|?_
 refine w_ret (rsn (rm1 (rr_c gt6 (hga hn rfl) (ld1 CivM_tk0_3 rfl)) (rm1 (rr_t gt7) rm0)))<|rT'<|?_
 rw [onV_ok he hd];split <;> rfl
theorem rbetween_a {n a b:Int}{h:AH}:ACalls Tryz.prog 68 [iv n,iv a,iv b] h fun x h'=>h'=h∧x = .ret (bv (wi n a b)):=rlbetween_a
theorem risLeap_a {y:Int}{h:AH}(h0:0≤y):ACalls Tryz.prog 136 [iv y] h fun x h'=>h'=h∧x = .ret (bv (leapB y)):=by
 refine tI' k136 fun N hn hlt hlA hbd=>?_
 simp only [tA',AV.bdL,AV.bd,and_true,true_and] at hbd ⊢
 refine wr'<|mv' lkb pt2<|sn'<|wr'<|mv' lk0 pt3<|?_
 refine V' (v_rem lk3 lki (by omega) (by omega)) pt4 ?_
 refine V' (v_eql lk4 lki) pt5<|mv' lk5 pt6<|?_
 refine sp' gt6 pt6 pt6 (fun hg6=>?_) (fun hg6=>?_)
 ·refine s_no gt6 pt7<|s_no gt6 pt8<|s_no gt6 pt9<|s_no gt6 pt10<|s_nu gt10 pt11<|s_nu gt10 pt12<|s_nu gt10 pt13<|s_no gt6 pt14<|V' (v_pickT lk6 lkb) pt15<|mv' lk15 pt2<|sn'<|w_rets<|w_ret (rs1 (rr_t gt2))<|?_
  refine rT' ?_
  refine bvx ?_;unfold leapB;rw [Bool.eq_iff_iff];simp at *;omega
 refine s_do gt6<|mv' lk0 pt7<|s_do gt6<|?_
 refine V' (v_rem lk7 lki (by omega) (by omega)) pt8 ?_
 refine s_do gt6<|V' (v_eql lk8 lki) pt9<|s_do gt6<|mv' lk9 pt10<|?_
 refine sp' gt10 pt10 pt10 (fun hg10=>?_) (fun hg10=>?_)
 ·refine s_do gt10<|mv' lk0 pt11<|s_do gt10<|?_
  refine V' (v_rem lk11 lki (by omega) (by omega)) pt12 ?_
  refine s_do gt10<|V' (v_neq lk12 lki) pt13<|s_do gt6<|V' (v_pickT lk10 lk13) pt14<|V' (v_pickF lk6 lk14) pt15<|mv' lk15 pt2<|sn'<|w_rets<|w_ret (rs1 (rr_t gt2))<|rT'<|?_
  refine bvx ?_;unfold leapB;rw [Bool.eq_iff_iff];simp at *;omega
 refine s_no gt10 pt11<|s_no gt10 pt12<|s_no gt10 pt13<|s_do gt6<|V' (v_pickF lk10 lkb) pt14<|V' (v_pickF lk6 lk14) pt15<|mv' lk15 pt2<|sn'<|w_rets<|w_ret (rs1 (rr_t gt2))<|rT'<|?_
 refine bvx ?_;unfold leapB;rw [Bool.eq_iff_iff];simp at *;omega
theorem rmonthLen_a {y m:Int}{h:AH}(h0:0≤y):ACalls Tryz.prog 98 [iv y,iv m] h fun x h'=>h'=h∧x = .ret (iv (mlen y m)):=by
 refine tI' k98 fun N hn hlt hlA hbd=>?_
 simp only [tA',AV.bdL,AV.bd,and_true,true_and] at hbd ⊢
 refine wr'<|mv' lki pt4<|sn'<|w_seq<|wr'<|mv' lk1 pt5<|sn'<|w_block<|w_seq<|w_seq<|?_
 refine w_reg<|V' (v_eql lk5 lki) pt7<|mv' lk7 pt6<|sn'<|?_
 refine cd' lk6 (fun hc1=>?_) (fun hc1=>?_)
 ·refine w_skip<|n_seq<|?_
  refine cd' lk6 (fun hc4=>?_) (fun hc4=>?_)
  ·refine wr'<|mv' lki pt4<|sn'<|w_rets<|r_blk<|r_thn<|w_ret (rs1 (rr_t gt4))<|rT'<|?_
   refine ivx ?_;unfold mlen lp;simp_all
  refine wr'<|V' (v_eql lk5 lki) pt12<|mv' lk12 pt11<|sn'<|?_
  refine cd' lk11 (fun hc5=>?_) (fun hc5=>?_)
  ·refine w_seq<|wr'<|mv' lk0 pt13<|s_callp (mp1 lk13 mp0) (risLeap_a h0) pt14<|sn'<|?_
   refine w_condB lk14 (fun hc6=>?_) (fun hc6=>?_)
   ·refine wr'<|mv' lki pt4<|sn'<|w_rets<|r_thn<|r_blk<|r_thn<|w_ret (rs1 (rr_t gt4))<|rT'<|?_
    refine ivx ?_;unfold mlen lp;simp_all
   refine w_skip<|n_seq<|wr'<|mv' lki pt4<|sn'<|w_rets<|r_blk<|r_thn<|w_ret (rs1 (rr_t gt4))<|rT'<|?_
   refine ivx ?_;unfold mlen lp;simp_all
  refine w_skip<|n_blk<|n_seq<|wr'<|mv' lki pt4<|sn'<|w_rets<|w_ret (rs1 (rr_t gt4))<|rT'<|?_
  refine ivx ?_;unfold mlen lp;simp_all
 refine wr'<|V' (v_eql lk5 lki) pt8<|mv' lk8 pt6<|sn'<|?_
 refine cd' lk6 (fun hc2=>?_) (fun hc2=>?_)
 ·refine w_skip<|n_seq<|?_
  refine cd' lk6 (fun hc4=>?_) (fun hc4=>?_)
  ·refine wr'<|mv' lki pt4<|sn'<|w_rets<|r_blk<|r_thn<|w_ret (rs1 (rr_t gt4))<|rT'<|?_
   refine ivx ?_;unfold mlen lp;simp_all
  refine wr'<|V' (v_eql lk5 lki) pt12<|mv' lk12 pt11<|sn'<|?_
  refine cd' lk11 (fun hc5=>?_) (fun hc5=>?_)
  ·refine w_seq<|wr'<|mv' lk0 pt13<|s_callp (mp1 lk13 mp0) (risLeap_a h0) pt14<|sn'<|?_
   refine w_condB lk14 (fun hc6=>?_) (fun hc6=>?_)
   ·refine wr'<|mv' lki pt4<|sn'<|w_rets<|r_thn<|r_blk<|r_thn<|w_ret (rs1 (rr_t gt4))<|rT'<|?_
    refine ivx ?_;unfold mlen lp;simp_all
   refine w_skip<|n_seq<|wr'<|mv' lki pt4<|sn'<|w_rets<|r_blk<|r_thn<|w_ret (rs1 (rr_t gt4))<|rT'<|?_
   refine ivx ?_;unfold mlen lp;simp_all
  refine w_skip<|n_blk<|n_seq<|wr'<|mv' lki pt4<|sn'<|w_rets<|w_ret (rs1 (rr_t gt4))<|rT'<|?_
  refine ivx ?_;unfold mlen lp;simp_all
 refine wr'<|V' (v_eql lk5 lki) pt9<|mv' lk9 pt6<|sn'<|?_
 refine cd' lk6 (fun hc3=>?_) (fun hc3=>?_)
 ·refine w_skip<|n_seq<|?_
  refine cd' lk6 (fun hc4=>?_) (fun hc4=>?_)
  ·refine wr'<|mv' lki pt4<|sn'<|w_rets<|r_blk<|r_thn<|w_ret (rs1 (rr_t gt4))<|rT'<|?_
   refine ivx ?_;unfold mlen lp;simp_all
  refine wr'<|V' (v_eql lk5 lki) pt12<|mv' lk12 pt11<|sn'<|?_
  refine cd' lk11 (fun hc5=>?_) (fun hc5=>?_)
  ·refine w_seq<|wr'<|mv' lk0 pt13<|s_callp (mp1 lk13 mp0) (risLeap_a h0) pt14<|sn'<|?_
   refine w_condB lk14 (fun hc6=>?_) (fun hc6=>?_)
   ·refine wr'<|mv' lki pt4<|sn'<|w_rets<|r_thn<|r_blk<|r_thn<|w_ret (rs1 (rr_t gt4))<|rT'<|?_
    refine ivx ?_;unfold mlen lp;simp_all
   refine w_skip<|n_seq<|wr'<|mv' lki pt4<|sn'<|w_rets<|r_blk<|r_thn<|w_ret (rs1 (rr_t gt4))<|rT'<|?_
   refine ivx ?_;unfold mlen lp;simp_all
  refine w_skip<|n_blk<|n_seq<|wr'<|mv' lki pt4<|sn'<|w_rets<|w_ret (rs1 (rr_t gt4))<|rT'<|?_
  refine ivx ?_;unfold mlen lp;simp_all
 refine w_reg<|V' (v_eql lk5 lki) pt10<|mv' lk10 pt6<|sn'<|?_
 refine cd' lk6 (fun hc4=>?_) (fun hc4=>?_)
 ·refine wr'<|mv' lki pt4<|sn'<|w_rets<|r_blk<|r_thn<|w_ret (rs1 (rr_t gt4))<|rT'<|?_
  refine ivx ?_;unfold mlen lp;simp_all
 refine wr'<|V' (v_eql lk5 lki) pt12<|mv' lk12 pt11<|sn'<|?_
 refine cd' lk11 (fun hc5=>?_) (fun hc5=>?_)
 ·refine w_seq<|wr'<|mv' lk0 pt13<|s_callp (mp1 lk13 mp0) (risLeap_a h0) pt14<|sn'<|?_
  refine w_condB lk14 (fun hc6=>?_) (fun hc6=>?_)
  ·refine wr'<|mv' lki pt4<|sn'<|w_rets<|r_thn<|r_blk<|r_thn<|w_ret (rs1 (rr_t gt4))<|rT'<|?_
   refine ivx ?_;unfold mlen lp;simp_all
  refine w_skip<|n_seq<|wr'<|mv' lki pt4<|sn'<|w_rets<|r_blk<|r_thn<|w_ret (rs1 (rr_t gt4))<|rT'<|?_
  refine ivx ?_;unfold mlen lp;simp_all
 refine w_skip<|n_blk<|n_seq<|wr'<|mv' lki pt4<|sn'<|w_rets<|w_ret (rs1 (rr_t gt4))<|rT'<|?_
 refine ivx ?_;unfold mlen lp;simp_all
theorem rsIsDate_a {y m d:Int}{h:AH}:ACalls Tryz.prog 74 [.agg [iv y,iv m,iv d]] h fun x h'=>h'=h∧x = .ret (bv (isDate y m d)):=by
 refine tI' k74 fun N hn hlt hlA hbd=>?_
 simp only [tA',AV.bdL,AV.bd,and_true,true_and] at hbd ⊢
 refine wr'<|E' (e_box (cvl lk0 rfl) rfl (hl0 hn) ha0) pt1<|mv' lkb pt2<|sn'<|w_seq<|w_drwE<|D' (v_fap0 lk1) pt3<|D' (v_loadp lk3 (hga hn rfl) gt0) pt4<|?_
 refine d_callp (mp1 lk4 (mp1 lki (mp1 lki mp0))) (fun hE hX=>rbetween_a) pt5 ?_
 refine D' (v_mv lk5) pt6 ?_
 refine d_splitB gt6 pt6 pt6 (fun hg6=>?_) (fun hg6=>?_)
 ·refine d_do gt6<|D' (v_fap0 lk1) pt7<|d_do gt6<|D' (v_loadp lk7 (hga hn rfl) gt1) pt8<|d_do gt6<|?_
  refine d_callp (mp1 lk8 (mp1 lki (mp1 lki mp0))) (fun hE hX=>rbetween_a) pt9 ?_
  refine D' (v_pickT lk6 lk9) pt10<|D' (v_mv lk10) pt11<|?_
  refine d_splitB gt11 pt11 pt11 (fun hg11=>?_) (fun hg11=>?_)
  ·refine d_do gt11<|D' (v_fap0 lk1) pt12<|d_do gt11<|D' (v_loadp lk12 (hga hn rfl) gt2) pt13<|d_do gt11<|D' (v_fap0 lk1) pt14<|d_do gt11<|D' (v_loadp lk14 (hga hn rfl) gt0) pt15<|d_do gt11<|D' (v_fap0 lk1) pt16<|d_do gt11<|D' (v_loadp lk16 (hga hn rfl) gt1) pt17<|d_do gt11<|?_
   have hy:1≤y∧y≤9999:=by simp only [wi_iff] at *;omega
   refine d_callp (mp1 lk15 (mp1 lk17 mp0)) (fun hE hX=>rmonthLen_a (by omega)) pt18 ?_
   refine d_do gt11 ?_
   refine d_callp (mp1 lk13 (mp1 lki (mp1 lk18 mp0))) (fun hE hX=>rbetween_a) pt19 ?_
   refine D' (v_pickT lk11 lk19) pt20<|D' (v_mv lk20) pt2<|d_nil<|?_
   refine e_nil ?_
   refine sn'<|w_rets<|w_ret (rs1 (rr_t gt2))<|rT'<|?_
   refine bvx ?_;rw [show isDate y m d=(wi y 1 9999&&(wi m 1 12&&wi d 1 (mlen y m))) from by unfold isDate wi;simp [Bool.and_assoc]];simp_all
  refine d_no gt11 pt12<|d_no gt11 pt13<|d_no gt11 pt14<|d_no gt11 pt15<|d_no gt11 pt16<|d_no gt11 pt17<|d_no gt11 pt18<|d_no gt11 pt19<|D' (v_pickF lk11 lkb) pt20<|D' (v_mv lk20) pt2<|d_nil<|?_
  refine e_nil ?_
  refine sn'<|w_rets<|w_ret (rs1 (rr_t gt2))<|rT'<|?_
  refine bvx ?_;rw [show isDate y m d=(wi y 1 9999&&(wi m 1 12&&wi d 1 (mlen y m))) from by unfold isDate wi;simp [Bool.and_assoc]];simp_all
 refine d_no gt6 pt7<|d_no gt6 pt8<|d_no gt6 pt9<|D' (v_pickF lk6 lkb) pt10<|D' (v_mv lk10) pt11<|d_no gt11 pt12<|d_no gt11 pt13<|d_no gt11 pt14<|d_no gt11 pt15<|d_no gt11 pt16<|d_no gt11 pt17<|d_no gt11 pt18<|d_no gt11 pt19<|D' (v_pickF lk11 lkb) pt20<|?_
 refine D' (v_mv lk20) pt2<|d_nil<|?_
 refine e_nil ?_
 refine sn'<|w_rets<|w_ret (rs1 (rr_t gt2))<|rT'<|?_
 refine bvx ?_;rw [show isDate y m d=(wi y 1 9999&&(wi m 1 12&&wi d 1 (mlen y m))) from by unfold isDate wi;simp [Bool.and_assoc]];simp_all
theorem rdaysOf_a {y m d:Int}{h:AH}(y0:1≤y) (y1:y≤20000) (m0:1≤m) (m1:m≤12) (d0 : -1000≤d) (d1:d≤1000):ACalls Tryz.prog 99 [.agg [iv y,iv m,iv d]] h fun x h'=>h'=h∧x = .ret (iv (num y m d)):=by
 refine tI' k99 fun N hn hlt hlA hbd=>?_
 simp only [tA',AV.bdL,AV.bd,and_true,true_and] at hbd ⊢
 refine wr'<|E' (e_box (cvl lk0 rfl) rfl (hl0 hn) ha0) pt1<|mv' lki pt2<|sn'<|w_seq<|w_drwE<|D' (v_fap0 lk1) pt6<|D' (v_loadp lk6 (hga hn rfl) gt0) pt7<|D' (v_fap0 lk1) pt8<|D' (v_loadp lk8 (hga hn rfl) gt1) pt9<|?_
 refine D' (v_sub lk9 lki (by omega) (by omega)) pt10 ?_
 refine D' (v_mv lk7) pt3<|D' (v_mv lk10) pt4<|d_nil<|?_
 refine e_nil ?_
 refine sn'<|w_seq<|wr'<|mv' lk4 pt11<|V' (v_lss lk11 lki) pt12<|sn'<|?_
 refine cd' lk12 (fun hc1=>?_) (fun hc1=>?_)
 ·refine wr'<|mv' lk3 pt13<|?_
  refine V' (v_sub lk13 lki (by omega) (by omega)) pt14 ?_
  refine mv' lk14 pt3<|sn'<|w_reg<|mv' lk4 pt15<|?_
  refine V' (v_add lk15 lki (by omega) (by omega)) pt16 ?_
  refine mv' lk16 pt4<|sn'<|wr'<|mv' lk3 pt17<|?_
  refine V' (v_quo lk17 lki (by omega) (by omega) (by omega)) pt18 ?_
  refine V' (v_mul lk18 lki (by omega) (by omega)) pt19 ?_
  refine mv' lk3 pt20 ?_
  refine V' (v_rem lk20 lki (by omega) (by omega)) pt21 ?_
  refine V' (v_mul lk21 lki (by omega) (by omega)) pt22 ?_
  refine V' (v_add lk19 lk22 (by omega) (by omega)) pt23 ?_
  refine mv' lk3 pt24 ?_
  refine V' (v_rem lk24 lki (by omega) (by omega)) pt25 ?_
  refine V' (v_quo lk25 lki (by omega) (by omega) (by omega)) pt26 ?_
  refine V' (v_add lk23 lk26 (by omega) (by omega)) pt27 ?_
  refine mv' lk3 pt28 ?_
  refine V' (v_rem lk28 lki (by omega) (by omega)) pt29 ?_
  refine V' (v_quo lk29 lki (by omega) (by omega) (by omega)) pt30 ?_
  refine V' (v_sub lk27 lk30 (by omega) (by omega)) pt31 ?_
  refine mv' lk31 pt5<|sn'<|wr'<|mv' lk5 pt32<|mv' lk4 pt33<|?_
  refine V' (v_mul lki lk33 (by omega) (by omega)) pt34 ?_
  refine V' (v_add lk34 lki (by omega) (by omega)) pt35 ?_
  refine V' (v_quo lk35 lki (by omega) (by omega) (by omega)) pt36 ?_
  refine V' (v_add lk32 lk36 (by omega) (by omega)) pt37 ?_
  refine V' (v_fap0 lk1) pt38<|V' (v_loadp lk38 (hga hn rfl) gt2) pt39<|?_
  refine V' (v_add lk37 lk39 (by omega) (by omega)) pt40 ?_
  refine V' (v_sub lk40 lki (by omega) (by omega)) pt41 ?_
  refine V' (v_sub lk41 lki (by omega) (by omega)) pt42 ?_
  refine mv' lk42 pt2<|sn'<|w_rets<|w_ret (rs1 (rr_t gt2))<|rT'<|?_
  refine ivx ?_;rw [←num_ref2 m0 (by omega)]
 refine w_skip<|n_seq<|wr'<|mv' lk3 pt17<|?_
 refine V' (v_quo lk17 lki (by omega) (by omega) (by omega)) pt18 ?_
 refine V' (v_mul lk18 lki (by omega) (by omega)) pt19 ?_
 refine mv' lk3 pt20 ?_
 refine V' (v_rem lk20 lki (by omega) (by omega)) pt21 ?_
 refine V' (v_mul lk21 lki (by omega) (by omega)) pt22 ?_
 refine V' (v_add lk19 lk22 (by omega) (by omega)) pt23 ?_
 refine mv' lk3 pt24 ?_
 refine V' (v_rem lk24 lki (by omega) (by omega)) pt25 ?_
 refine V' (v_quo lk25 lki (by omega) (by omega) (by omega)) pt26 ?_
 refine V' (v_add lk23 lk26 (by omega) (by omega)) pt27 ?_
 refine mv' lk3 pt28 ?_
 refine V' (v_rem lk28 lki (by omega) (by omega)) pt29 ?_
 refine V' (v_quo lk29 lki (by omega) (by omega) (by omega)) pt30 ?_
 refine V' (v_sub lk27 lk30 (by omega) (by omega)) pt31 ?_
 refine mv' lk31 pt5<|sn'<|wr'<|mv' lk5 pt32<|mv' lk4 pt33<|?_
 refine V' (v_mul lki lk33 (by omega) (by omega)) pt34 ?_
 refine V' (v_add lk34 lki (by omega) (by omega)) pt35 ?_
 refine V' (v_quo lk35 lki (by omega) (by omega) (by omega)) pt36 ?_
 refine V' (v_add lk32 lk36 (by omega) (by omega)) pt37 ?_
 refine V' (v_fap0 lk1) pt38<|V' (v_loadp lk38 (hga hn rfl) gt2) pt39<|?_
 refine V' (v_add lk37 lk39 (by omega) (by omega)) pt40 ?_
 refine V' (v_sub lk40 lki (by omega) (by omega)) pt41 ?_
 refine V' (v_sub lk41 lki (by omega) (by omega)) pt42 ?_
 refine mv' lk42 pt2<|sn'<|w_rets<|w_ret (rs1 (rr_t gt2))<|rT'<|?_
 refine ivx ?_;rw [←num_ref1 (by omega) m1]
theorem rfirst_a {h:AH}:ACalls Tryz.prog 101 [] h fun x h'=>h'=h∧x = .ret (iv (-719162)):=by
 refine tI' k101 fun N hn hlt hlA hbd=>?_
 simp only [tA',AV.bdL,AV.bd,and_true,true_and] at hbd ⊢
 refine wr'<|mv' lki pt0<|sn'<|wr'<|V' (v_build (CivM_FirstDay_2 (cvl lki rfl) rfl (cvl lki rfl) rfl (cvl lki rfl) rfl)) pt1<|?_
 refine s_callp (mp1 lk1 mp0) (rdaysOf_a (by omega) (by omega) (by omega) (by omega) (by omega) (by omega)) pt2 ?_
 refine mv' lk2 pt0<|sn'<|w_rets<|w_ret (rs1 (rr_t gt0))<|rT'<|?_
 exact ivx (by decide)
theorem rlast_a {h:AH}:ACalls Tryz.prog 102 [] h fun x h'=>h'=h∧x = .ret (iv 2932896):=by
 refine tI' k102 fun N hn hlt hlA hbd=>?_
 simp only [tA',AV.bdL,AV.bd,and_true,true_and] at hbd ⊢
 refine wr'<|mv' lki pt0<|sn'<|wr'<|V' (v_build (CivM_LastDay_2 (cvl lki rfl) rfl (cvl lki rfl) rfl (cvl lki rfl) rfl)) pt1<|?_
 refine s_callp (mp1 lk1 mp0) (rdaysOf_a (by omega) (by omega) (by omega) (by omega) (by omega) (by omega)) pt2 ?_
 refine mv' lk2 pt0<|sn'<|w_rets<|w_ret (rs1 (rr_t gt0))<|rT'<|?_
 exact ivx (by decide)
theorem rweekday_a {n:Int}{h:AH}:ACalls Tryz.prog 100 [iv n] h fun x h'=>h'=h∧x = .ret (iv (wd n)):=by
 have hb1 : -6≤n.tmod 7∧n.tmod 7≤6:=by rw [tmod7];split <;> omega
 refine tI' k100 fun N hn hlt hlA hbd=>?_
 simp only [tA',AV.bdL,AV.bd,and_true,true_and] at hbd ⊢
 refine wr'<|mv' lki pt2<|sn'<|wr'<|mv' lk0 pt4<|?_
 refine V' (v_remw lk4 lki (by omega)) pt5 ?_
 refine mv' lk5 pt3<|sn'<|w_seq<|wr'<|mv' lk3 pt6<|V' (v_lss lk6 lki) pt7<|sn'<|?_
 refine cd' lk7 (fun hc1=>?_) (fun hc1=>?_)
 ·refine w_reg<|mv' lk3 pt8<|?_
  refine V' (v_add lk8 lki (by omega) (by omega)) pt9 ?_
  refine mv' lk9 pt3<|sn'<|wr'<|mv' lk3 pt10<|?_
  refine V' (v_add lk10 lki (by omega) (by omega)) pt11 ?_
  refine V' (v_rem lk11 lki (by omega) (by omega)) pt12 ?_
  refine mv' lk12 pt2<|sn'<|w_rets<|w_ret (rs1 (rr_t gt2))<|rT'<|?_
  refine ivx ?_;unfold wd;rw [tmod7] at *;split at * <;> omega
 refine w_skip<|n_seq<|wr'<|mv' lk3 pt10<|?_
 refine V' (v_add lk10 lki (by omega) (by omega)) pt11 ?_
 refine V' (v_rem lk11 lki (by omega) (by omega)) pt12 ?_
 refine mv' lk12 pt2<|sn'<|w_rets<|w_ret (rs1 (rr_t gt2))<|rT'<|?_
 refine ivx ?_;unfold wd;rw [tmod7] at *;split at * <;> omega
theorem rdateOf_a {n:Int}{h:AH}(h0 : -719162≤n) (h1:n≤2932896):ACalls Tryz.prog 103 [iv n] h fun x h'=>h'=h∧x = .ret (dateA (dateOf n)):=by
 refine tI' k103 fun N hn hlt hlA hbd=>?_
 simp only [tA',AV.bdL,AV.bd,and_true,true_and] at hbd ⊢
 refine wr'<|E' (e_new (hl0 hn) ha0) pt2<|sn'<|wr'<|mv' lki pt3<|mv' lki pt4<|sn'<|w_seq<|w_block<|?_
 refine w_lp (ι:=Int×Int) (fun (x_:Int×Int)=>match x_ with | ⟨y,z⟩=>[(3,iv y),(4,iv z),(5,.any)]++rn' 7 15) (fun (x_:Int×Int)=>match x_ with | ⟨y,z⟩=>[]) (fun (x_:Int×Int)=>match x_ with | ⟨y,z⟩=>1≤y∧y<z∧z≤10000∧num y 1 1≤n∧n<num z 1 1) (fun (x_:Int×Int)=>match x_ with | ⟨y,z⟩=>(z-y).toNat) (⟨1,10000⟩) (by exact ⟨by omega,by omega,by omega,by rw [num_11,bef_1];omega,by rw [num_11,bef_10000];omega⟩) ?_
 rintro ⟨y,z⟩ hi1
 try simp only [setsT,setsE,z',s',rn',la',ln',Nat.reduceAdd]
 obtain ⟨hy,hyz,hz,hn1,hn2⟩:=hi1
 refine w_seq<|wr'<|mv' lk4 pt7<|mv' lk3 pt8<|?_
 refine V' (v_sub lk7 lk8 (by omega) (by omega)) pt9 ?_
 refine V' (v_gtr lk9 lki) pt10<|sn'<|?_
 refine cd' lk10 (fun hc1=>?_) (fun hc1=>?_)
 ·refine w_skip<|n_seq<|w_block<|wr'<|mv' lk3 pt11<|mv' lk4 pt12<|?_
  refine V' (v_add lk11 lk12 (by omega) (by omega)) pt13 ?_
  refine V' (v_quo lk13 lki (by omega) (by omega) (by omega)) pt14 ?_
  refine mv' lk14 pt5<|sn'<|wr'<|mv' lk5 pt15<|V' (v_build (CivM_DateOf_14 (cvl lk15 rfl) rfl (cvl lki rfl) rfl (cvl lki rfl) rfl)) pt16<|?_
  refine s_callp (mp1 lk16 mp0) (rdaysOf_a (by omega) (by omega) (by omega) (by omega) (by omega) (by omega)) pt17 ?_
  refine mv' lk0 pt18<|V' (v_leq lk17 lk18) pt19<|sn'<|?_
  refine cd' lk19 (fun hc2=>?_) (fun hc2=>?_)
  ·refine w_reg<|mv' lk5 pt20<|mv' lk20 pt3<|s_nil<|n_blk<|n_thn<|?_
   refine lU' (⟨(y+z)/2,z⟩) (by (try dsimp only);exact ⟨by omega,by omega,by omega,by omega,by omega⟩) (by (try dsimp only);(try simp only [setsT,setsE,z',s',rn',la',ln',Nat.reduceAdd]);exact ALe.same (by repeat (first | exact wk0 | refine wka ?_ | refine wk1 rfl ?_ | refine wk1 (by first | rfl | exact ivx (by omega) | (simp;done)) ?_)) rfl)
  refine w_reg<|mv' lk5 pt21<|mv' lk21 pt4<|s_nil<|n_blk<|n_thn<|?_
  refine lU' (⟨y,(y+z)/2⟩) (by (try dsimp only);exact ⟨by omega,by omega,by omega,by omega,by omega⟩) (by (try dsimp only);(try simp only [setsT,setsE,z',s',rn',la',ln',Nat.reduceAdd]);exact ALe.same (by repeat (first | exact wk0 | refine wka ?_ | refine wk1 rfl ?_ | refine wk1 (by first | rfl | exact ivx (by omega) | (simp;done)) ?_)) rfl)
 obtain rfl:z=y+1:=by omega
 have hup:num y 12 1+mlen y 12=num (y+1) 1 1:=by rw [num_11,bef_succ];unfold num cum mlen;simp;omega
 refine w_exit<|x_thn<|x_thn<|x_blk<|n_seq<|wr'<|mv' lk3 pt22<|V' (v_build (CivM_DateOf_23 (cvl lk22 rfl) rfl (cvl lki rfl) rfl (cvl lki rfl) rfl)) pt23<|E' (e_new (hl1 hn) ha1) pt6<|E' (e_store lk6 (cvl lk23 rfl) (hga hn rfl) rfl (nb' rfl) rfl CivM_sc0_3 (hs1 hn)) ptn<|sn'<|w_seq<|?_
 refine w_block ?_
 refine w_lp (ι:=Int) (fun (m:Int)=>[]++rn' 24 8) (fun (m:Int)=>[(1,.mk 0 60 3 [iv y,iv m,iv 1])]) (fun (m:Int)=>1≤m∧m≤12∧n<num y m 1+mlen y m) (fun (m:Int)=>m.toNat) (12) (by exact ⟨by omega,by omega,by rw [hup];exact hn2⟩) ?_
 rintro m hi2
 try simp only [setsT,setsE,z',s',rn',la',ln',Nat.reduceAdd]
 obtain ⟨hm0,hm1,hn3⟩:=hi2
 refine w_seq<|wr'<|V' (v_loadpA lk6 (hga hn rfl) CivM_tk0_3 rfl) pt24<|?_
 refine s_callp (mp1 lk24 mp0) (rdaysOf_a (by omega) (by omega) (by omega) (by omega) (by omega) (by omega)) pt25 ?_
 refine mv' lk0 pt26<|V' (v_gtr lk25 lk26) pt27<|sn'<|?_
 refine cd' lk27 (fun hc3=>?_) (fun hc3=>?_)
 ·have hm2:2≤m:=by
   rcases Int.lt_or_le m 2 with c | c
   ·obtain rfl:m=1:=by omega
    omega
   exact c
  have hst:num y (m-1) 1+mlen y (m-1)=num y m 1:=by have:=cum_succ (y:=y) (m:=m-1) (by omega) (by omega);rw [show m-1+1=m by omega] at this;unfold num;omega
  refine w_skip<|n_seq<|w_block<|w_reg<|V' (v_fap0 lk6) pt28<|V' (v_loadp lk28 (hga hn rfl) gt1) pt29<|?_
  refine V' (v_sub lk29 lki (by omega) (by omega)) pt30 ?_
  refine V' (v_fap0 lk6) pt31<|E' (e_store lk31 (cvl lk30 rfl) (hga hn rfl) rfl (nb' rfl) rfl CivM_sc1_1 (hs1 hn)) ptn<|s_nil<|n_blk<|n_thn<|?_
  refine lT' (m-1) (by (try dsimp only);exact ⟨by omega,by omega,by rw [hst];exact hc3⟩)
 have hd:isDate y m (n-num y m 1+1)=true:=by
  have h1:=num_bd (isDate_iff.2 ⟨hy,by omega,hm0,hm1,by omega,by have:=mlen_bd y m;omega⟩:isDate y m 1=true)
  rw [isDate_iff];omega
 have hdn:num y m (n-num y m 1+1)=n:=by unfold num;omega
 have hde:=dateOf_eq hd hdn
 have hnb:=num_bd1 (y:=y) (m:=m) ⟨hy,by omega⟩ ⟨hm0,hm1⟩
 refine w_exit<|x_thn<|x_thn<|x_blk<|n_seq<|wr'<|mv' lk0 pt32<|V' (v_loadpA lk6 (hga hn rfl) CivM_tk0_3 rfl) pt33<|?_
 refine s_callp (mp1 lk33 mp0) (rdaysOf_a (by omega) (by omega) (by omega) (by omega) (by omega) (by omega)) pt34 ?_
 refine V' (v_sub lk32 lk34 (by omega) (by omega)) pt35 ?_
 refine V' (v_add lk35 lki (by omega) (by omega)) pt36 ?_
 refine V' (v_fap0 lk6) pt37<|E' (e_store lk37 (cvl lk36 rfl) (hga hn rfl) rfl (nb' rfl) rfl CivM_sc2_1 (hs1 hn)) ptn<|sn'<|wr'<|V' (v_loadpA lk6 (hga hn rfl) CivM_tk0_3 rfl) pt38<|E' (e_store lk2 (cvl lk38 rfl) (hga hn rfl) rfl (nb' rfl) rfl CivM_sc0_3 (hs0 hn)) ptn<|sn'<|w_rets<|w_ret (rs1 (rr_c gt2 (hga hn rfl) (ld1 CivM_tk0_3 rfl)))<|rT'<|?_
 rw [hde]
def onSt (y m k n:Int):Int:=num y m 1-1+if k=2 then mlen y m else n
def onGo (k wk s:Int) (j:Nat):Int:=if k=3 then s+j else s-j
def onFar (k wk s:Int):Int:=if k≤1 then 0 else if k=3 then (wk-wd s)%7 else (wd s-wk)%7
theorem onFar_bd (k wk s:Int):0≤onFar k wk s∧onFar k wk s≤6:=by
 unfold onFar
 repeat' split
 all_goals omega
theorem onGo_go {k wk s:Int}{j:Nat}(hw:0≤wk∧wk≤6) (hj:(j:Int)≤onFar k wk s) (h:j<7∧1<k∧wd (onGo k wk s j)≠wk):(j:Int)+1≤onFar k wk s:=by
 have h1:=wd_fwd (n:=s) (k:=wk) (j:=j) (by omega)
 have h2:=wd_bwd (n:=s) (k:=wk) (j:=j) (by omega)
 unfold onFar onGo at *
 rw [if_neg (by omega)] at hj ⊢
 split at hj <;> rename_i h3
 ·simp only [h3,if_true] at h ⊢
  have:=h1 hj hw
  omega
 simp only [h3,if_false] at h ⊢
 have:=h2 hj hw
 omega
theorem onGo_end {y m k wk n:Int}{j:Nat}(hk:1≤k∧k≤4) (hw:0≤wk∧wk≤6) (hj:(j:Int)≤onFar k wk (onSt y m k n)) (h:¬(j<7∧1<k∧wd (onGo k wk (onSt y m k n) j)≠wk)):onDay y m k wk n=onGo k wk (onSt y m k n) j:=by
 have hb:=onFar_bd k wk (onSt y m k n)
 have h1:=wd_fwd (n:=onSt y m k n) (k:=wk) (j:=j) (by omega)
 have h2:=wd_bwd (n:=onSt y m k n) (k:=wk) (j:=j) (by omega)
 have e1:=num_1 y m n
 have e2:=num_1 y m (mlen y m)
 have h5:k=1∨k=2∨k=3∨k=4:=by omega
 rcases h5 with rfl | rfl | rfl | rfl
 ·simp only [onFar,onGo,onSt,onDay,fwd,bwd] at *
  simp at hj ⊢
  omega
 ·simp only [onFar,onGo,onSt,onDay,fwd,bwd] at *
  simp at hj h h1 h2 ⊢
  rw [show num y m (mlen y m)=num y m 1-1+mlen y m by omega]
  omega
 ·simp only [onFar,onGo,onSt,onDay,fwd,bwd] at *
  simp at hj h h1 h2 ⊢
  rw [show num y m n=num y m 1-1+n by omega]
  omega
 simp only [onFar,onGo,onSt,onDay,fwd,bwd] at *
 simp at hj h h1 h2 ⊢
 rw [show num y m n=num y m 1-1+n by omega]
 omega
theorem onSt_bd {y m k n:Int}(hy:1≤y∧y≤20000) (hm:1≤m∧m≤12) (hn:k≠2→1≤n∧n≤mlen y m) : -8000010≤onSt y m k n∧onSt y m k n≤8000040:=by
 have h1:=num_bd1 hy hm
 have h2:=mlen_bd y m
 unfold onSt;split
 ·omega
 have:=hn (by assumption);omega
theorem onGo_bd {k wk s:Int}{j:Nat}(h:(j:Int)≤onFar k wk s):s-6≤onGo k wk s j∧onGo k wk s j≤s+6:=by
 have:=onFar_bd k wk s
 unfold onGo;split <;> omega
theorem wiB {n a b:Int}:wi n a b=decide (a≤n∧n≤b):=by unfold wi;rw [Bool.decide_and]
set_option maxHeartbeats 2000000 in
theorem ron_a {y m k wk n:Int}{h:AH}:ACalls Tryz.prog 69 [iv y,iv m,.agg [iv k,iv wk,iv n]] h fun x h'=>h'=h∧x = .ret (.tup [.agg [iv (onV y m k wk n).1.1,iv (onV y m k wk n).1.2.1,iv (onV y m k wk n).1.2.2],iv (onV y m k wk n).2]):=by
 refine tI' k69 fun N hn hlt hlA hbd=>?_
 simp only [tA',AV.bdL,AV.bd,and_true,true_and] at hbd ⊢
 refine wr'<|E' (e_box (cvl lk2 rfl) rfl (hl0 hn) ha0) pt5<|E' (e_new (hl1 hn) ha1) pt6<|mv' lki pt7<|sn'<|w_seq<|?_
 refine w_seqC (ι:=Unit) (fun (u_:Unit)=>[(18,bv (decide (¬(1≤y∧y≤9999)∨¬(1≤m∧m≤12))))]++rn' 11 7) (fun (u_:Unit)=>[]) (fun (u_:Unit)=>True) ?_ ?_
 ·try simp only [setsT,setsE,z',s',rn',la',ln',Nat.reduceAdd]
  refine w_reg<|mv' lk0 pt11<|s_callp (mp1 lk11 (mp1 lki (mp1 lki mp0))) (rbetween_a) pt12<|V' (v_notB lk12) pt13<|mv' lk13 pt14<|?_
  refine s_splitB gt14 pt14 pt14 (fun hg14=>?_) (fun hg14=>?_)
  ·refine s_no gt14 pt15<|s_no gt14 pt16<|s_no gt14 pt17<|V' (v_pickT lk14 lkb) pt18<|s_nil<|n_thn<|?_
   exact cT' (()) (by trivial) (by (try dsimp only);(try simp only [setsT,setsE,z',s',rn',la',ln',Nat.reduceAdd]);exact ALe.same (by repeat (first | exact wk0 | refine wka ?_ | refine wk1 rfl ?_ | refine wk1 (by first | rfl | exact bvx (by first | (simp_all [wiB];done) | (rw [Bool.eq_iff_iff];simp_all [wiB];omega) | (rw [Bool.eq_iff_iff];simp_all [wiB];done))) ?_)) rfl)
  refine s_do gt14<|mv' lk1 pt15<|s_do gt14<|s_callp (mp1 lk15 (mp1 lki (mp1 lki mp0))) (rbetween_a) pt16<|s_do gt14<|V' (v_notB lk16) pt17<|V' (v_pickF lk14 lk17) pt18<|s_nil<|n_thn<|?_
  exact cT' (()) (by trivial) (by (try dsimp only);(try simp only [setsT,setsE,z',s',rn',la',ln',Nat.reduceAdd]);exact ALe.same (by repeat (first | exact wk0 | refine wka ?_ | refine wk1 rfl ?_ | refine wk1 (by first | rfl | exact bvx (by first | (simp_all [wiB];done) | (rw [Bool.eq_iff_iff];simp_all [wiB];omega) | (rw [Bool.eq_iff_iff];simp_all [wiB];done))) ?_)) rfl)
 rintro u_ hq2
 try simp only [setsT,setsE,z',s',rn',la',ln',Nat.reduceAdd]
 refine cd' lk18 (fun hc1=>?_) (fun hc1=>?_)
 ·have hv:=onV_no (y:=y) (m:=m) (kind:=k) (wk:=wk) (n:=n) (k:=3) (by unfold formE;rw [if_pos hc1]) (by omega)
  refine wr'<|V' (v_build CivM_OnOf_12) pt19<|E' (e_store lk6 (cvl lk19 rfl) (hga hn rfl) rfl (nb' rfl) rfl CivM_sc0_3 (hs1 hn)) ptn<|mv' lki pt7<|sn'<|w_rets<|r_thn<|w_ret (rsn (rm1 (rr_c gt6 (hga hn rfl) (ld1 CivM_tk0_3 rfl)) (rm1 (rr_t gt7) rm0)))<|rT'<|?_
  rw [hv]
 have hym:(1≤y∧y≤9999)∧(1≤m∧m≤12):=by omega
 refine w_skip<|n_seq<|w_seq<|wr'<|V' (v_fap0 lk5) pt20<|V' (v_loadp lk20 (hga hn rfl) gt0) pt21<|s_callp (mp1 lk21 (mp1 lki (mp1 lki mp0))) (rbetween_a) pt22<|V' (v_notB lk22) pt23<|sn'<|?_
 refine w_condB lk23 (fun hc2=>?_) (fun hc2=>?_)
 ·have hk:¬(1≤k∧k≤4):=by have h9:=hc2;simp [wiB] at h9;omega
  have hv:=onV_no (y:=y) (m:=m) (kind:=k) (wk:=wk) (n:=n) (k:=7) (by unfold formE;rw [if_neg hc1,if_pos hk]) (by omega)
  refine wr'<|V' (v_build CivM_OnOf_19) pt24<|E' (e_store lk6 (cvl lk24 rfl) (hga hn rfl) rfl (nb' rfl) rfl CivM_sc0_3 (hs1 hn)) ptn<|mv' lki pt7<|sn'<|w_rets<|r_thn<|w_ret (rsn (rm1 (rr_c gt6 (hga hn rfl) (ld1 CivM_tk0_3 rfl)) (rm1 (rr_t gt7) rm0)))<|rT'<|?_
  rw [hv]
 have hk:1≤k∧k≤4:=by have h9:=hc2;simp [wiB] at h9;omega
 refine w_skip<|n_seq<|w_seq<|?_
 refine w_seqC (ι:=Unit) (fun (u_:Unit)=>[(38,bv (decide (¬(0≤wk∧wk≤6)∨k=1∧wk≠0)))]++rn' 25 13) (fun (u_:Unit)=>[]) (fun (u_:Unit)=>True) ?_ ?_
 ·try simp only [setsT,setsE,z',s',rn',la',ln',Nat.reduceAdd]
  refine w_reg<|V' (v_fap0 lk5) pt25<|V' (v_loadp lk25 (hga hn rfl) gt1) pt26<|s_callp (mp1 lk26 (mp1 lki (mp1 lki mp0))) (rbetween_a) pt27<|V' (v_notB lk27) pt28<|mv' lk28 pt29<|?_
  refine s_splitB gt29 pt29 pt29 (fun hg29=>?_) (fun hg29=>?_)
  ·refine s_no gt29 pt30<|s_no gt29 pt31<|s_no gt29 pt32<|s_no gt29 pt33<|s_nu gt33 pt34<|s_nu gt33 pt35<|s_nu gt33 pt36<|s_no gt29 pt37<|V' (v_pickT lk29 lkb) pt38<|s_nil<|n_thn<|?_
   exact cT' (()) (by trivial) (by (try dsimp only);(try simp only [setsT,setsE,z',s',rn',la',ln',Nat.reduceAdd]);exact ALe.same (by repeat (first | exact wk0 | refine wka ?_ | refine wk1 rfl ?_ | refine wk1 (by first | rfl | exact bvx (by first | (simp_all [wiB];done) | (rw [Bool.eq_iff_iff];simp_all [wiB];omega) | (rw [Bool.eq_iff_iff];simp_all [wiB];done))) ?_)) rfl)
  refine s_do gt29<|V' (v_fap0 lk5) pt30<|s_do gt29<|V' (v_loadp lk30 (hga hn rfl) gt0) pt31<|s_do gt29<|V' (v_eql lk31 lki) pt32<|s_do gt29<|mv' lk32 pt33<|?_
  refine sp' gt33 pt33 pt33 (fun hg33=>?_) (fun hg33=>?_)
  ·refine s_do gt33<|V' (v_fap0 lk5) pt34<|s_do gt33<|V' (v_loadp lk34 (hga hn rfl) gt1) pt35<|s_do gt33<|V' (v_neq lk35 lki) pt36<|s_do gt29<|V' (v_pickT lk33 lk36) pt37<|V' (v_pickF lk29 lk37) pt38<|s_nil<|n_thn<|?_
   exact cT' (()) (by trivial) (by (try dsimp only);(try simp only [setsT,setsE,z',s',rn',la',ln',Nat.reduceAdd]);exact ALe.same (by repeat (first | exact wk0 | refine wka ?_ | refine wk1 rfl ?_ | refine wk1 (by first | rfl | exact bvx (by first | (simp_all [wiB];done) | (rw [Bool.eq_iff_iff];simp_all [wiB];omega) | (rw [Bool.eq_iff_iff];simp_all [wiB];done))) ?_)) rfl)
  refine s_no gt33 pt34<|s_no gt33 pt35<|s_no gt33 pt36<|s_do gt29<|V' (v_pickF lk33 lkb) pt37<|V' (v_pickF lk29 lk37) pt38<|s_nil<|n_thn<|?_
  exact cT' (()) (by trivial) (by (try dsimp only);(try simp only [setsT,setsE,z',s',rn',la',ln',Nat.reduceAdd]);exact ALe.same (by repeat (first | exact wk0 | refine wka ?_ | refine wk1 rfl ?_ | refine wk1 (by first | rfl | exact bvx (by first | (simp_all [wiB];done) | (rw [Bool.eq_iff_iff];simp_all [wiB];omega) | (rw [Bool.eq_iff_iff];simp_all [wiB];done))) ?_)) rfl)
 rintro u_ hq8
 try simp only [setsT,setsE,z',s',rn',la',ln',Nat.reduceAdd]
 refine cd' lk38 (fun hc3=>?_) (fun hc3=>?_)
 ·have hv:=onV_no (y:=y) (m:=m) (kind:=k) (wk:=wk) (n:=n) (k:=3) (by unfold formE;rw [if_neg hc1,if_neg (by omega),if_pos hc3]) (by omega)
  refine wr'<|V' (v_build CivM_OnOf_36) pt39<|E' (e_store lk6 (cvl lk39 rfl) (hga hn rfl) rfl (nb' rfl) rfl CivM_sc0_3 (hs1 hn)) ptn<|mv' lki pt7<|sn'<|w_rets<|r_thn<|w_ret (rsn (rm1 (rr_c gt6 (hga hn rfl) (ld1 CivM_tk0_3 rfl)) (rm1 (rr_t gt7) rm0)))<|rT'<|?_
  rw [hv]
 refine w_skip<|n_seq<|wr'<|mv' lk0 pt40<|mv' lk1 pt41<|?_
 refine s_callp (mp1 lk40 (mp1 lk41 mp0)) (rmonthLen_a (by omega)) pt42 ?_
 refine mv' lk42 pt8<|sn'<|w_seq<|?_
 refine w_seqC (ι:=Unit) (fun (u_:Unit)=>[(62,bv (decide (k=2∧n≠0∨k≠2∧¬(1≤n∧n≤mlen y m))))]++rn' 43 19) (fun (u_:Unit)=>[]) (fun (u_:Unit)=>True) ?_ ?_
 ·try simp only [setsT,setsE,z',s',rn',la',ln',Nat.reduceAdd]
  refine w_reg<|V' (v_fap0 lk5) pt43<|V' (v_loadp lk43 (hga hn rfl) gt0) pt44<|V' (v_eql lk44 lki) pt45<|mv' lk45 pt46<|?_
  refine sp' gt46 pt46 pt46 (fun hg46=>?_) (fun hg46=>?_)
  ·refine s_do gt46<|V' (v_fap0 lk5) pt47<|s_do gt46<|V' (v_loadp lk47 (hga hn rfl) gt2) pt48<|s_do gt46<|V' (v_neq lk48 lki) pt49<|V' (v_pickT lk46 lk49) pt50<|mv' lk50 pt51<|?_
   refine sp' gt51 pt51 pt51 (fun hg51=>?_) (fun hg51=>?_)
   ·refine s_no gt51 pt52<|s_no gt51 pt53<|s_no gt51 pt54<|s_no gt51 pt55<|s_nu gt55 pt56<|s_nu gt55 pt57<|s_nu gt55 pt58<|s_nu gt55 pt59<|s_nu gt55 pt60<|s_no gt51 pt61<|V' (v_pickT lk51 lkb) pt62<|s_nil<|n_thn<|?_
    exact cT' (()) (by trivial) (by (try dsimp only);(try simp only [setsT,setsE,z',s',rn',la',ln',Nat.reduceAdd]);exact ALe.same (by repeat (first | exact wk0 | refine wka ?_ | refine wk1 rfl ?_ | refine wk1 (by first | rfl | exact bvx (by first | (simp_all [wiB];done) | (rw [Bool.eq_iff_iff];simp_all [wiB];omega) | (rw [Bool.eq_iff_iff];simp_all [wiB];done))) ?_)) rfl)
   refine s_do gt51<|V' (v_fap0 lk5) pt52<|s_do gt51<|V' (v_loadp lk52 (hga hn rfl) gt0) pt53<|s_do gt51<|V' (v_neq lk53 lki) pt54<|s_do gt51<|mv' lk54 pt55<|?_
   refine sp' gt55 pt55 pt55 (fun hg55=>?_) (fun hg55=>?_)
   ·refine s_do gt55<|V' (v_fap0 lk5) pt56<|s_do gt55<|V' (v_loadp lk56 (hga hn rfl) gt2) pt57<|s_do gt55<|mv' lk8 pt58<|s_do gt55<|s_callp (mp1 lk57 (mp1 lki (mp1 lk58 mp0))) (rbetween_a) pt59<|s_do gt55<|V' (v_notB lk59) pt60<|s_do gt51<|V' (v_pickT lk55 lk60) pt61<|V' (v_pickF lk51 lk61) pt62<|s_nil<|?_
    refine n_thn ?_
    exact cT' (()) (by trivial) (by (try dsimp only);(try simp only [setsT,setsE,z',s',rn',la',ln',Nat.reduceAdd]);exact ALe.same (by repeat (first | exact wk0 | refine wka ?_ | refine wk1 rfl ?_ | refine wk1 (by first | rfl | exact bvx (by first | (simp_all [wiB];done) | (rw [Bool.eq_iff_iff];simp_all [wiB];omega) | (rw [Bool.eq_iff_iff];simp_all [wiB];done))) ?_)) rfl)
   refine s_no gt55 pt56<|s_no gt55 pt57<|s_no gt55 pt58<|s_no gt55 pt59<|s_no gt55 pt60<|s_do gt51<|V' (v_pickF lk55 lkb) pt61<|V' (v_pickF lk51 lk61) pt62<|s_nil<|n_thn<|?_
   exact cT' (()) (by trivial) (by (try dsimp only);(try simp only [setsT,setsE,z',s',rn',la',ln',Nat.reduceAdd]);exact ALe.same (by repeat (first | exact wk0 | refine wka ?_ | refine wk1 rfl ?_ | refine wk1 (by first | rfl | exact bvx (by first | (simp_all [wiB];done) | (rw [Bool.eq_iff_iff];simp_all [wiB];omega) | (rw [Bool.eq_iff_iff];simp_all [wiB];done))) ?_)) rfl)
  refine s_no gt46 pt47<|s_no gt46 pt48<|s_no gt46 pt49<|V' (v_pickF lk46 lkb) pt50<|mv' lk50 pt51<|s_do gt51<|V' (v_fap0 lk5) pt52<|s_do gt51<|V' (v_loadp lk52 (hga hn rfl) gt0) pt53<|s_do gt51<|V' (v_neq lk53 lki) pt54<|s_do gt51<|mv' lk54 pt55<|?_
  refine sp' gt55 pt55 pt55 (fun hg55=>?_) (fun hg55=>?_)
  ·refine s_do gt55<|V' (v_fap0 lk5) pt56<|s_do gt55<|V' (v_loadp lk56 (hga hn rfl) gt2) pt57<|s_do gt55<|mv' lk8 pt58<|s_do gt55<|s_callp (mp1 lk57 (mp1 lki (mp1 lk58 mp0))) (rbetween_a) pt59<|s_do gt55<|V' (v_notB lk59) pt60<|s_do gt51<|V' (v_pickT lk55 lk60) pt61<|V' (v_pickF lk51 lk61) pt62<|s_nil<|?_
   refine n_thn ?_
   exact cT' (()) (by trivial) (by (try dsimp only);(try simp only [setsT,setsE,z',s',rn',la',ln',Nat.reduceAdd]);exact ALe.same (by repeat (first | exact wk0 | refine wka ?_ | refine wk1 rfl ?_ | refine wk1 (by first | rfl | exact bvx (by first | (simp_all [wiB];done) | (rw [Bool.eq_iff_iff];simp_all [wiB];omega) | (rw [Bool.eq_iff_iff];simp_all [wiB];done))) ?_)) rfl)
  refine s_no gt55 pt56<|s_no gt55 pt57<|s_no gt55 pt58<|s_no gt55 pt59<|s_no gt55 pt60<|s_do gt51<|V' (v_pickF lk55 lkb) pt61<|V' (v_pickF lk51 lk61) pt62<|s_nil<|n_thn<|?_
  exact cT' (()) (by trivial) (by (try dsimp only);(try simp only [setsT,setsE,z',s',rn',la',ln',Nat.reduceAdd]);exact ALe.same (by repeat (first | exact wk0 | refine wka ?_ | refine wk1 rfl ?_ | refine wk1 (by first | rfl | exact bvx (by first | (simp_all [wiB];done) | (rw [Bool.eq_iff_iff];simp_all [wiB];omega) | (rw [Bool.eq_iff_iff];simp_all [wiB];done))) ?_)) rfl)
 rintro u_ hq12
 try simp only [setsT,setsE,z',s',rn',la',ln',Nat.reduceAdd]
 refine cd' lk62 (fun hc4=>?_) (fun hc4=>?_)
 ·have hv:=onV_no (y:=y) (m:=m) (kind:=k) (wk:=wk) (n:=n) (k:=3) (by unfold formE;rw [if_neg hc1,if_neg (by omega),if_neg hc3,if_pos hc4]) (by omega)
  refine wr'<|V' (v_build CivM_OnOf_63) pt63<|E' (e_store lk6 (cvl lk63 rfl) (hga hn rfl) rfl (nb' rfl) rfl CivM_sc0_3 (hs1 hn)) ptn<|mv' lki pt7<|sn'<|w_rets<|r_thn<|w_ret (rsn (rm1 (rr_c gt6 (hga hn rfl) (ld1 CivM_tk0_3 rfl)) (rm1 (rr_t gt7) rm0)))<|rT'<|?_
  rw [hv]
 have he:formE y m k wk n=0:=by unfold formE;rw [if_neg hc1,if_neg (by omega),if_neg hc3,if_neg hc4]
 have hw:0≤wk∧wk≤6:=by omega
 have hsb:=onSt_bd (y:=y) (m:=m) (k:=k) (n:=n) ⟨hym.1.1,by omega⟩ hym.2 (by omega)
 have hnb:=num_bd1 (y:=y) (m:=m) ⟨hym.1.1,by omega⟩ hym.2
 have hml:=mlen_bd y m
 have hn':0≤n∧n≤31:=by omega
 refine w_skip<|n_seq<|wr'<|mv' lk0 pt64<|mv' lk1 pt65<|V' (v_build (CivM_OnOf_68 (cvl lk64 rfl) rfl (cvl lk65 rfl) rfl (cvl lki rfl) rfl)) pt66<|?_
 refine s_callp (mp1 lk66 mp0) (rdaysOf_a (by omega) (by omega) (by omega) (by omega) (by omega) (by omega)) pt67 ?_
 refine V' (v_sub lk67 lki (by omega) (by omega)) pt68 ?_
 refine mv' lk68 pt9<|sn'<|?_
 refine w_seqC (ι:=Unit) (fun (u_:Unit)=>[(9,iv (onSt y m k n))]++rn' 69 17) (fun (u_:Unit)=>[]) (fun (u_:Unit)=>True) ?_ ?_
 ·try simp only [setsT,setsE,z',s',rn',la',ln',Nat.reduceAdd]
  refine wr'<|V' (v_fap0 lk5) pt69<|V' (v_loadp lk69 (hga hn rfl) gt0) (ptS pt0)<|sn'<|w_block<|wr'<|V' (v_eql (lkS lk0) lki) (ptS pt6)<|mv' (lkS lk6) (ptS pt5)<|sn'<|?_
  refine cd' (lkS lk5) (fun hc5=>?_) (fun hc5=>?_)
  ·refine w_reg<|mv' lk9 (ptS pt7)<|V' (v_fap0 lk5) (ptS pt8)<|V' (v_loadp (lkS lk8) (hga hn rfl) gt2) (ptS pt9)<|?_
   refine V' (v_add (lkS lk7) (lkS lk9) (by omega) (by omega)) (ptS pt10) ?_
   refine mv' (lkS lk10) pt9<|s_nil<|n_blk<|n_thn<|?_
   exact cT' (()) (by trivial) (by (try dsimp only);(try simp only [setsT,setsE,z',s',rn',la',ln',Nat.reduceAdd]);exact ALe.same (by repeat (first | exact wk0 | refine wka ?_ | refine wk1 rfl ?_ | refine wk1 (by first | rfl | exact ivx (by unfold onSt;simp_all) | exact ivx (by unfold onSt;rw [if_neg (by omega)])) ?_)) rfl)
  refine wr'<|V' (v_eql (lkS lk0) lki) (ptS pt12)<|mv' (lkS lk12) (ptS pt11)<|sn'<|?_
  refine cd' (lkS lk11) (fun hc6=>?_) (fun hc6=>?_)
  ·refine w_reg<|mv' lk9 (ptS pt13)<|mv' lk8 (ptS pt14)<|?_
   refine V' (v_add (lkS lk13) (lkS lk14) (by omega) (by omega)) (ptS pt15) ?_
   refine mv' (lkS lk15) pt9<|s_nil<|n_blk<|n_thn<|?_
   exact cT' (()) (by trivial) (by (try dsimp only);(try simp only [setsT,setsE,z',s',rn',la',ln',Nat.reduceAdd]);exact ALe.same (by repeat (first | exact wk0 | refine wka ?_ | refine wk1 rfl ?_ | refine wk1 (by first | rfl | exact ivx (by unfold onSt;simp_all) | exact ivx (by unfold onSt;rw [if_neg (by omega)])) ?_)) rfl)
  refine w_reg<|mv' lk9 (ptS pt1)<|V' (v_fap0 lk5) (ptS pt2)<|V' (v_loadp (lkS lk2) (hga hn rfl) gt2) (ptS pt3)<|?_
  refine V' (v_add (lkS lk1) (lkS lk3) (by omega) (by omega)) (ptS pt4) ?_
  refine mv' (lkS lk4) pt9<|s_nil<|n_blk<|n_thn<|?_
  exact cT' (()) (by trivial) (by (try dsimp only);(try simp only [setsT,setsE,z',s',rn',la',ln',Nat.reduceAdd]);exact ALe.same (by repeat (first | exact wk0 | refine wka ?_ | refine wk1 rfl ?_ | refine wk1 (by first | rfl | exact ivx (by unfold onSt;simp_all) | exact ivx (by unfold onSt;rw [if_neg (by omega)])) ?_)) rfl)
 rintro u_ hq19
 try simp only [setsT,setsE,z',s',rn',la',ln',Nat.reduceAdd]
 refine w_seq<|wr'<|mv' lki pt10<|sn'<|w_block<|?_
 refine w_loop (ι:=Nat) (fun (j:Nat)=>[(9,iv (onGo k wk (onSt y m k n) j)),(10,iv (j:Int))]++rn' 86 23) (fun (j:Nat)=>[]) (fun (j:Nat)=>(j:Int)≤onFar k wk (onSt y m k n)) (fun (j:Nat)=>7-j) (0) (by exact (onFar_bd _ _ _).1) (by try simp only [setsT,setsE,z',s',rn',la',ln',Nat.reduceAdd];exact ALe.same (by repeat (first | exact wk0 | refine wka ?_ | refine wk1 rfl ?_ | refine wk1 (by first | rfl | exact ivx (by unfold onGo;simp)) ?_)) rfl) ?_
 rintro j hi1
 try simp only [setsT,setsE,z',s',rn',la',ln',Nat.reduceAdd]
 have hgb:=onGo_bd hi1
 have hfb:=onFar_bd k wk (onSt y m k n)
 refine w_seq ?_
 refine w_seqC (ι:=Unit) (fun (u_:Unit)=>[(99,bv (decide (j<7∧1<k∧wd (onGo k wk (onSt y m k n) j)≠wk)))]++rn' 86 13) (fun (u_:Unit)=>[]) (fun (u_:Unit)=>True) ?_ ?_
 ·try simp only [setsT,setsE,z',s',rn',la',ln',Nat.reduceAdd]
  refine w_drwE<|D' (v_mv lk10) (ptS pt16)<|D' (v_lss (lkS lk16) lki) (ptS pt17)<|D' (v_mv (lkS lk17)) (ptS pt18)<|?_
  refine dq' (gtS gt18) (ptS pt18) (ptS pt18) (fun hg88=>?_) (fun hg88=>?_)
  ·refine d_do (gtS gt18)<|D' (v_fap0 lk5) (ptS pt19)<|d_do (gtS gt18)<|D' (v_loadp (lkS lk19) (hga hn rfl) gt0) (ptS pt20)<|d_do (gtS gt18)<|D' (v_gtr (lkS lk20) lki) (ptS pt21)<|D' (v_pickT (lkS lk18) (lkS lk21)) (ptS pt22)<|D' (v_mv (lkS lk22)) (ptS pt23)<|?_
   refine dq' (gtS gt23) (ptS pt23) (ptS pt23) (fun hg93=>?_) (fun hg93=>?_)
   ·refine d_do (gtS gt23)<|D' (v_mv lk9) (ptS pt24)<|d_do (gtS gt23)<|?_
    refine d_callp (mp1 (lkS lk24) mp0) (fun hE hX=>rweekday_a) (ptS pt25) ?_
    refine d_do (gtS gt23)<|D' (v_fap0 lk5) (ptS pt26)<|d_do (gtS gt23)<|D' (v_loadp (lkS lk26) (hga hn rfl) gt1) (ptS pt27)<|d_do (gtS gt23)<|D' (v_neq (lkS lk25) (lkS lk27)) (ptS pt28)<|D' (v_pickT (lkS lk23) (lkS lk28)) (ptS pt29)<|d_nil<|?_
    refine e_nil ?_
    refine s_nil<|n_thn<|?_
    exact cT' (()) (by trivial) (by (try dsimp only);(try simp only [setsT,setsE,z',s',rn',la',ln',Nat.reduceAdd]);exact ALe.same (by repeat (first | exact wk0 | refine wka ?_ | refine wk1 rfl ?_ | refine wk1 (by first | rfl | exact bvx (by first | (simp_all [wiB];done) | (rw [Bool.eq_iff_iff];simp_all [wiB];omega) | (rw [Bool.eq_iff_iff];simp_all [wiB];done))) ?_)) rfl)
   refine d_no (gtS gt23) (ptS pt24)<|d_no (gtS gt23) (ptS pt25)<|d_no (gtS gt23) (ptS pt26)<|d_no (gtS gt23) (ptS pt27)<|d_no (gtS gt23) (ptS pt28)<|D' (v_pickF (lkS lk23) lkb) (ptS pt29)<|d_nil<|?_
   refine e_nil ?_
   refine s_nil<|n_thn<|?_
   exact cT' (()) (by trivial) (by (try dsimp only);(try simp only [setsT,setsE,z',s',rn',la',ln',Nat.reduceAdd]);exact ALe.same (by repeat (first | exact wk0 | refine wka ?_ | refine wk1 rfl ?_ | refine wk1 (by first | rfl | exact bvx (by first | (simp_all [wiB];done) | (rw [Bool.eq_iff_iff];simp_all [wiB];omega) | (rw [Bool.eq_iff_iff];simp_all [wiB];done))) ?_)) rfl)
  refine d_no (gtS gt18) (ptS pt19)<|d_no (gtS gt18) (ptS pt20)<|d_no (gtS gt18) (ptS pt21)<|D' (v_pickF (lkS lk18) lkb) (ptS pt22)<|D' (v_mv (lkS lk22)) (ptS pt23)<|d_no (gtS gt23) (ptS pt24)<|d_no (gtS gt23) (ptS pt25)<|d_no (gtS gt23) (ptS pt26)<|d_no (gtS gt23) (ptS pt27)<|d_no (gtS gt23) (ptS pt28)<|D' (v_pickF (lkS lk23) lkb) (ptS pt29)<|d_nil<|?_
  refine e_nil ?_
  refine s_nil<|n_thn<|?_
  exact cT' (()) (by trivial) (by (try dsimp only);(try simp only [setsT,setsE,z',s',rn',la',ln',Nat.reduceAdd]);exact ALe.same (by repeat (first | exact wk0 | refine wka ?_ | refine wk1 rfl ?_ | refine wk1 (by first | rfl | exact bvx (by first | (simp_all [wiB];done) | (rw [Bool.eq_iff_iff];simp_all [wiB];omega) | (rw [Bool.eq_iff_iff];simp_all [wiB];done))) ?_)) rfl)
 rintro u_ hq21
 try simp only [setsT,setsE,z',s',rn',la',ln',Nat.reduceAdd]
 refine cd' (lkS lk29) (fun hc7=>?_) (fun hc7=>?_)
 ·have hgo:=onGo_go hw hi1 hc7
  refine w_skip<|n_seq<|w_seq<|w_block<|wr'<|V' (v_fap0 lk5) (ptS pt32)<|V' (v_loadp (lkS lk32) (hga hn rfl) gt0) (ptS pt33)<|V' (v_eql (lkS lk33) lki) (ptS pt34)<|sn'<|?_
  refine cd' (lkS lk34) (fun hc8=>?_) (fun hc8=>?_)
  ·refine w_reg<|mv' lk9 (ptS pt35)<|?_
   refine V' (v_add (lkS lk35) lki (by omega) (by omega)) (ptS pt36) ?_
   refine mv' (lkS lk36) pt9<|s_nil<|n_blk<|n_seq<|w_reg<|mv' lk10 (ptS pt30)<|?_
   refine V' (v_add (lkS lk30) lki (by omega) (by omega)) (ptS pt31) ?_
   refine mv' (lkS lk31) pt10<|s_nil<|n_thn<|?_
   refine lU' (j+1) (by (try dsimp only);omega) (by (try dsimp only);(try simp only [setsT,setsE,z',s',rn',la',ln',Nat.reduceAdd]);exact ALe.same (by repeat (first | exact wk0 | refine wka ?_ | refine wk1 rfl ?_ | refine wk1 (by first | rfl | exact ivx (by unfold onGo;simp_all;omega) | exact ivx (by omega)) ?_)) rfl)
  refine w_reg<|mv' lk9 (ptS pt37)<|?_
  refine V' (v_sub (lkS lk37) lki (by omega) (by omega)) (ptS pt38) ?_
  refine mv' (lkS lk38) pt9<|s_nil<|n_blk<|n_seq<|w_reg<|mv' lk10 (ptS pt30)<|?_
  refine V' (v_add (lkS lk30) lki (by omega) (by omega)) (ptS pt31) ?_
  refine mv' (lkS lk31) pt10<|s_nil<|n_thn<|?_
  refine lU' (j+1) (by (try dsimp only);omega) (by (try dsimp only);(try simp only [setsT,setsE,z',s',rn',la',ln',Nat.reduceAdd]);exact ALe.same (by repeat (first | exact wk0 | refine wka ?_ | refine wk1 rfl ?_ | refine wk1 (by first | rfl | exact ivx (by unfold onGo;simp_all;omega) | exact ivx (by omega)) ?_)) rfl)
 have hd:=onGo_end hk hw hi1 hc7
 rw [←hd]
 refine w_exit<|x_thn<|x_thn<|x_blk<|n_seq<|w_seq<|wr'<|mv' lk9 (ptS pt39)<|s_callp mp0 (rfirst_a) (ptS pt40)<|s_callp mp0 (rlast_a) (ptS pt41)<|s_callp (mp1 (lkS lk39) (mp1 (lkS lk40) (mp1 (lkS lk41) mp0))) (rbetween_a) (ptS pt42)<|V' (v_notB (lkS lk42)) (ptS pt43)<|s_nil<|?_
 refine n_seq ?_
 refine w_condB (lkS lk43) (fun hc9=>?_) (fun hc9=>?_)
 ·have hr:¬(-719162≤onDay y m k wk n∧onDay y m k wk n≤2932896):=by have h9:=hc9;simp [wiB] at h9;omega
  refine wr'<|V' (v_build CivM_OnOf_124) (ptS pt44)<|E' (e_store lk6 (cvl (lkS lk44) rfl) (hga hn rfl) rfl (nb' rfl) rfl CivM_sc0_3 (hs1 hn)) ptn<|mv' lki pt7<|sn'<|w_rets<|r_thn<|w_ret (rsn (rm1 (rr_c gt6 (hga hn rfl) (ld1 CivM_tk0_3 rfl)) (rm1 (rr_t gt7) rm0)))<|rT'<|?_
  rw [onV_ok he rfl,if_neg hr]
 have hr : -719162≤onDay y m k wk n∧onDay y m k wk n≤2932896:=by have h9:=hc9;simp [wiB] at h9;omega
 refine w_skip<|n_seq<|wr'<|mv' lk9 (ptS pt45)<|s_callp (mp1 (lkS lk45) mp0) (rdateOf_a hr.1 hr.2) (ptS pt46)<|E' (e_store lk6 (cvl (lkS lk46) rfl) (hga hn rfl) rfl (nb' rfl) rfl CivM_sc0_3 (hs1 hn)) ptn<|mv' lki pt7<|sn'<|w_rets<|w_ret (rsn (rm1 (rr_c gt6 (hga hn rfl) (ld1 CivM_tk0_3 rfl)) (rm1 (rr_t gt7) rm0)))<|rT'<|?_
 rw [onV_ok he rfl,if_pos hr]
end Go.Proofs.YtgjchdhdopgkkaaGreatDoor
end
section
namespace Go.Proofs.YtgjchdhdopgkkaaGreatDoor
open Go.Ab Go.RowKit
def c82:AC:=(.seq (.reg [Oo 6 (.mv (.const (.bool false)))]) (.seq (.reg [Mv 7 0,Mv 8 1,Oo 9 (.bin .geq (.tmp 7) (.tmp 8)),Mv 10 9,Ot 11 10 (.mv (.tmp 0)),Ot 12 10 (.mv (.tmp 2)),Ot 13 10 (.bin .leq (.tmp 11) (.tmp 12)),Oo 14 (.pick (.tmp 10) (.tmp 13) (.const (.bool false))),Mv 6 14]) .ret))
theorem k82:compF Tryz.prog 82=some ⟨c82,[(.tmp 6)],15⟩:=by kernel_rfl
def c84:AC:=(.seq (.reg [Oo 4 (.mv (.const (.bool false)))]) (.seq (.reg [Mv 5 0,Oo 6 (.call (.func 82) [(.tmp 5),(Ci 1),(Ci 3)]),Mv 7 6,Ot 8 7 (.mv (.tmp 1)),Ot 9 7 (.mv (.tmp 8)),Of 10 9 (.mv (.tmp 0)),Of 11 9 (.bin .neq (.tmp 10) (Ci 1)),Ot 12 7 (.pick (.tmp 9) (.const (.bool true)) (.tmp 11)),Oo 13 (.pick (.tmp 7) (.tmp 12) (.const (.bool false))),Mv 4 13]) .ret))
theorem k84:compF Tryz.prog 84=some ⟨c84,[(.tmp 4)],14⟩:=by kernel_rfl
def c118:AC:=(.seq (.reg [Oo 2 (.mv (.const (.bool false)))]) (.seq (.reg [Mv 3 0,Oo 4 (.call (.func 116) [(.tmp 3)]),Mv 5 4,Of 6 5 (.mv (.tmp 0)),Of 7 5 (.call (.func 119) [(.tmp 6)]),Oo 8 (.pick (.tmp 5) (.const (.bool true)) (.tmp 7)),Mv 9 8,Of 10 9 (.mv (.tmp 0)),Of 11 9 (.call (.func 120) [(.const (.string ⟨#[95,45,47,43]⟩)),(.tmp 10)]),Of 12 9 (.bin .geq (.tmp 11) (Ci 0)),Oo 13 (.pick (.tmp 9) (.const (.bool true)) (.tmp 12)),Mv 2 13]) .ret))
theorem k118:compF Tryz.prog 118=some ⟨c118,[(.tmp 2)],14⟩:=by kernel_rfl
def c80:AC:=(.seq (.reg [Oo 2 (.mv (.const (.bool false)))]) (.seq (.reg [Mv 3 0,Oo 4 (.bin .neq (.tmp 3) (.const (.string ⟨#[]⟩))),Mv 5 4,Ot 6 5 (.mv (.tmp 0)),Ot 7 5 (.len true (.tmp 6)),Ot 8 5 (.bin .leq (.tmp 7) (Ci 24)),Oo 9 (.pick (.tmp 5) (.tmp 8) (.const (.bool false))),Mv 10 9,Ot 11 10 (.mv (.tmp 0)),Ot 12 10 (.ix (.tmp 11) (Ci 0)),Ot 13 10 (.call (.func 116) [(.tmp 12)]),Oo 14 (.pick (.tmp 10) (.tmp 13) (.const (.bool false))),Mv 15 14,Ot 16 15 (.mv (.tmp 0)),Ot 17 15 (.call (.func 117) [(.tmp 16),(.func 118)]),Oo 18 (.pick (.tmp 15) (.tmp 17) (.const (.bool false))),Mv 2 18]) .ret))
theorem k80:compF Tryz.prog 80=some ⟨c80,[(.tmp 2)],19⟩:=by kernel_rfl
def c81:AC:=(.seq (.reg [Oo 2 (.mv (.const (.bool false)))]) (.seq (.reg [Mv 3 0,Oo 4 (.len true (.tmp 3)),Oo 5 (.bin .leq (.tmp 4) (Ci 24)),Mv 6 5,Ot 7 6 (.mv (.tmp 0)),Ot 8 6 (.call (.func 117) [(.tmp 7),(.func 116)]),Oo 9 (.pick (.tmp 6) (.tmp 8) (.const (.bool false))),Mv 2 9]) .ret))
theorem k81:compF Tryz.prog 81=some ⟨c81,[(.tmp 2)],10⟩:=by kernel_rfl
def c126:AC:=(.seq (.reg [Oo 2 (.mv (.const (.bool false)))]) (.seq (.seq (.reg [Mv 6 0,Oo 7 (.bin .eql (.tmp 6) (.const (.string ⟨#[]⟩))),Mv 8 7,Of 9 8 (.mv (.tmp 0)),Of 10 8 (.len true (.tmp 9)),Of 11 8 (.bin .gtr (.tmp 10) (Ci 24)),Oo 12 (.pick (.tmp 8) (.const (.bool true)) (.tmp 11))]) (.cond (.tmp 12) (.seq (.reg [Oo 2 (.mv (.const (.bool false)))]) .ret) .skip)) (.seq (.reg [Mv 14 0,Oo 15 (.call (.func 158) [(.tmp 14),(.const (.string ⟨#[47]⟩))]),Mv 13 15,Ex 16 13 0,Ex 17 13 1,Ex 18 13 2,Mv 3 16,Mv 4 17,Mv 5 18]) (.seq (.seq (.reg [Mv 19 5]) (.cond (.tmp 19) (.seq (.reg [Mv 20 3,Oo 21 (.bin .neq (.tmp 20) (.const (.string ⟨#[]⟩))),Mv 22 21,Ot 23 22 (.mv (.tmp 4)),Ot 24 22 (.bin .neq (.tmp 23) (.const (.string ⟨#[]⟩))),Oo 25 (.pick (.tmp 22) (.tmp 24) (.const (.bool false))),Mv 26 25,Ot 27 26 (.mv (.tmp 3)),Ot 28 26 (.call (.func 159) [(.tmp 27)]),Oo 29 (.pick (.tmp 26) (.tmp 28) (.const (.bool false))),Mv 30 29,Ot 31 30 (.mv (.tmp 4)),Ot 32 30 (.call (.func 159) [(.tmp 31)]),Oo 33 (.pick (.tmp 30) (.tmp 32) (.const (.bool false))),Mv 2 33]) .ret) .skip)) (.seq (.reg [Mv 35 0,Oo 36 (.call (.func 158) [(.tmp 35),(.const (.string ⟨#[37,115]⟩))]),Mv 34 36,Ex 37 34 0,Ex 38 34 1,Ex 39 34 2,Mv 3 37,Mv 4 38]) (.seq (.reg [Mv 40 3,Oo 41 (.call (.func 159) [(.tmp 40)]),Mv 42 41,Ot 43 42 (.mv (.tmp 4)),Ot 44 42 (.call (.func 159) [(.tmp 43)]),Oo 45 (.pick (.tmp 42) (.tmp 44) (.const (.bool false))),Mv 2 45]) .ret))))))
theorem k126:compF Tryz.prog 126=some ⟨c126,[(.tmp 2)],46⟩:=by kernel_rfl
theorem swithin_a {n a b:Int}{h:AH}:ACalls Tryz.prog 82 [iv n,iv a,iv b] h fun x h'=>h'=h∧x = .ret (bv (wi n a b)):=by
 refine tI' k82 fun N hn hlt hlA hbd=>?_
 simp only [tA',AV.bdL,AV.bd,and_true,true_and] at hbd ⊢
 refine wr'<|mv' lkb pt6<|sn'<|wr'<|mv' lk0 pt7<|mv' lk1 pt8<|V' (v_geq lk7 lk8) pt9<|mv' lk9 pt10<|?_
 refine sp' gt10 pt10 pt10 (fun hg10=>?_) (fun hg10=>?_)
 ·refine s_do gt10<|mv' lk0 pt11<|s_do gt10<|mv' lk2 pt12<|s_do gt10<|V' (v_leq lk11 lk12) pt13<|V' (v_pickT lk10 lk13) pt14<|mv' lk14 pt6<|sn'<|w_rets<|w_ret (rs1 (rr_t gt6))<|rT'<|?_
  refine bvx ?_;unfold wi;rw [Bool.eq_iff_iff];simp;omega
 refine s_no gt10 pt11<|s_no gt10 pt12<|s_no gt10 pt13<|V' (v_pickF lk10 lkb) pt14<|mv' lk14 pt6<|sn'<|w_rets<|w_ret (rs1 (rr_t gt6))<|rT'<|?_
 refine bvx ?_;unfold wi;rw [Bool.eq_iff_iff];simp;omega
def clkB (n:Int) (wall:Bool):Bool:=wi n 1 3&&(wall||decide (n≠1))
theorem clock_a {n:Int}{b:Bool}{h:AH}:ACalls Tryz.prog 84 [iv n,bv b] h fun x h'=>h'=h∧x = .ret (bv (clkB n b)):=by
 refine tI' k84 fun N hn hlt hlA hbd=>?_
 simp only [tA',AV.bdL,AV.bd,and_true,true_and] at hbd ⊢
 refine wr'<|mv' lkb pt4<|sn'<|wr'<|mv' lk0 pt5<|s_callp (mp1 lk5 (mp1 lki (mp1 lki mp0))) (swithin_a) pt6<|mv' lk6 pt7<|?_
 refine s_splitB gt7 pt7 pt7 (fun hg7=>?_) (fun hg7=>?_)
 ·refine s_do gt7<|mv' lk1 pt8<|s_do gt7<|mv' lk8 pt9<|?_
  refine s_splitB gt9 pt9 pt9 (fun hg9=>?_) (fun hg9=>?_)
  ·refine s_no gt9 pt10<|s_no gt9 pt11<|s_do gt7<|V' (v_pickT lk9 lkb) pt12<|V' (v_pickT lk7 lk12) pt13<|mv' lk13 pt4<|sn'<|w_rets<|w_ret (rs1 (rr_t gt4))<|rT'<|?_
   refine bvx ?_;unfold clkB;simp_all
  refine s_do gt9<|mv' lk0 pt10<|s_do gt9<|V' (v_neq lk10 lki) pt11<|s_do gt7<|V' (v_pickF lk9 lk11) pt12<|V' (v_pickT lk7 lk12) pt13<|mv' lk13 pt4<|sn'<|w_rets<|w_ret (rs1 (rr_t gt4))<|rT'<|?_
  refine bvx ?_;unfold clkB;simp_all
 refine s_no gt7 pt8<|s_no gt7 pt9<|s_nu gt9 pt10<|s_nu gt9 pt11<|s_no gt7 pt12<|V' (v_pickF lk7 lkb) pt13<|mv' lk13 pt4<|sn'<|w_rets<|w_ret (rs1 (rr_t gt4))<|rT'<|?_
 refine bvx ?_;unfold clkB;simp_all
def nameN (n:Int):Bool:=letB n||digB n||decide (0≤Lib.indexByte [95,45,47,43] n.toNat.toUInt8)
theorem indexN_a {n:Int}{h:AH}:ACalls Tryz.prog 120 [sv (bA [95,45,47,43]),uv n] h fun x h'=>h'=h∧x = .ret (iv (Lib.indexByte [95,45,47,43] n.toNat.toUInt8)):=indexByte_a
theorem name1_a {n:Int}{h:AH}:ACalls Tryz.prog 118 [uv n] h fun x h'=>h'=h∧x = .ret (bv (nameN n)):=by
 refine tI' k118 fun N hn hlt hlA hbd=>?_
 simp only [tA',AV.bdL,AV.bd,and_true,true_and] at hbd ⊢
 refine wr'<|mv' lkb pt2<|sn'<|wr'<|mv' lk0 pt3<|s_callp (mp1 lk3 mp0) (letter_a) pt4<|mv' lk4 pt5<|?_
 refine s_splitB gt5 pt5 pt5 (fun hg5=>?_) (fun hg5=>?_)
 ·refine s_no gt5 pt6<|s_no gt5 pt7<|V' (v_pickT lk5 lkb) pt8<|mv' lk8 pt9<|s_no gt9 pt10<|s_no gt9 pt11<|s_no gt9 pt12<|V' (v_pickT lk9 lkb) pt13<|mv' lk13 pt2<|sn'<|w_rets<|w_ret (rs1 (rr_t gt2))<|rT'<|?_
  refine bvx ?_;unfold nameN;rw [Bool.eq_iff_iff];simp_all
 refine s_do gt5<|mv' lk0 pt6<|s_do gt5<|s_callp (mp1 lk6 mp0) (digit_a) pt7<|V' (v_pickF lk5 lk7) pt8<|mv' lk8 pt9<|?_
 refine s_splitB gt9 pt9 pt9 (fun hg9=>?_) (fun hg9=>?_)
 ·refine s_no gt9 pt10<|s_no gt9 pt11<|s_no gt9 pt12<|V' (v_pickT lk9 lkb) pt13<|mv' lk13 pt2<|sn'<|w_rets<|w_ret (rs1 (rr_t gt2))<|rT'<|?_
  refine bvx ?_;unfold nameN;rw [Bool.eq_iff_iff];simp_all
 refine s_do gt9<|mv' lk0 pt10<|s_do gt9<|s_callp (mp1 lks (mp1 lk10 mp0)) (indexN_a) pt11<|s_do gt9<|V' (v_geq lk11 lki) pt12<|V' (v_pickF lk9 lk12) pt13<|mv' lk13 pt2<|sn'<|w_rets<|w_ret (rs1 (rr_t gt2))<|rT'<|?_
 refine bvx ?_;unfold nameN;rw [Bool.eq_iff_iff];simp_all
def nameB (s:ByteArray):Bool:=decide (s.size≠0)&&decide (s.size≤24)&&letB (byteAt s 0).toNat&&allB nameN s
theorem name_a {s:ByteArray}{h:AH}(hs:s.size≤maxLen):ACalls Tryz.prog 80 [sv s] h fun x h'=>h'=h∧x = .ret (bv (nameB s)):=by
 have hm:s.size≤9223372036854775807:=by simpa [maxLen] using hs
 have hem:=emp_size (f:=s)
 refine tI' k80 fun N hn hlt hlA hbd=>?_
 simp only [tA',AV.bdL,AV.bd,and_true,true_and] at hbd ⊢
 refine wr'<|mv' lkb pt2<|sn'<|wr'<|mv' lk0 pt3<|V' (v_neqS lk3 lks) pt4<|mv' lk4 pt5<|?_
 refine sp' gt5 pt5 pt5 (fun hg5=>?_) (fun hg5=>?_)
 ·have hne:s.size≠0:=fun e=>hg5 (hem.2 e)
  refine s_do gt5<|mv' lk0 pt6<|s_do gt5<|V' (v_lenS lk6) pt7<|s_do gt5<|V' (v_leq lk7 lki) pt8<|V' (v_pickT lk5 lk8) pt9<|mv' lk9 pt10<|?_
  refine sp' gt10 pt10 pt10 (fun hg10=>?_) (fun hg10=>?_)
  ·refine s_do gt10<|mv' lk0 pt11<|s_do gt10<|?_
   refine V' (v_ix lk11 lki (by omega) (by omega)) pt12 ?_
   refine s_do gt10<|s_callp (mp1 lk12 mp0) (letter_a) pt13<|V' (v_pickT lk10 lk13) pt14<|mv' lk14 pt15<|?_
   refine s_splitB gt15 pt15 pt15 (fun hg15=>?_) (fun hg15=>?_)
   ·refine s_do gt15<|mv' lk0 pt16<|s_do gt15<|?_
    refine s_callp (mp1 lk16 (mp1 lkf mp0)) (all_a (fun _ _=>name1_a) hs) pt17 ?_
    refine V' (v_pickT lk15 lk17) pt18<|mv' lk18 pt2<|sn'<|w_rets<|w_ret (rs1 (rr_t gt2))<|rT'<|?_
    refine bvx ?_;unfold nameB;simp_all <;> (try intros) <;> omega
   refine s_no gt15 pt16<|s_no gt15 pt17<|V' (v_pickF lk15 lkb) pt18<|mv' lk18 pt2<|sn'<|w_rets<|w_ret (rs1 (rr_t gt2))<|rT'<|?_
   refine bvx ?_;unfold nameB;simp_all <;> (try intros) <;> omega
  refine s_no gt10 pt11<|s_no gt10 pt12<|s_no gt10 pt13<|V' (v_pickF lk10 lkb) pt14<|mv' lk14 pt15<|s_no gt15 pt16<|s_no gt15 pt17<|V' (v_pickF lk15 lkb) pt18<|mv' lk18 pt2<|sn'<|w_rets<|w_ret (rs1 (rr_t gt2))<|rT'<|?_
  refine bvx ?_;unfold nameB;simp_all <;> (try intros) <;> omega
 refine s_no gt5 pt6<|s_no gt5 pt7<|s_no gt5 pt8<|V' (v_pickF lk5 lkb) pt9<|mv' lk9 pt10<|s_no gt10 pt11<|s_no gt10 pt12<|s_no gt10 pt13<|V' (v_pickF lk10 lkb) pt14<|mv' lk14 pt15<|s_no gt15 pt16<|s_no gt15 pt17<|V' (v_pickF lk15 lkb) pt18<|mv' lk18 pt2<|?_
 refine sn'<|w_rets<|w_ret (rs1 (rr_t gt2))<|rT'<|?_
 refine bvx ?_;unfold nameB;simp_all <;> (try intros) <;> omega
def lettersB (s:ByteArray):Bool:=decide (s.size≤24)&&allB letB s
theorem letters_a {s:ByteArray}{h:AH}(hs:s.size≤maxLen):ACalls Tryz.prog 81 [sv s] h fun x h'=>h'=h∧x = .ret (bv (lettersB s)):=by
 have hm:s.size≤9223372036854775807:=by simpa [maxLen] using hs
 refine tI' k81 fun N hn hlt hlA hbd=>?_
 simp only [tA',AV.bdL,AV.bd,and_true,true_and] at hbd ⊢
 refine wr'<|mv' lkb pt2<|sn'<|wr'<|mv' lk0 pt3<|V' (v_lenS lk3) pt4<|V' (v_leq lk4 lki) pt5<|mv' lk5 pt6<|?_
 refine sp' gt6 pt6 pt6 (fun hg6=>?_) (fun hg6=>?_)
 ·refine s_do gt6<|mv' lk0 pt7<|s_do gt6<|?_
  refine s_callp (mp1 lk7 (mp1 lkf mp0)) (all_a (fun _ _=>letter_a) hs) pt8 ?_
  refine V' (v_pickT lk6 lk8) pt9<|mv' lk9 pt2<|sn'<|w_rets<|w_ret (rs1 (rr_t gt2))<|rT'<|?_
  refine bvx ?_;unfold lettersB;simp_all <;> (try intros) <;> omega
 refine s_no gt6 pt7<|s_no gt6 pt8<|V' (v_pickF lk6 lkb) pt9<|mv' lk9 pt2<|sn'<|w_rets<|w_ret (rs1 (rr_t gt2))<|rT'<|?_
 refine bvx ?_;unfold lettersB;simp_all <;> (try intros) <;> omega
abbrev cutL (s:ByteArray) (p:Bs):Bs×Bs×Bool:=Lib.cut (aB s) p
def formatB (s:ByteArray):Bool:=if s.size=0∨24<s.size then false else
 if (cutL s [47]).2.2=true then decide (bA (cutL s [47]).1≠⟨#[]⟩)&&decide (bA (cutL s [47]).2.1≠⟨#[]⟩)&&allB plainB (bA (cutL s [47]).1)&&allB plainB (bA (cutL s [47]).2.1)
 else allB plainB (bA (cutL s [37,115]).1)&&allB plainB (bA (cutL s [37,115]).2.1)
theorem cutL_len {s:ByteArray}{p:Bs}:(cutL s p).1.length≤s.size∧(cutL s p).2.1.length≤s.size:=by
 unfold cutL Lib.cut
 split
 ·simp only [List.length_take,List.length_drop,aB_len];omega
 simp [aB_len]
theorem cut1_a {s:ByteArray}{h:AH}(hz:s.size≤24):ACalls Tryz.prog 158 [sv s,sv (bA [47])] h fun x h'=>h'=h∧x = .ret (.tup [sv (bA (cutL s [47]).1),sv (bA (cutL s [47]).2.1),bv (cutL s [47]).2.2]):=cut_a (by omega)
theorem cut2_a {s:ByteArray}{h:AH}(hz:s.size≤24):ACalls Tryz.prog 158 [sv s,sv (bA [37,115])] h fun x h'=>h'=h∧x = .ret (.tup [sv (bA (cutL s [37,115]).1),sv (bA (cutL s [37,115]).2.1),bv (cutL s [37,115]).2.2]):=cut_a (by omega)
theorem format_a {s:ByteArray}{h:AH}(hs:s.size≤maxLen):ACalls Tryz.prog 126 [sv s] h fun x h'=>h'=h∧x = .ret (bv (formatB s)):=by
 have hm:s.size≤9223372036854775807:=by simpa [maxLen] using hs
 have hem:=emp_size (f:=s)
 have k1:=cutL_len (s:=s) (p:=[47])
 have k2:=cutL_len (s:=s) (p:=[37,115])
 refine tI' k126 fun N hn hlt hlA hbd=>?_
 simp only [tA',AV.bdL,AV.bd,and_true,true_and] at hbd ⊢
 refine wr'<|mv' lkb pt2<|sn'<|w_seq<|wr'<|mv' lk0 pt6<|V' (v_eqlS lk6 lks) pt7<|mv' lk7 pt8<|?_
 refine sp' gt8 pt8 pt8 (fun hg8=>?_) (fun hg8=>?_)
 ·have hB:formatB s=false:=if_pos (.inl (hem.1 hg8))
  refine s_no gt8 pt9<|s_no gt8 pt10<|s_no gt8 pt11<|V' (v_pickT lk8 lkb) pt12<|sn'<|w_condT lk12<|wr'<|mv' lkb pt2<|sn'<|w_rets<|r_thn<|?_
  refine w_ret (rs1 (rr_t gt2))<|rT'<|?_
  rw [hB]
 refine s_do gt8<|mv' lk0 pt9<|s_do gt8<|V' (v_lenS lk9) pt10<|s_do gt8<|V' (v_gtr lk10 lki) pt11<|V' (v_pickF lk8 lk11) pt12<|sn'<|?_
 refine cd' lk12 (fun hc1=>?_) (fun hc1=>?_)
 ·have hB:formatB s=false:=if_pos (.inr (by omega))
  refine wr'<|mv' lkb pt2<|sn'<|w_rets<|r_thn<|w_ret (rs1 (rr_t gt2))<|rT'<|?_
  rw [hB]
 have hB:formatB s=if (cutL s [47]).2.2=true then decide (bA (cutL s [47]).1≠⟨#[]⟩)&&decide (bA (cutL s [47]).2.1≠⟨#[]⟩)&&allB plainB (bA (cutL s [47]).1)&&allB plainB (bA (cutL s [47]).2.1) else allB plainB (bA (cutL s [37,115]).1)&&allB plainB (bA (cutL s [37,115]).2.1):=if_neg (by have:s.size≠0:=fun e=>hg8 (hem.2 e);omega)
 have hz:s.size≤24:=by omega
 refine w_skip<|n_seq<|wr'<|mv' lk0 pt14<|s_callp (mp1 lk14 (mp1 lks mp0)) (cut1_a hz) pt15<|mv' lk15 pt13<|V' (v_ext lk13 gt0) pt16<|V' (v_ext lk13 gt1) pt17<|V' (v_ext lk13 gt2) pt18<|mv' lk16 pt3<|mv' lk17 pt4<|mv' lk18 pt5<|s_nil<|?_
 refine n_seq<|w_seq<|wr'<|mv' lk5 pt19<|sn'<|?_
 refine cd' lk19 (fun hc2=>?_) (fun hc2=>?_)
 ·rw [if_pos hc2] at hB
  refine wr'<|mv' lk3 pt20<|V' (v_neqS lk20 lks) pt21<|mv' lk21 pt22<|?_
  refine sp' gt22 pt22 pt22 (fun hg22=>?_) (fun hg22=>?_)
  ·refine s_do gt22<|mv' lk4 pt23<|s_do gt22<|V' (v_neqS lk23 lks) pt24<|V' (v_pickT lk22 lk24) pt25<|mv' lk25 pt26<|?_
   refine sp' gt26 pt26 pt26 (fun hg26=>?_) (fun hg26=>?_)
   ·refine s_do gt26<|mv' lk3 pt27<|s_do gt26<|?_
    refine s_callp (mp1 lk27 mp0) (plain_a (by rw [bA_size];unfold maxLen;omega)) pt28 ?_
    refine V' (v_pickT lk26 lk28) pt29<|mv' lk29 pt30<|?_
    refine s_splitB gt30 pt30 pt30 (fun hg30=>?_) (fun hg30=>?_)
    ·refine s_do gt30<|mv' lk4 pt31<|s_do gt30<|?_
     refine s_callp (mp1 lk31 mp0) (plain_a (by rw [bA_size];unfold maxLen;omega)) pt32 ?_
     refine V' (v_pickT lk30 lk32) pt33<|mv' lk33 pt2<|sn'<|w_rets<|r_thn<|w_ret (rs1 (rr_t gt2))<|rT'<|?_
     rw [hB];refine bvx ?_;simp_all
    refine s_no gt30 pt31<|s_no gt30 pt32<|V' (v_pickF lk30 lkb) pt33<|mv' lk33 pt2<|sn'<|w_rets<|r_thn<|w_ret (rs1 (rr_t gt2))<|rT'<|?_
    rw [hB];refine bvx ?_;simp_all
   refine s_no gt26 pt27<|s_no gt26 pt28<|V' (v_pickF lk26 lkb) pt29<|mv' lk29 pt30<|s_no gt30 pt31<|s_no gt30 pt32<|V' (v_pickF lk30 lkb) pt33<|mv' lk33 pt2<|sn'<|w_rets<|r_thn<|w_ret (rs1 (rr_t gt2))<|rT'<|?_
   rw [hB];refine bvx ?_;simp_all
  refine s_no gt22 pt23<|s_no gt22 pt24<|V' (v_pickF lk22 lkb) pt25<|mv' lk25 pt26<|s_no gt26 pt27<|s_no gt26 pt28<|V' (v_pickF lk26 lkb) pt29<|mv' lk29 pt30<|s_no gt30 pt31<|s_no gt30 pt32<|V' (v_pickF lk30 lkb) pt33<|mv' lk33 pt2<|sn'<|?_
  refine w_rets<|r_thn<|w_ret (rs1 (rr_t gt2))<|rT'<|?_
  rw [hB];refine bvx ?_;simp_all
 rw [if_neg (by rw [hc2];simp)] at hB
 refine w_skip<|n_seq<|wr'<|mv' lk0 pt35<|s_callp (mp1 lk35 (mp1 lks mp0)) (cut2_a hz) pt36<|mv' lk36 pt34<|V' (v_ext lk34 gt0) pt37<|V' (v_ext lk34 gt1) pt38<|V' (v_ext lk34 gt2) pt39<|mv' lk37 pt3<|mv' lk38 pt4<|sn'<|?_
 refine wr'<|mv' lk3 pt40<|?_
 refine s_callp (mp1 lk40 mp0) (plain_a (by rw [bA_size];unfold maxLen;omega)) pt41 ?_
 refine mv' lk41 pt42 ?_
 refine s_splitB gt42 pt42 pt42 (fun hg42=>?_) (fun hg42=>?_)
 ·refine s_do gt42<|mv' lk4 pt43<|s_do gt42<|?_
  refine s_callp (mp1 lk43 mp0) (plain_a (by rw [bA_size];unfold maxLen;omega)) pt44 ?_
  refine V' (v_pickT lk42 lk44) pt45<|mv' lk45 pt2<|sn'<|w_rets<|w_ret (rs1 (rr_t gt2))<|rT'<|?_
  rw [hB];refine bvx ?_;simp_all
 refine s_no gt42 pt43<|s_no gt42 pt44<|V' (v_pickF lk42 lkb) pt45<|mv' lk45 pt2<|sn'<|w_rets<|w_ret (rs1 (rr_t gt2))<|rT'<|?_
 rw [hB];refine bvx ?_;simp_all
end Go.Proofs.YtgjchdhdopgkkaaGreatDoor
end
section
namespace Go.Proofs.YtgjchdhdopgkkaaGreatDoor
open Go.Ab Go.RowKit Civ
attribute [local simp] rul_lt era_lt zon_lt lnk_lt
section
theorem SrcC_tk4_3 {a0 a1 a2 a3 a4 a5 a6:AV}{l:List AV}:((a0::a1::a2::a3::a4::a5::a6::l).drop 4).take 3=[a4,a5,a6]:=rfl
theorem SrcC_sc0_3 {a0 a1 a2 c0 c1 c2:AV}{l:List AV}:setCells (a0::a1::a2::l) 0 [c0,c1,c2]=c0::c1::c2::l:=rfl
theorem SrcC_tk5_5 {a0 a1 a2 a3 a4 a5 a6 a7 a8 a9:AV}{l:List AV}:((a0::a1::a2::a3::a4::a5::a6::a7::a8::a9::l).drop 5).take 5=[a5,a6,a7,a8,a9]:=rfl
theorem SrcC_era_53 {τ:Operand→AV}:fillAV τ [] [(.v (.int .i64 0)),(.v (.int .i64 0)),(.v (.int .i64 0)),(.v (.int .i64 0)),(.v (.int .i64 0))]=some [(.v (.int .i64 0)),(.v (.int .i64 0)),(.v (.int .i64 0)),(.v (.int .i64 0)),(.v (.int .i64 0))]:=rfl
theorem SrcC_eq_iiiii {a0 b0:Int}{a1 b1:Int}{a2 b2:Int}{a3 b3:Int}{a4 b4:Int}:eqCells [.int,.int,.int,.int,.int] [iv a0,iv a1,iv a2,iv a3,iv a4] [iv b0,iv b1,iv b2,iv b3,iv b4]=some (decide (a0=b0∧a1=b1∧a2=b2∧a3=b3∧a4=b4)):=by
 simp only [eqCells,eqLeaf,if_true,bytes_beq,Option.some.injEq]
 simp only [Bool.decide_and,Bool.and_true]
 try (congr 1 <;> simp)
 try rfl
theorem SrcC_tk5_3 {a0 a1 a2 a3 a4 a5 a6 a7:AV}{l:List AV}:((a0::a1::a2::a3::a4::a5::a6::a7::l).drop 5).take 3=[a5,a6,a7]:=rfl
theorem SrcC_tk_10 {a0 a1 a2 a3 a4 a5 a6 a7 a8 a9:AV}{l:List AV}:(a0::a1::a2::a3::a4::a5::a6::a7::a8::a9::l).take 10=[a0,a1,a2,a3,a4,a5,a6,a7,a8,a9]:=rfl
theorem SrcC_sc0_10 {a0 a1 a2 a3 a4 a5 a6 a7 a8 a9 c0 c1 c2 c3 c4 c5 c6 c7 c8 c9:AV}{l:List AV}:setCells (a0::a1::a2::a3::a4::a5::a6::a7::a8::a9::l) 0 [c0,c1,c2,c3,c4,c5,c6,c7,c8,c9]=c0::c1::c2::c3::c4::c5::c6::c7::c8::c9::l:=rfl
theorem SrcC_tk0_10 {a0 a1 a2 a3 a4 a5 a6 a7 a8 a9:AV}{l:List AV}:((a0::a1::a2::a3::a4::a5::a6::a7::a8::a9::l).drop 0).take 10=[a0,a1,a2,a3,a4,a5,a6,a7,a8,a9]:=rfl
theorem SrcC_tk_11 {a0 a1 a2 a3 a4 a5 a6 a7 a8 a9 a10:AV}{l:List AV}:(a0::a1::a2::a3::a4::a5::a6::a7::a8::a9::a10::l).take 11=[a0,a1,a2,a3,a4,a5,a6,a7,a8,a9,a10]:=rfl
theorem SrcC_sc0_11 {a0 a1 a2 a3 a4 a5 a6 a7 a8 a9 a10 c0 c1 c2 c3 c4 c5 c6 c7 c8 c9 c10:AV}{l:List AV}:setCells (a0::a1::a2::a3::a4::a5::a6::a7::a8::a9::a10::l) 0 [c0,c1,c2,c3,c4,c5,c6,c7,c8,c9,c10]=c0::c1::c2::c3::c4::c5::c6::c7::c8::c9::c10::l:=rfl
theorem SrcC_tk0_11 {a0 a1 a2 a3 a4 a5 a6 a7 a8 a9 a10:AV}{l:List AV}:((a0::a1::a2::a3::a4::a5::a6::a7::a8::a9::a10::l).drop 0).take 11=[a0,a1,a2,a3,a4,a5,a6,a7,a8,a9,a10]:=rfl
theorem SrcC_tk_2 {a0 a1:AV}{l:List AV}:(a0::a1::l).take 2=[a0,a1]:=rfl
theorem SrcC_sc0_2 {a0 a1 c0 c1:AV}{l:List AV}:setCells (a0::a1::l) 0 [c0,c1]=c0::c1::l:=rfl
theorem SrcC_tk0_2 {a0 a1:AV}{l:List AV}:((a0::a1::l).drop 0).take 2=[a0,a1]:=rfl
theorem SrcC_tk0_3 {a0 a1 a2:AV}{l:List AV}:((a0::a1::a2::l).drop 0).take 3=[a0,a1,a2]:=rfl
end
def c43:AC:=(.seq (.reg [Oo 1 (.box 48 11 (.tmp 0)),Oo 2 (.mv (Ci 0))]) (.seq (.block 0 (.seq (.reg [Fa 6 0 1,Ld 7 6,Oo 8 (.call (.func 80) [(.tmp 7)]),Oo 9 (.un .not (.tmp 8)),Mv 10 9,Of 11 10 (.fa 10 (.tmp 1)),Of 12 10 (.load false 1 (.tmp 11)),Of 13 10 (.call (.func 81) [(.tmp 12)]),Of 14 10 (.un .not (.tmp 13)),Oo 15 (.pick (.tmp 10) (.const (.bool true)) (.tmp 14)),Mv 5 15]) (.cond (.tmp 5) (.seq (.reg [Oo 2 (.mv (Ci 1))]) .ret) (.seq (.reg [Fa 17 1 1,Ld 18 17,Oo 19 (.bin .lss (.tmp 18) (Ci 1900)),Mv 20 19,Of 21 20 (.fa 1 (.tmp 1)),Of 22 20 (.load false 1 (.tmp 21)),Of 23 20 (.fa 2 (.tmp 1)),Of 24 20 (.load false 1 (.tmp 23)),Of 25 20 (.bin .gtr (.tmp 22) (.tmp 24)),Oo 26 (.pick (.tmp 20) (.const (.bool true)) (.tmp 25)),Mv 27 26,Of 28 27 (.fa 2 (.tmp 1)),Of 29 27 (.load false 1 (.tmp 28)),Of 30 27 (.bin .gtr (.tmp 29) (Ci 2100)),Oo 31 (.pick (.tmp 27) (.const (.bool true)) (.tmp 30)),Mv 32 31,Of 33 32 (.fa 3 (.tmp 1)),Of 34 32 (.load false 1 (.tmp 33)),Of 35 32 (.call (.func 82) [(.tmp 34),(Ci 1),(Ci 12)]),Of 36 32 (.un .not (.tmp 35)),Oo 37 (.pick (.tmp 32) (.const (.bool true)) (.tmp 36)),Mv 16 37]) (.cond (.tmp 16) (.seq (.reg [Oo 2 (.mv (Ci 3))]) .ret) .skip))))) (.seq (.seq (.reg [Fa 39 3 1,Ld 40 39,Fa 41 4 1,Oo 42 (.load true 3 (.tmp 41)),Oo 43 (.call (.func 83) [(Ci 2001),(.tmp 40),(.tmp 42)]),Mv 38 43,Ex 44 38 0,Ex 45 38 1,Oo 3 (.new 60 3 [(iv 0),(iv 0),(iv 0)]),⟨none,none,(.store 3 (.tmp 3) (.tmp 44))⟩,Mv 4 45]) (.seq (.reg [Mv 46 4,Oo 47 (.bin .neq (.tmp 46) (Ci 0))]) (.cond (.tmp 47) (.seq (.reg [Mv 48 4,Mv 2 48]) .ret) .skip))) (.seq (.block 1 (.seq (.reg [Fa 50 7 1,Ld 51 50,Oo 52 (.call (.func 82) [(.tmp 51),(Ci 0),(Ci 172800)]),Oo 53 (.un .not (.tmp 52)),Mv 49 53]) (.cond (.tmp 49) (.seq (.reg [Oo 2 (.mv (Ci 3))]) .ret) (.seq (.reg [Fa 55 8 1,Ld 56 55,Oo 57 (.call (.func 84) [(.tmp 56),(.const (.bool true))]),Oo 58 (.un .not (.tmp 57)),Mv 54 58]) (.cond (.tmp 54) (.seq (.reg [Oo 2 (.mv (Ci 7))]) .ret) (.seq (.reg [Fa 60 9 1,Ld 61 60,Oo 62 (.call (.func 82) [(.tmp 61),(Ci 0),(Ci 10800)]),Oo 63 (.un .not (.tmp 62)),Mv 59 63]) (.cond (.tmp 59) (.seq (.reg [Oo 2 (.mv (Ci 3))]) .ret) .skip))))))) (.seq (.reg [Oo 2 (.mv (Ci 0))]) .ret)))))
theorem k43:compF Tryz.prog 43=some ⟨c43,[(.tmp 2)],64⟩:=by kernel_rfl
def c47:AC:=(.seq (.reg [Oo 1 (.box 55 2 (.tmp 0)),Oo 2 (.mv (Ci 0))]) (.seq (.seq (.reg [Fa 3 0 1,Ld 4 3,Oo 5 (.call (.func 80) [(.tmp 4)]),Oo 6 (.un .not (.tmp 5)),Mv 7 6,Of 8 7 (.fa 1 (.tmp 1)),Of 9 7 (.load false 1 (.tmp 8)),Of 10 7 (.call (.func 80) [(.tmp 9)]),Of 11 7 (.un .not (.tmp 10)),Oo 12 (.pick (.tmp 7) (.const (.bool true)) (.tmp 11))]) (.cond (.tmp 12) (.seq (.reg [Oo 2 (.mv (Ci 1))]) .ret) .skip)) (.seq (.reg [Oo 2 (.mv (Ci 0))]) .ret)))
theorem k47:compF Tryz.prog 47=some ⟨c47,[(.tmp 2)],13⟩:=by kernel_rfl
def c85:AC:=(.seq (.reg [Oo 2 (.box 64 10 (.tmp 0)),Oo 4 (.mv (Ci 0))]) (.seq (.block 0 (.seq (.reg [Fa 8 1 2,Ld 9 8,Oo 10 (.bin .neq (.tmp 9) (.const (.string ⟨#[]⟩))),Mv 11 10,Ot 12 11 (.fa 1 (.tmp 2)),Ot 13 11 (.load false 1 (.tmp 12)),Ot 14 11 (.call (.func 80) [(.tmp 13)]),Ot 15 11 (.un .not (.tmp 14)),Oo 16 (.pick (.tmp 11) (.tmp 15) (.const (.bool false))),Mv 17 16,Of 18 17 (.fa 3 (.tmp 2)),Of 19 17 (.load false 1 (.tmp 18)),Of 20 17 (.call (.func 126) [(.tmp 19)]),Of 21 17 (.un .not (.tmp 20)),Oo 22 (.pick (.tmp 17) (.const (.bool true)) (.tmp 21)),Mv 7 22]) (.cond (.tmp 7) (.seq (.reg [Oo 4 (.mv (Ci 1))]) .ret) (.seq (.reg [Fa 24 0 2,Ld 25 24,Oo 26 (.call (.func 82) [(.tmp 25),(.const (.int .i64 (-64800))),(Ci 64800)]),Oo 27 (.un .not (.tmp 26)),Mv 28 27,Of 29 28 (.fa 2 (.tmp 2)),Of 30 28 (.load false 1 (.tmp 29)),Of 31 28 (.call (.func 82) [(.tmp 30),(Ci 0),(Ci 10800)]),Of 32 28 (.un .not (.tmp 31)),Oo 33 (.pick (.tmp 28) (.const (.bool true)) (.tmp 32)),Mv 23 33]) (.cond (.tmp 23) (.seq (.reg [Oo 4 (.mv (Ci 3))]) .ret) (.seq (.reg [Fa 35 1 2,Ld 36 35,Oo 37 (.bin .neq (.tmp 36) (.const (.string ⟨#[]⟩))),Mv 38 37,Ot 39 38 (.fa 2 (.tmp 2)),Ot 40 38 (.load false 1 (.tmp 39)),Ot 41 38 (.bin .neq (.tmp 40) (Ci 0)),Oo 42 (.pick (.tmp 38) (.tmp 41) (.const (.bool false))),Mv 34 42]) (.cond (.tmp 34) (.seq (.reg [Oo 4 (.mv (Ci 1))]) .ret) (.seq (.reg [Fa 44 4 2,Ld 45 44,Mv 46 1,Oo 47 (.eqb true (.tmp 45) (.tmp 46)),Mv 43 47]) (.cond (.tmp 43) (.seq (.reg [Oo 4 (.mv (Ci 4))]) .ret) (.seq (.reg [Fa 49 4 2,Ld 50 49,Mv 48 50]) (.cond (.tmp 48) (.seq (.seq (.reg [Fa 51 5 2,Oo 52 (.load true 5 (.tmp 51)),Oo 53 (.build [(iv 0),(iv 0),(iv 0),(iv 0),(iv 0)] []),Oo 54 (.eqs true [.int,.int,.int,.int,.int] (.tmp 52) (.tmp 53))]) (.cond (.tmp 54) (.seq (.reg [Oo 4 (.mv (Ci 1))]) .ret) .skip)) (.seq (.reg [Oo 4 (.mv (Ci 0))]) .ret)) .skip))))))))))) (.seq (.seq (.reg [Fa 56 5 2,Fa 57 0 56,Oo 58 (.load true 3 (.tmp 57)),Oo 59 (.call (.func 127) [(.tmp 58)]),Mv 55 59,Ex 60 55 0,Ex 61 55 1,Mv 5 60,Mv 6 61]) (.seq (.reg [Mv 62 6,Oo 63 (.bin .neq (.tmp 62) (Ci 0))]) (.cond (.tmp 63) (.seq (.reg [Mv 64 6,Mv 4 64]) .ret) .skip))) (.seq (.block 1 (.seq (.reg [Fa 66 5 2,Fa 67 3 66,Ld 68 67,Oo 69 (.call (.func 82) [(.tmp 68),(Ci 0),(Ci 172800)]),Oo 70 (.un .not (.tmp 69)),Mv 65 70]) (.cond (.tmp 65) (.seq (.reg [Oo 4 (.mv (Ci 3))]) .ret) (.seq (.reg [Fa 72 5 2,Fa 73 4 72,Ld 74 73,Oo 75 (.call (.func 84) [(.tmp 74),(.const (.bool false))]),Oo 76 (.un .not (.tmp 75)),Mv 71 76]) (.cond (.tmp 71) (.seq (.reg [Oo 4 (.mv (Ci 7))]) .ret) .skip))))) (.seq (.reg [Oo 4 (.mv (Ci 0))]) .ret)))))
theorem k85:compF Tryz.prog 85=some ⟨c85,[(.tmp 4)],77⟩:=by kernel_rfl
def c45:AC:=(.seq (.reg [Oo 1 (.box 52 2 (.tmp 0)),Oo 2 (.mv (Ci 0))]) (.seq (.seq (.reg [Fa 6 0 1,Ld 7 6,Oo 8 (.call (.func 80) [(.tmp 7)]),Oo 9 (.un .not (.tmp 8)),Mv 10 9,Of 11 10 (.fa 1 (.tmp 1)),Of 12 10 (.load false 1 (.tmp 11)),Of 13 10 (.len false (.tmp 12)),Of 14 10 (.bin .eql (.tmp 13) (Ci 0)),Oo 15 (.pick (.tmp 10) (.const (.bool true)) (.tmp 14))]) (.cond (.tmp 15) (.seq (.reg [Oo 2 (.mv (Ci 1))]) .ret) .skip)) (.seq (.seq (.reg [Fa 16 1 1,Ld 17 16,Oo 18 (.len false (.tmp 17)),Oo 19 (.mv (Ci 0))]) (.block 0 (.loop (.seq (.reg [Oo 20 (.bin .lss (.tmp 19) (.tmp 18))]) (.seq (.cond (.tmp 20) .skip (.exit 0)) (.seq (.block 1 (.seq (.reg [Mv 21 19,Oo 22 (.ia 10 (.tmp 17) (.tmp 19)),Oo 23 (.load true 10 (.tmp 22)),Oo 4 (.new 64 10 [(iv 0),Ss,(iv 0),Ss,(.v (.bool false)),(iv 0),(iv 0),(iv 0),(iv 0),(iv 0)]),Mv 3 21,⟨none,none,(.store 10 (.tmp 4) (.tmp 23))⟩]) (.seq (.reg [Oo 24 (.load true 10 (.tmp 4)),Mv 25 3,Fa 26 1 1,Ld 27 26,Oo 28 (.len false (.tmp 27)),Oo 29 (.bin .sub (.tmp 28) (Ci 1)),Oo 30 (.bin .eql (.tmp 25) (.tmp 29)),Oo 31 (.call (.func 85) [(.tmp 24),(.tmp 30)]),Mv 5 31]) (.seq (.reg [Mv 32 5,Oo 33 (.bin .neq (.tmp 32) (Ci 0))]) (.cond (.tmp 33) (.seq (.reg [Mv 34 5,Mv 2 34]) .ret) .skip))))) (.reg [Oo 35 (.bin .add (.tmp 19) (Ci 1)),Mv 19 35]))))))) (.seq (.reg [Oo 2 (.mv (Ci 0))]) .ret))))
theorem k45:compF Tryz.prog 45=some ⟨c45,[(.tmp 2)],36⟩:=by kernel_rfl
def c42:AC:=(.seq (.reg [Oo 4 (.mv (Ci 0))]) (.seq (.seq (.reg [Mv 8 0,Oo 9 (.len false (.tmp 8)),Oo 10 (.mv (Ci 0))]) (.block 0 (.loop (.seq (.reg [Oo 11 (.bin .lss (.tmp 10) (.tmp 9))]) (.seq (.cond (.tmp 11) .skip (.exit 0)) (.seq (.block 1 (.seq (.reg [Oo 12 (.ia 11 (.tmp 8) (.tmp 10)),Oo 13 (.load true 11 (.tmp 12)),Oo 6 (.new 48 11 [Ss,(iv 0),(iv 0),(iv 0),(iv 0),(iv 0),(iv 0),(iv 0),(iv 0),(iv 0),Ss]),⟨none,none,(.store 11 (.tmp 6) (.tmp 13))⟩]) (.seq (.reg [Mv 14 1,Oo 15 (.load true 11 (.tmp 6)),Oo 16 (.call (.tmp 14) [(.tmp 15)]),Mv 7 16]) (.seq (.reg [Mv 17 7,Oo 18 (.bin .neq (.tmp 17) (Ci 0))]) (.cond (.tmp 18) (.seq (.reg [Mv 19 7,Mv 4 19]) .ret) .skip))))) (.reg [Oo 20 (.bin .add (.tmp 10) (Ci 1)),Mv 10 20]))))))) (.seq (.reg [Oo 4 (.mv (Ci 0))]) .ret)))
theorem k42:compF Tryz.prog 42=some ⟨c42,[(.tmp 4)],21⟩:=by kernel_rfl
def c44:AC:=(.seq (.reg [Oo 4 (.mv (Ci 0))]) (.seq (.seq (.reg [Mv 8 0,Oo 9 (.len false (.tmp 8)),Oo 10 (.mv (Ci 0))]) (.block 0 (.loop (.seq (.reg [Oo 11 (.bin .lss (.tmp 10) (.tmp 9))]) (.seq (.cond (.tmp 11) .skip (.exit 0)) (.seq (.block 1 (.seq (.reg [Oo 12 (.ia 2 (.tmp 8) (.tmp 10)),Oo 13 (.load true 2 (.tmp 12)),Oo 6 (.new 52 2 [Ss,(.sl 0 0 true [])]),⟨none,none,(.store 2 (.tmp 6) (.tmp 13))⟩]) (.seq (.reg [Mv 14 1,Oo 15 (.load true 2 (.tmp 6)),Oo 16 (.call (.tmp 14) [(.tmp 15)]),Mv 7 16]) (.seq (.reg [Mv 17 7,Oo 18 (.bin .neq (.tmp 17) (Ci 0))]) (.cond (.tmp 18) (.seq (.reg [Mv 19 7,Mv 4 19]) .ret) .skip))))) (.reg [Oo 20 (.bin .add (.tmp 10) (Ci 1)),Mv 10 20]))))))) (.seq (.reg [Oo 4 (.mv (Ci 0))]) .ret)))
theorem k44:compF Tryz.prog 44=some ⟨c44,[(.tmp 4)],21⟩:=by kernel_rfl
def c46:AC:=(.seq (.reg [Oo 4 (.mv (Ci 0))]) (.seq (.seq (.reg [Mv 8 0,Oo 9 (.len false (.tmp 8)),Oo 10 (.mv (Ci 0))]) (.block 0 (.loop (.seq (.reg [Oo 11 (.bin .lss (.tmp 10) (.tmp 9))]) (.seq (.cond (.tmp 11) .skip (.exit 0)) (.seq (.block 1 (.seq (.reg [Oo 12 (.ia 2 (.tmp 8) (.tmp 10)),Oo 13 (.load true 2 (.tmp 12)),Oo 6 (.new 55 2 [Ss,Ss]),⟨none,none,(.store 2 (.tmp 6) (.tmp 13))⟩]) (.seq (.reg [Mv 14 1,Oo 15 (.load true 2 (.tmp 6)),Oo 16 (.call (.tmp 14) [(.tmp 15)]),Mv 7 16]) (.seq (.reg [Mv 17 7,Oo 18 (.bin .neq (.tmp 17) (Ci 0))]) (.cond (.tmp 18) (.seq (.reg [Mv 19 7,Mv 4 19]) .ret) .skip))))) (.reg [Oo 20 (.bin .add (.tmp 10) (Ci 1)),Mv 10 20]))))))) (.seq (.reg [Oo 4 (.mv (Ci 0))]) .ret)))
theorem k46:compF Tryz.prog 46=some ⟨c46,[(.tmp 4)],21⟩:=by kernel_rfl
def c41:AC:=(.seq (.reg [Oo 1 (.box 26 3 (.tmp 0)),Oo 2 (.mv (.const (.bool false)))]) (.seq (.seq (.reg [Fa 5 1 1,Ld 6 5,Oo 7 (.len false (.tmp 6)),Oo 8 (.mv (Ci 0))]) (.block 0 (.loop (.seq (.reg [Oo 9 (.bin .lss (.tmp 8) (.tmp 7))]) (.seq (.cond (.tmp 9) .skip (.exit 0)) (.seq (.block 1 (.seq (.reg [Oo 10 (.ia 2 (.tmp 6) (.tmp 8)),Oo 11 (.load true 2 (.tmp 10)),Oo 4 (.new 52 2 [Ss,(.sl 0 0 true [])]),⟨none,none,(.store 2 (.tmp 4) (.tmp 11))⟩]) (.seq (.reg [Fa 12 1 4,Ld 13 12,Oo 14 (.len false (.tmp 13)),Oo 15 (.bin .gtr (.tmp 14) (Ci 8))]) (.cond (.tmp 15) (.seq (.reg [Oo 2 (.mv (.const (.bool true)))]) .ret) .skip)))) (.reg [Oo 16 (.bin .add (.tmp 8) (Ci 1)),Mv 8 16]))))))) (.seq (.reg [Fa 17 0 1,Ld 18 17,Oo 19 (.len false (.tmp 18)),Oo 20 (.bin .gtr (.tmp 19) (Ci 40)),Mv 21 20,Of 22 21 (.fa 1 (.tmp 1)),Of 23 21 (.load false 1 (.tmp 22)),Of 24 21 (.len false (.tmp 23)),Of 25 21 (.bin .gtr (.tmp 24) (Ci 20)),Oo 26 (.pick (.tmp 21) (.const (.bool true)) (.tmp 25)),Mv 27 26,Of 28 27 (.fa 2 (.tmp 1)),Of 29 27 (.load false 1 (.tmp 28)),Of 30 27 (.len false (.tmp 29)),Of 31 27 (.bin .gtr (.tmp 30) (Ci 20)),Oo 32 (.pick (.tmp 27) (.const (.bool true)) (.tmp 31)),Mv 2 32]) .ret)))
theorem k41:compF Tryz.prog 41=some ⟨c41,[(.tmp 2)],33⟩:=by kernel_rfl
def c17:AC:=(.seq (.reg [Oo 1 (.box 26 3 (.tmp 0)),Oo 2 (.mv (Ci 0))]) (.seq (.seq (.reg [Oo 4 (.load true 3 (.tmp 1)),Oo 5 (.call (.func 41) [(.tmp 4)])]) (.cond (.tmp 5) (.seq (.reg [Oo 2 (.mv (Ci 2))]) .ret) .skip)) (.seq (.reg [Fa 6 0 1,Ld 7 6,Oo 8 (.call (.func 42) [(.tmp 7),(.func 43)]),Mv 3 8]) (.seq (.seq (.reg [Mv 9 3,Oo 10 (.bin .eql (.tmp 9) (Ci 0))]) (.cond (.tmp 10) (.reg [Fa 11 1 1,Ld 12 11,Oo 13 (.call (.func 44) [(.tmp 12),(.func 45)]),Mv 3 13]) .skip)) (.seq (.seq (.reg [Mv 14 3,Oo 15 (.bin .eql (.tmp 14) (Ci 0))]) (.cond (.tmp 15) (.reg [Fa 16 2 1,Ld 17 16,Oo 18 (.call (.func 46) [(.tmp 17),(.func 47)]),Mv 3 18]) .skip)) (.seq (.reg [Mv 19 3,Mv 2 19]) .ret))))))
theorem k17:compF Tryz.prog 17=some ⟨c17,[(.tmp 2)],20⟩:=by kernel_rfl
def ruleE (r:Rul):Int :=
 if ¬(nameB r.1=true∧lettersB r.2.2.2.2.2.2.2.2=true) then 1
 else if r.2.1<1900∨r.2.1>r.2.2.1∨r.2.2.1>2100∨¬wi r.2.2.2.1 1 12=true then 3
 else if (onV 2001 r.2.2.2.1 r.2.2.2.2.1.1 r.2.2.2.2.1.2.1 r.2.2.2.2.1.2.2).2≠0 then (onV 2001 r.2.2.2.1 r.2.2.2.2.1.1 r.2.2.2.2.1.2.1 r.2.2.2.2.1.2.2).2
 else if ¬wi r.2.2.2.2.2.1 0 172800=true then 3
 else if ¬clkB r.2.2.2.2.2.2.1 true=true then 7
 else if ¬wi r.2.2.2.2.2.2.2.1 0 10800=true then 3 else 0
def linkE (l:Lnk):Int:=if ¬(nameB l.1=true∧nameB l.2=true) then 1 else 0
theorem link_b {a b:ByteArray}{h:AH}(ha:a.size≤maxLen) (hb:b.size≤maxLen):ACalls Tryz.prog 47 [.agg [sv a,sv b]] h fun x h'=>h'=h∧x = .ret (iv (linkE (a,b))):=by
 refine tI' k47 fun N hn hlt hlA hbd=>?_
 simp only [tA',AV.bdL,AV.bd,and_true,true_and] at hbd ⊢
 refine wr'<|E' (e_box (cvl lk0 rfl) rfl (hl0 hn) ha0) pt1<|mv' lki pt2<|sn'<|w_seq<|wr'<|V' (v_fap0 lk1) pt3<|V' (v_loadp lk3 (hga hn rfl) gt0) pt4<|s_callp (mp1 lk4 mp0) (name_a ha) pt5<|V' (v_notB lk5) pt6<|mv' lk6 pt7<|?_
 refine s_splitB gt7 pt7 pt7 (fun hg7=>?_) (fun hg7=>?_)
 ·refine s_no gt7 pt8<|s_no gt7 pt9<|s_no gt7 pt10<|s_no gt7 pt11<|V' (v_pickT lk7 lkb) pt12<|sn'<|w_condT lk12<|wr'<|mv' lki pt2<|sn'<|w_rets<|?_
  refine r_thn<|w_ret (rs1 (rr_t gt2))<|rT'<|?_
  rw [show linkE (a,b)=1 by unfold linkE;simp_all]
 refine s_do gt7<|V' (v_fap0 lk1) pt8<|s_do gt7<|V' (v_loadp lk8 (hga hn rfl) gt1) pt9<|s_do gt7<|s_callp (mp1 lk9 mp0) (name_a hb) pt10<|s_do gt7<|V' (v_notB lk10) pt11<|V' (v_pickF lk7 lk11) pt12<|sn'<|?_
 refine w_condB lk12 (fun hc1=>?_) (fun hc1=>?_)
 ·refine wr'<|mv' lki pt2<|sn'<|w_rets<|r_thn<|w_ret (rs1 (rr_t gt2))<|rT'<|?_
  rw [show linkE (a,b)=1 by unfold linkE;simp_all]
 refine w_skip<|n_seq<|wr'<|mv' lki pt2<|sn'<|w_rets<|w_ret (rs1 (rr_t gt2))<|rT'<|?_
 rw [show linkE (a,b)=0 by unfold linkE;simp_all]
set_option maxHeartbeats 1000000 in
theorem rule_b {nm lt:ByteArray}{f t m k w n a c s:Int}{h:AH}(hn:nm.size≤maxLen) (hl:lt.size≤maxLen):ACalls Tryz.prog 43 [.agg [sv nm,iv f,iv t,iv m,iv k,iv w,iv n,iv a,iv c,iv s,sv lt]] h fun x h'=>h'=h∧x = .ret (iv (ruleE (nm,f,t,m,(k,w,n),a,c,s,lt))):=by
 have hnm:=hn
 clear hn
 refine tI' k43 fun N hn hlt hlA hbd=>?_
 simp only [tA',AV.bdL,AV.bd,and_true,true_and] at hbd ⊢
 refine wr'<|E' (e_box (cvl lk0 rfl) rfl (hl0 hn) ha0) pt1<|mv' lki pt2<|sn'<|w_seq<|w_block<|wr'<|V' (v_fap0 lk1) pt6<|V' (v_loadp lk6 (hga hn rfl) gt0) pt7<|s_callp (mp1 lk7 mp0) (name_a hnm) pt8<|V' (v_notB lk8) pt9<|?_
 refine mv' lk9 pt10 ?_
 refine s_splitB gt10 pt10 pt10 (fun hg10=>?_) (fun hg10=>?_)
 ·refine s_no gt10 pt11<|s_no gt10 pt12<|s_no gt10 pt13<|s_no gt10 pt14<|V' (v_pickT lk10 lkb) pt15<|mv' lk15 pt5<|sn'<|w_condT lk5<|wr'<|mv' lki pt2<|sn'<|?_
  refine w_rets<|r_blk<|r_thn<|w_ret (rs1 (rr_t gt2))<|rT'<|?_
  rw [show ruleE (nm,f,t,m,(k,w,n),a,c,s,lt)=1 by unfold ruleE;simp_all]
 refine s_do gt10<|V' (v_fap0 lk1) pt11<|s_do gt10<|V' (v_loadp lk11 (hga hn rfl) gt10) pt12<|s_do gt10<|s_callp (mp1 lk12 mp0) (letters_a hl) pt13<|s_do gt10<|V' (v_notB lk13) pt14<|V' (v_pickF lk10 lk14) pt15<|mv' lk15 pt5<|sn'<|?_
 refine w_condB lk5 (fun hc1=>?_) (fun hc1=>?_)
 ·refine wr'<|mv' lki pt2<|sn'<|w_rets<|r_blk<|r_thn<|w_ret (rs1 (rr_t gt2))<|rT'<|?_
  rw [show ruleE (nm,f,t,m,(k,w,n),a,c,s,lt)=1 by unfold ruleE;simp_all]
 have h1:nameB nm=true∧lettersB lt=true:=by simp_all
 have hR:ruleE (nm,f,t,m,(k,w,n),a,c,s,lt)=if f<1900∨f>t∨t>2100∨¬wi m 1 12=true then 3 else if (onV 2001 m k w n).2≠0 then (onV 2001 m k w n).2 else if ¬wi a 0 172800=true then 3 else if ¬clkB c true=true then 7 else if ¬wi s 0 10800=true then 3 else 0:=if_neg (by simp [h1])
 refine wr'<|V' (v_fap0 lk1) pt17<|V' (v_loadp lk17 (hga hn rfl) gt1) pt18<|V' (v_lss lk18 lki) pt19<|mv' lk19 pt20<|?_
 refine sp' gt20 pt20 pt20 (fun hg20=>?_) (fun hg20=>?_)
 ·rw [if_pos (.inl (by omega))] at hR
  refine s_no gt20 pt21<|s_no gt20 pt22<|s_no gt20 pt23<|s_no gt20 pt24<|s_no gt20 pt25<|V' (v_pickT lk20 lkb) pt26<|mv' lk26 pt27<|s_no gt27 pt28<|s_no gt27 pt29<|s_no gt27 pt30<|V' (v_pickT lk27 lkb) pt31<|mv' lk31 pt32<|s_no gt32 pt33<|s_no gt32 pt34<|?_
  refine s_no gt32 pt35<|s_no gt32 pt36<|V' (v_pickT lk32 lkb) pt37<|mv' lk37 pt16<|sn'<|w_condT lk16<|wr'<|mv' lki pt2<|sn'<|w_rets<|r_blk<|?_
  refine r_thn<|w_ret (rs1 (rr_t gt2))<|rT'<|?_
  rw [hR]
 refine s_do gt20<|V' (v_fap0 lk1) pt21<|s_do gt20<|V' (v_loadp lk21 (hga hn rfl) gt1) pt22<|s_do gt20<|V' (v_fap0 lk1) pt23<|s_do gt20<|V' (v_loadp lk23 (hga hn rfl) gt2) pt24<|s_do gt20<|V' (v_gtr lk22 lk24) pt25<|V' (v_pickF lk20 lk25) pt26<|mv' lk26 pt27<|?_
 refine sp' gt27 pt27 pt27 (fun hg27=>?_) (fun hg27=>?_)
 ·rw [if_pos (.inr (.inl (by omega)))] at hR
  refine s_no gt27 pt28<|s_no gt27 pt29<|s_no gt27 pt30<|V' (v_pickT lk27 lkb) pt31<|mv' lk31 pt32<|s_no gt32 pt33<|s_no gt32 pt34<|s_no gt32 pt35<|s_no gt32 pt36<|V' (v_pickT lk32 lkb) pt37<|mv' lk37 pt16<|sn'<|w_condT lk16<|?_
  refine wr'<|mv' lki pt2<|sn'<|w_rets<|r_blk<|r_thn<|w_ret (rs1 (rr_t gt2))<|rT'<|?_
  rw [hR]
 refine s_do gt27<|V' (v_fap0 lk1) pt28<|s_do gt27<|V' (v_loadp lk28 (hga hn rfl) gt2) pt29<|s_do gt27<|V' (v_gtr lk29 lki) pt30<|V' (v_pickF lk27 lk30) pt31<|mv' lk31 pt32<|?_
 refine sp' gt32 pt32 pt32 (fun hg32=>?_) (fun hg32=>?_)
 ·rw [if_pos (.inr (.inr (.inl (by omega))))] at hR
  refine s_no gt32 pt33<|s_no gt32 pt34<|s_no gt32 pt35<|s_no gt32 pt36<|V' (v_pickT lk32 lkb) pt37<|mv' lk37 pt16<|sn'<|w_condT lk16<|wr'<|mv' lki pt2<|sn'<|?_
  refine w_rets<|r_blk<|r_thn<|w_ret (rs1 (rr_t gt2))<|rT'<|?_
  rw [hR]
 refine s_do gt32<|V' (v_fap0 lk1) pt33<|s_do gt32<|V' (v_loadp lk33 (hga hn rfl) gt3) pt34<|s_do gt32<|s_callp (mp1 lk34 (mp1 lki (mp1 lki mp0))) (swithin_a) pt35<|s_do gt32<|V' (v_notB lk35) pt36<|V' (v_pickF lk32 lk36) pt37<|mv' lk37 pt16<|sn'<|?_
 refine w_condB lk16 (fun hc2=>?_) (fun hc2=>?_)
 ·rw [if_pos (.inr (.inr (.inr (by simpa using hc2))))] at hR
  refine wr'<|mv' lki pt2<|sn'<|w_rets<|r_blk<|r_thn<|w_ret (rs1 (rr_t gt2))<|rT'<|?_
  rw [hR]
 have hw2:wi m 1 12=true:=by simpa using hc2
 have h2:¬(f<1900∨f>t∨t>2100∨¬wi m 1 12=true):=by rw [hw2];simp;omega
 rw [if_neg h2] at hR
 refine w_skip<|n_blk<|n_seq<|w_seq<|wr'<|V' (v_fap0 lk1) pt39<|V' (v_loadp lk39 (hga hn rfl) gt3) pt40<|V' (v_fap0 lk1) pt41<|V' (v_loadpA lk41 (hga hn rfl) SrcC_tk4_3 rfl) pt42<|s_callp (mp1 lki (mp1 lk40 (mp1 lk42 mp0))) (on_a) pt43<|mv' lk43 pt38<|V' (v_ext lk38 gt0) pt44<|V' (v_ext lk38 gt1) pt45<|?_
 refine E' (e_new (hl1 hn) ha1) pt3<|E' (e_store lk3 (cvl lk44 rfl) (hga hn rfl) rfl (nb' rfl) rfl SrcC_sc0_3 (hs1 hn)) ptn<|mv' lk45 pt4<|sn'<|wr'<|mv' lk4 pt46<|V' (v_neq lk46 lki) pt47<|sn'<|?_
 refine cd' lk47 (fun hc3=>?_) (fun hc3=>?_)
 ·rw [if_pos hc3] at hR
  refine wr'<|mv' lk4 pt48<|mv' lk48 pt2<|sn'<|w_rets<|r_thn<|w_ret (rs1 (rr_t gt2))<|rT'<|?_
  rw [hR]
 rw [if_neg hc3] at hR
 refine w_skip<|n_seq<|w_seq<|w_block<|wr'<|V' (v_fap0 lk1) pt50<|V' (v_loadp lk50 (hga hn rfl) gt7) pt51<|s_callp (mp1 lk51 (mp1 lki (mp1 lki mp0))) (swithin_a) pt52<|V' (v_notB lk52) pt53<|mv' lk53 pt49<|sn'<|?_
 refine w_condB lk49 (fun hc4=>?_) (fun hc4=>?_)
 ·rw [if_pos (by simpa using hc4)] at hR
  refine wr'<|mv' lki pt2<|sn'<|w_rets<|r_blk<|r_thn<|w_ret (rs1 (rr_t gt2))<|rT'<|?_
  rw [hR]
 rw [if_neg (by simpa using hc4)] at hR
 refine wr'<|V' (v_fap0 lk1) pt55<|V' (v_loadp lk55 (hga hn rfl) gt8) pt56<|s_callp (mp1 lk56 (mp1 lkb mp0)) (clock_a) pt57<|V' (v_notB lk57) pt58<|mv' lk58 pt54<|sn'<|?_
 refine w_condB lk54 (fun hc5=>?_) (fun hc5=>?_)
 ·rw [if_pos (by simpa using hc5)] at hR
  refine wr'<|mv' lki pt2<|sn'<|w_rets<|r_blk<|r_thn<|w_ret (rs1 (rr_t gt2))<|rT'<|?_
  rw [hR]
 rw [if_neg (by simpa using hc5)] at hR
 refine wr'<|V' (v_fap0 lk1) pt60<|V' (v_loadp lk60 (hga hn rfl) gt9) pt61<|s_callp (mp1 lk61 (mp1 lki (mp1 lki mp0))) (swithin_a) pt62<|V' (v_notB lk62) pt63<|mv' lk63 pt59<|sn'<|?_
 refine w_condB lk59 (fun hc6=>?_) (fun hc6=>?_)
 ·rw [if_pos (by simpa using hc6)] at hR
  refine wr'<|mv' lki pt2<|sn'<|w_rets<|r_blk<|r_thn<|w_ret (rs1 (rr_t gt2))<|rT'<|?_
  rw [hR]
 rw [if_neg (by simpa using hc6)] at hR
 refine w_skip<|n_blk<|n_seq<|wr'<|mv' lki pt2<|sn'<|w_rets<|w_ret (rs1 (rr_t gt2))<|rT'<|?_
 rw [hR]
theorem cdays_a {y m d:Int}{h:AH}:ACalls Tryz.prog 127 [.agg [iv y,iv m,iv d]] h fun x h'=>h'=h∧x = .ret (.tup [iv (if isDate y m d=true then num y m d else 0),iv (if isDate y m d=true then 0 else 3)]):=days_a
def eraE (sh:Int) (rl:ByteArray) (sa:Int) (fm:ByteArray) (op:Bool) (y m d a c:Int) (last:Bool):Int :=
 if (rl≠⟨#[]⟩∧¬nameB rl=true)∨¬formatB fm=true then 1
 else if ¬wi sh (-64800) 64800=true∨¬wi sa 0 10800=true then 3
 else if rl≠⟨#[]⟩∧sa≠0 then 1
 else if op≠last then 4
 else if op=true then (if ¬(y=0∧m=0∧d=0∧a=0∧c=0) then 1 else 0)
 else if ¬isDate y m d=true then 3
 else if ¬wi a 0 172800=true then 3
 else if ¬clkB c false=true then 7 else 0
set_option maxHeartbeats 2000000 in
theorem era_b {rl fm:ByteArray}{sh sa y m d a c:Int}{op last:Bool}{h:AH}(hrl:rl.size≤maxLen) (hfm:fm.size≤maxLen):ACalls Tryz.prog 85 [.agg [iv sh,sv rl,iv sa,sv fm,bv op,iv y,iv m,iv d,iv a,iv c],bv last] h fun x h'=>h'=h∧x = .ret (iv (eraE sh rl sa fm op y m d a c last)):=by
 refine tI' k85 fun N hn hlt hlA hbd=>?_
 simp only [tA',AV.bdL,AV.bd,and_true,true_and] at hbd ⊢
 refine wr'<|E' (e_box (cvl lk0 rfl) rfl (hl0 hn) ha0) pt2<|mv' lki pt4<|sn'<|w_seq<|w_block<|wr'<|V' (v_fap0 lk2) pt8<|V' (v_loadp lk8 (hga hn rfl) gt1) pt9<|V' (v_neqS lk9 lks) pt10<|mv' lk10 pt11<|?_
 refine sp' gt11 pt11 pt11 (fun hg11=>?_) (fun hg11=>?_)
 ·refine s_do gt11<|V' (v_fap0 lk2) pt12<|s_do gt11<|V' (v_loadp lk12 (hga hn rfl) gt1) pt13<|s_do gt11<|s_callp (mp1 lk13 mp0) (name_a hrl) pt14<|s_do gt11<|V' (v_notB lk14) pt15<|V' (v_pickT lk11 lk15) pt16<|mv' lk16 pt17<|?_
  refine s_splitB gt17 pt17 pt17 (fun hg17=>?_) (fun hg17=>?_)
  ·refine s_no gt17 pt18<|s_no gt17 pt19<|s_no gt17 pt20<|s_no gt17 pt21<|V' (v_pickT lk17 lkb) pt22<|mv' lk22 pt7<|sn'<|w_condT lk7<|wr'<|mv' lki pt4<|sn'<|?_
   refine w_rets<|r_blk<|r_thn<|w_ret (rs1 (rr_t gt4))<|rT'<|?_
   refine ivx ?_;unfold eraE;simp_all
  refine s_do gt17<|V' (v_fap0 lk2) pt18<|s_do gt17<|V' (v_loadp lk18 (hga hn rfl) gt3) pt19<|s_do gt17<|s_callp (mp1 lk19 mp0) (format_a hfm) pt20<|s_do gt17<|V' (v_notB lk20) pt21<|V' (v_pickF lk17 lk21) pt22<|mv' lk22 pt7<|sn'<|?_
  refine w_condB lk7 (fun hc1=>?_) (fun hc1=>?_)
  ·refine wr'<|mv' lki pt4<|sn'<|w_rets<|r_blk<|r_thn<|w_ret (rs1 (rr_t gt4))<|rT'<|?_
   refine ivx ?_;unfold eraE;simp_all
  refine wr'<|V' (v_fap0 lk2) pt24<|V' (v_loadp lk24 (hga hn rfl) gt0) pt25<|s_callp (mp1 lk25 (mp1 lki (mp1 lki mp0))) (swithin_a) pt26<|V' (v_notB lk26) pt27<|mv' lk27 pt28<|?_
  refine s_splitB gt28 pt28 pt28 (fun hg28=>?_) (fun hg28=>?_)
  ·refine s_no gt28 pt29<|s_no gt28 pt30<|s_no gt28 pt31<|s_no gt28 pt32<|V' (v_pickT lk28 lkb) pt33<|mv' lk33 pt23<|sn'<|w_condT lk23<|wr'<|mv' lki pt4<|sn'<|?_
   refine w_rets<|r_blk<|r_thn<|w_ret (rs1 (rr_t gt4))<|rT'<|?_
   refine ivx ?_;unfold eraE;simp_all
  refine s_do gt28<|V' (v_fap0 lk2) pt29<|s_do gt28<|V' (v_loadp lk29 (hga hn rfl) gt2) pt30<|s_do gt28<|s_callp (mp1 lk30 (mp1 lki (mp1 lki mp0))) (swithin_a) pt31<|s_do gt28<|V' (v_notB lk31) pt32<|V' (v_pickF lk28 lk32) pt33<|mv' lk33 pt23<|sn'<|?_
  refine w_condB lk23 (fun hc2=>?_) (fun hc2=>?_)
  ·refine wr'<|mv' lki pt4<|sn'<|w_rets<|r_blk<|r_thn<|w_ret (rs1 (rr_t gt4))<|rT'<|?_
   refine ivx ?_;unfold eraE;simp_all
  refine wr'<|V' (v_fap0 lk2) pt35<|V' (v_loadp lk35 (hga hn rfl) gt1) pt36<|V' (v_neqS lk36 lks) pt37<|mv' lk37 pt38<|?_
  refine sp' gt38 pt38 pt38 (fun hg38=>?_) (fun hg38=>?_)
  ·refine s_do gt38<|V' (v_fap0 lk2) pt39<|s_do gt38<|V' (v_loadp lk39 (hga hn rfl) gt2) pt40<|s_do gt38<|V' (v_neq lk40 lki) pt41<|V' (v_pickT lk38 lk41) pt42<|mv' lk42 pt34<|sn'<|?_
   refine cd' lk34 (fun hc3=>?_) (fun hc3=>?_)
   ·refine wr'<|mv' lki pt4<|sn'<|w_rets<|r_blk<|r_thn<|w_ret (rs1 (rr_t gt4))<|rT'<|?_
    refine ivx ?_;unfold eraE;simp_all
   refine wr'<|V' (v_fap0 lk2) pt44<|V' (v_loadp lk44 (hga hn rfl) gt4) pt45<|mv' lk1 pt46<|V' (v_eqbN lk45 lk46) pt47<|mv' lk47 pt43<|sn'<|?_
   refine cd' lk43 (fun hc4=>?_) (fun hc4=>?_)
   ·refine wr'<|mv' lki pt4<|sn'<|w_rets<|r_blk<|r_thn<|w_ret (rs1 (rr_t gt4))<|rT'<|?_
    refine ivx ?_;unfold eraE;simp_all
   refine wr'<|V' (v_fap0 lk2) pt49<|V' (v_loadp lk49 (hga hn rfl) gt4) pt50<|mv' lk50 pt48<|sn'<|?_
   refine w_condB lk48 (fun hc5=>?_) (fun hc5=>?_)
   ·refine w_seq<|wr'<|V' (v_fap0 lk2) pt51<|V' (v_loadpA lk51 (hga hn rfl) SrcC_tk5_5 rfl) pt52<|V' (v_build SrcC_era_53) pt53<|V' (v_eqsN lk52 lk53 SrcC_eq_iiiii) pt54<|sn'<|?_
    refine cd' lk54 (fun hc6=>?_) (fun hc6=>?_)
    ·refine wr'<|mv' lki pt4<|sn'<|w_rets<|r_thn<|r_blk<|r_thn<|w_ret (rs1 (rr_t gt4))<|rT'<|?_
     refine ivx ?_;unfold eraE;simp_all
    refine w_skip<|n_seq<|wr'<|mv' lki pt4<|sn'<|w_rets<|r_blk<|r_thn<|w_ret (rs1 (rr_t gt4))<|rT'<|?_
    refine ivx ?_;unfold eraE;simp_all
   refine w_skip<|n_blk<|n_seq<|w_seq<|wr'<|V' (v_fap0 lk2) pt56<|V' (v_fap lk56) pt57<|V' (v_loadpA lk57 (hga hn rfl) SrcC_tk5_3 rfl) pt58<|s_callp (mp1 lk58 mp0) (cdays_a) pt59<|mv' lk59 pt55<|V' (v_ext lk55 gt0) pt60<|V' (v_ext lk55 gt1) pt61<|mv' lk60 pt5<|?_
   refine mv' lk61 pt6<|sn'<|wr'<|mv' lk6 pt62<|V' (v_neq lk62 lki) pt63<|sn'<|?_
   refine cd' lk63 (fun hc7=>?_) (fun hc7=>?_)
   ·refine wr'<|mv' lk6 pt64<|mv' lk64 pt4<|sn'<|w_rets<|r_thn<|w_ret (rs1 (rr_t gt4))<|rT'<|?_
    refine ivx ?_;unfold eraE;simp_all
   refine w_skip<|n_seq<|w_seq<|w_block<|wr'<|V' (v_fap0 lk2) pt66<|V' (v_fap lk66) pt67<|V' (v_loadp lk67 (hga hn rfl) gt8) pt68<|s_callp (mp1 lk68 (mp1 lki (mp1 lki mp0))) (swithin_a) pt69<|V' (v_notB lk69) (ptS pt0)<|mv' (lkS lk0) pt65<|sn'<|?_
   refine w_condB lk65 (fun hc8=>?_) (fun hc8=>?_)
   ·refine wr'<|mv' lki pt4<|sn'<|w_rets<|r_blk<|r_thn<|w_ret (rs1 (rr_t gt4))<|rT'<|?_
    refine ivx ?_;unfold eraE;simp_all
   refine wr'<|V' (v_fap0 lk2) (ptS pt2)<|V' (v_fap (lkS lk2)) (ptS pt3)<|V' (v_loadp (lkS lk3) (hga hn rfl) gt9) (ptS pt4)<|s_callp (mp1 (lkS lk4) (mp1 lkb mp0)) (clock_a) (ptS pt5)<|V' (v_notB (lkS lk5)) (ptS pt6)<|mv' (lkS lk6) (ptS pt1)<|sn'<|?_
   refine w_condB (lkS lk1) (fun hc9=>?_) (fun hc9=>?_)
   ·refine wr'<|mv' lki pt4<|sn'<|w_rets<|r_blk<|r_thn<|w_ret (rs1 (rr_t gt4))<|rT'<|?_
    refine ivx ?_;unfold eraE;simp_all
   refine w_skip<|n_blk<|n_seq<|wr'<|mv' lki pt4<|sn'<|w_rets<|w_ret (rs1 (rr_t gt4))<|rT'<|?_
   refine ivx ?_;unfold eraE;simp_all
  refine s_no gt38 pt39<|s_no gt38 pt40<|s_no gt38 pt41<|V' (v_pickF lk38 lkb) pt42<|mv' lk42 pt34<|sn'<|w_condF lk34<|wr'<|V' (v_fap0 lk2) pt44<|V' (v_loadp lk44 (hga hn rfl) gt4) pt45<|mv' lk1 pt46<|V' (v_eqbN lk45 lk46) pt47<|?_
  refine mv' lk47 pt43<|sn'<|?_
  refine cd' lk43 (fun hc4=>?_) (fun hc4=>?_)
  ·refine wr'<|mv' lki pt4<|sn'<|w_rets<|r_blk<|r_thn<|w_ret (rs1 (rr_t gt4))<|rT'<|?_
   refine ivx ?_;unfold eraE;simp_all
  refine wr'<|V' (v_fap0 lk2) pt49<|V' (v_loadp lk49 (hga hn rfl) gt4) pt50<|mv' lk50 pt48<|sn'<|?_
  refine w_condB lk48 (fun hc5=>?_) (fun hc5=>?_)
  ·refine w_seq<|wr'<|V' (v_fap0 lk2) pt51<|V' (v_loadpA lk51 (hga hn rfl) SrcC_tk5_5 rfl) pt52<|V' (v_build SrcC_era_53) pt53<|V' (v_eqsN lk52 lk53 SrcC_eq_iiiii) pt54<|sn'<|?_
   refine cd' lk54 (fun hc6=>?_) (fun hc6=>?_)
   ·refine wr'<|mv' lki pt4<|sn'<|w_rets<|r_thn<|r_blk<|r_thn<|w_ret (rs1 (rr_t gt4))<|rT'<|?_
    refine ivx ?_;unfold eraE;simp_all
   refine w_skip<|n_seq<|wr'<|mv' lki pt4<|sn'<|w_rets<|r_blk<|r_thn<|w_ret (rs1 (rr_t gt4))<|rT'<|?_
   refine ivx ?_;unfold eraE;simp_all
  refine w_skip<|n_blk<|n_seq<|w_seq<|wr'<|V' (v_fap0 lk2) pt56<|V' (v_fap lk56) pt57<|V' (v_loadpA lk57 (hga hn rfl) SrcC_tk5_3 rfl) pt58<|s_callp (mp1 lk58 mp0) (cdays_a) pt59<|mv' lk59 pt55<|V' (v_ext lk55 gt0) pt60<|V' (v_ext lk55 gt1) pt61<|mv' lk60 pt5<|?_
  refine mv' lk61 pt6<|sn'<|wr'<|mv' lk6 pt62<|V' (v_neq lk62 lki) pt63<|sn'<|?_
  refine cd' lk63 (fun hc7=>?_) (fun hc7=>?_)
  ·refine wr'<|mv' lk6 pt64<|mv' lk64 pt4<|sn'<|w_rets<|r_thn<|w_ret (rs1 (rr_t gt4))<|rT'<|?_
   refine ivx ?_;unfold eraE;simp_all
  refine w_skip<|n_seq<|w_seq<|w_block<|wr'<|V' (v_fap0 lk2) pt66<|V' (v_fap lk66) pt67<|V' (v_loadp lk67 (hga hn rfl) gt8) pt68<|s_callp (mp1 lk68 (mp1 lki (mp1 lki mp0))) (swithin_a) pt69<|V' (v_notB lk69) (ptS pt0)<|mv' (lkS lk0) pt65<|sn'<|?_
  refine w_condB lk65 (fun hc8=>?_) (fun hc8=>?_)
  ·refine wr'<|mv' lki pt4<|sn'<|w_rets<|r_blk<|r_thn<|w_ret (rs1 (rr_t gt4))<|rT'<|?_
   refine ivx ?_;unfold eraE;simp_all
  refine wr'<|V' (v_fap0 lk2) (ptS pt2)<|V' (v_fap (lkS lk2)) (ptS pt3)<|V' (v_loadp (lkS lk3) (hga hn rfl) gt9) (ptS pt4)<|s_callp (mp1 (lkS lk4) (mp1 lkb mp0)) (clock_a) (ptS pt5)<|V' (v_notB (lkS lk5)) (ptS pt6)<|mv' (lkS lk6) (ptS pt1)<|sn'<|?_
  refine w_condB (lkS lk1) (fun hc9=>?_) (fun hc9=>?_)
  ·refine wr'<|mv' lki pt4<|sn'<|w_rets<|r_blk<|r_thn<|w_ret (rs1 (rr_t gt4))<|rT'<|?_
   refine ivx ?_;unfold eraE;simp_all
  refine w_skip<|n_blk<|n_seq<|wr'<|mv' lki pt4<|sn'<|w_rets<|w_ret (rs1 (rr_t gt4))<|rT'<|?_
  refine ivx ?_;unfold eraE;simp_all
 refine s_no gt11 pt12<|s_no gt11 pt13<|s_no gt11 pt14<|s_no gt11 pt15<|V' (v_pickF lk11 lkb) pt16<|mv' lk16 pt17<|s_do gt17<|V' (v_fap0 lk2) pt18<|s_do gt17<|V' (v_loadp lk18 (hga hn rfl) gt3) pt19<|s_do gt17<|s_callp (mp1 lk19 mp0) (format_a hfm) pt20<|s_do gt17<|V' (v_notB lk20) pt21<|?_
 refine V' (v_pickF lk17 lk21) pt22<|mv' lk22 pt7<|sn'<|?_
 refine w_condB lk7 (fun hc1=>?_) (fun hc1=>?_)
 ·refine wr'<|mv' lki pt4<|sn'<|w_rets<|r_blk<|r_thn<|w_ret (rs1 (rr_t gt4))<|rT'<|?_
  refine ivx ?_;unfold eraE;simp_all
 refine wr'<|V' (v_fap0 lk2) pt24<|V' (v_loadp lk24 (hga hn rfl) gt0) pt25<|s_callp (mp1 lk25 (mp1 lki (mp1 lki mp0))) (swithin_a) pt26<|V' (v_notB lk26) pt27<|mv' lk27 pt28<|?_
 refine s_splitB gt28 pt28 pt28 (fun hg28=>?_) (fun hg28=>?_)
 ·refine s_no gt28 pt29<|s_no gt28 pt30<|s_no gt28 pt31<|s_no gt28 pt32<|V' (v_pickT lk28 lkb) pt33<|mv' lk33 pt23<|sn'<|w_condT lk23<|wr'<|mv' lki pt4<|sn'<|?_
  refine w_rets<|r_blk<|r_thn<|w_ret (rs1 (rr_t gt4))<|rT'<|?_
  refine ivx ?_;unfold eraE;simp_all
 refine s_do gt28<|V' (v_fap0 lk2) pt29<|s_do gt28<|V' (v_loadp lk29 (hga hn rfl) gt2) pt30<|s_do gt28<|s_callp (mp1 lk30 (mp1 lki (mp1 lki mp0))) (swithin_a) pt31<|s_do gt28<|V' (v_notB lk31) pt32<|V' (v_pickF lk28 lk32) pt33<|mv' lk33 pt23<|sn'<|?_
 refine w_condB lk23 (fun hc2=>?_) (fun hc2=>?_)
 ·refine wr'<|mv' lki pt4<|sn'<|w_rets<|r_blk<|r_thn<|w_ret (rs1 (rr_t gt4))<|rT'<|?_
  refine ivx ?_;unfold eraE;simp_all
 refine wr'<|V' (v_fap0 lk2) pt35<|V' (v_loadp lk35 (hga hn rfl) gt1) pt36<|V' (v_neqS lk36 lks) pt37<|mv' lk37 pt38<|?_
 refine sp' gt38 pt38 pt38 (fun hg38=>?_) (fun hg38=>?_)
 ·refine s_do gt38<|V' (v_fap0 lk2) pt39<|s_do gt38<|V' (v_loadp lk39 (hga hn rfl) gt2) pt40<|s_do gt38<|V' (v_neq lk40 lki) pt41<|V' (v_pickT lk38 lk41) pt42<|mv' lk42 pt34<|sn'<|?_
  refine cd' lk34 (fun hc3=>?_) (fun hc3=>?_)
  ·refine wr'<|mv' lki pt4<|sn'<|w_rets<|r_blk<|r_thn<|w_ret (rs1 (rr_t gt4))<|rT'<|?_
   refine ivx ?_;unfold eraE;simp_all
  refine wr'<|V' (v_fap0 lk2) pt44<|V' (v_loadp lk44 (hga hn rfl) gt4) pt45<|mv' lk1 pt46<|V' (v_eqbN lk45 lk46) pt47<|mv' lk47 pt43<|sn'<|?_
  refine cd' lk43 (fun hc4=>?_) (fun hc4=>?_)
  ·refine wr'<|mv' lki pt4<|sn'<|w_rets<|r_blk<|r_thn<|w_ret (rs1 (rr_t gt4))<|rT'<|?_
   refine ivx ?_;unfold eraE;simp_all
  refine wr'<|V' (v_fap0 lk2) pt49<|V' (v_loadp lk49 (hga hn rfl) gt4) pt50<|mv' lk50 pt48<|sn'<|?_
  refine w_condB lk48 (fun hc5=>?_) (fun hc5=>?_)
  ·refine w_seq<|wr'<|V' (v_fap0 lk2) pt51<|V' (v_loadpA lk51 (hga hn rfl) SrcC_tk5_5 rfl) pt52<|V' (v_build SrcC_era_53) pt53<|V' (v_eqsN lk52 lk53 SrcC_eq_iiiii) pt54<|sn'<|?_
   refine cd' lk54 (fun hc6=>?_) (fun hc6=>?_)
   ·refine wr'<|mv' lki pt4<|sn'<|w_rets<|r_thn<|r_blk<|r_thn<|w_ret (rs1 (rr_t gt4))<|rT'<|?_
    refine ivx ?_;unfold eraE;simp_all
   refine w_skip<|n_seq<|wr'<|mv' lki pt4<|sn'<|w_rets<|r_blk<|r_thn<|w_ret (rs1 (rr_t gt4))<|rT'<|?_
   refine ivx ?_;unfold eraE;simp_all
  refine w_skip<|n_blk<|n_seq<|w_seq<|wr'<|V' (v_fap0 lk2) pt56<|V' (v_fap lk56) pt57<|V' (v_loadpA lk57 (hga hn rfl) SrcC_tk5_3 rfl) pt58<|s_callp (mp1 lk58 mp0) (cdays_a) pt59<|mv' lk59 pt55<|V' (v_ext lk55 gt0) pt60<|V' (v_ext lk55 gt1) pt61<|mv' lk60 pt5<|?_
  refine mv' lk61 pt6<|sn'<|wr'<|mv' lk6 pt62<|V' (v_neq lk62 lki) pt63<|sn'<|?_
  refine cd' lk63 (fun hc7=>?_) (fun hc7=>?_)
  ·refine wr'<|mv' lk6 pt64<|mv' lk64 pt4<|sn'<|w_rets<|r_thn<|w_ret (rs1 (rr_t gt4))<|rT'<|?_
   refine ivx ?_;unfold eraE;simp_all
  refine w_skip<|n_seq<|w_seq<|w_block<|wr'<|V' (v_fap0 lk2) pt66<|V' (v_fap lk66) pt67<|V' (v_loadp lk67 (hga hn rfl) gt8) pt68<|s_callp (mp1 lk68 (mp1 lki (mp1 lki mp0))) (swithin_a) pt69<|V' (v_notB lk69) (ptS pt0)<|mv' (lkS lk0) pt65<|sn'<|?_
  refine w_condB lk65 (fun hc8=>?_) (fun hc8=>?_)
  ·refine wr'<|mv' lki pt4<|sn'<|w_rets<|r_blk<|r_thn<|w_ret (rs1 (rr_t gt4))<|rT'<|?_
   refine ivx ?_;unfold eraE;simp_all
  refine wr'<|V' (v_fap0 lk2) (ptS pt2)<|V' (v_fap (lkS lk2)) (ptS pt3)<|V' (v_loadp (lkS lk3) (hga hn rfl) gt9) (ptS pt4)<|s_callp (mp1 (lkS lk4) (mp1 lkb mp0)) (clock_a) (ptS pt5)<|V' (v_notB (lkS lk5)) (ptS pt6)<|mv' (lkS lk6) (ptS pt1)<|sn'<|?_
  refine w_condB (lkS lk1) (fun hc9=>?_) (fun hc9=>?_)
  ·refine wr'<|mv' lki pt4<|sn'<|w_rets<|r_blk<|r_thn<|w_ret (rs1 (rr_t gt4))<|rT'<|?_
   refine ivx ?_;unfold eraE;simp_all
  refine w_skip<|n_blk<|n_seq<|wr'<|mv' lki pt4<|sn'<|w_rets<|w_ret (rs1 (rr_t gt4))<|rT'<|?_
  refine ivx ?_;unfold eraE;simp_all
 refine s_no gt38 pt39<|s_no gt38 pt40<|s_no gt38 pt41<|V' (v_pickF lk38 lkb) pt42<|mv' lk42 pt34<|sn'<|w_condF lk34<|wr'<|V' (v_fap0 lk2) pt44<|V' (v_loadp lk44 (hga hn rfl) gt4) pt45<|mv' lk1 pt46<|V' (v_eqbN lk45 lk46) pt47<|?_
 refine mv' lk47 pt43<|sn'<|?_
 refine cd' lk43 (fun hc4=>?_) (fun hc4=>?_)
 ·refine wr'<|mv' lki pt4<|sn'<|w_rets<|r_blk<|r_thn<|w_ret (rs1 (rr_t gt4))<|rT'<|?_
  refine ivx ?_;unfold eraE;simp_all
 refine wr'<|V' (v_fap0 lk2) pt49<|V' (v_loadp lk49 (hga hn rfl) gt4) pt50<|mv' lk50 pt48<|sn'<|?_
 refine w_condB lk48 (fun hc5=>?_) (fun hc5=>?_)
 ·refine w_seq<|wr'<|V' (v_fap0 lk2) pt51<|V' (v_loadpA lk51 (hga hn rfl) SrcC_tk5_5 rfl) pt52<|V' (v_build SrcC_era_53) pt53<|V' (v_eqsN lk52 lk53 SrcC_eq_iiiii) pt54<|sn'<|?_
  refine cd' lk54 (fun hc6=>?_) (fun hc6=>?_)
  ·refine wr'<|mv' lki pt4<|sn'<|w_rets<|r_thn<|r_blk<|r_thn<|w_ret (rs1 (rr_t gt4))<|rT'<|?_
   refine ivx ?_;unfold eraE;simp_all
  refine w_skip<|n_seq<|wr'<|mv' lki pt4<|sn'<|w_rets<|r_blk<|r_thn<|w_ret (rs1 (rr_t gt4))<|rT'<|?_
  refine ivx ?_;unfold eraE;simp_all
 refine w_skip<|n_blk<|n_seq<|w_seq<|wr'<|V' (v_fap0 lk2) pt56<|V' (v_fap lk56) pt57<|V' (v_loadpA lk57 (hga hn rfl) SrcC_tk5_3 rfl) pt58<|s_callp (mp1 lk58 mp0) (cdays_a) pt59<|mv' lk59 pt55<|V' (v_ext lk55 gt0) pt60<|V' (v_ext lk55 gt1) pt61<|mv' lk60 pt5<|?_
 refine mv' lk61 pt6<|sn'<|wr'<|mv' lk6 pt62<|V' (v_neq lk62 lki) pt63<|sn'<|?_
 refine cd' lk63 (fun hc7=>?_) (fun hc7=>?_)
 ·refine wr'<|mv' lk6 pt64<|mv' lk64 pt4<|sn'<|w_rets<|r_thn<|w_ret (rs1 (rr_t gt4))<|rT'<|?_
  refine ivx ?_;unfold eraE;simp_all
 refine w_skip<|n_seq<|w_seq<|w_block<|wr'<|V' (v_fap0 lk2) pt66<|V' (v_fap lk66) pt67<|V' (v_loadp lk67 (hga hn rfl) gt8) pt68<|s_callp (mp1 lk68 (mp1 lki (mp1 lki mp0))) (swithin_a) pt69<|V' (v_notB lk69) (ptS pt0)<|mv' (lkS lk0) pt65<|sn'<|?_
 refine w_condB lk65 (fun hc8=>?_) (fun hc8=>?_)
 ·refine wr'<|mv' lki pt4<|sn'<|w_rets<|r_blk<|r_thn<|w_ret (rs1 (rr_t gt4))<|rT'<|?_
  refine ivx ?_;unfold eraE;simp_all
 refine wr'<|V' (v_fap0 lk2) (ptS pt2)<|V' (v_fap (lkS lk2)) (ptS pt3)<|V' (v_loadp (lkS lk3) (hga hn rfl) gt9) (ptS pt4)<|s_callp (mp1 (lkS lk4) (mp1 lkb mp0)) (clock_a) (ptS pt5)<|V' (v_notB (lkS lk5)) (ptS pt6)<|mv' (lkS lk6) (ptS pt1)<|sn'<|?_
 refine w_condB (lkS lk1) (fun hc9=>?_) (fun hc9=>?_)
 ·refine wr'<|mv' lki pt4<|sn'<|w_rets<|r_blk<|r_thn<|w_ret (rs1 (rr_t gt4))<|rT'<|?_
  refine ivx ?_;unfold eraE;simp_all
 refine w_skip<|n_blk<|n_seq<|wr'<|mv' lki pt4<|sn'<|w_rets<|w_ret (rs1 (rr_t gt4))<|rT'<|?_
 refine ivx ?_;unfold eraE;simp_all
abbrev eraX (x:Era) (last:Bool):Int:=eraE x.1 x.2.1 x.2.2.1 x.2.2.2.1 x.2.2.2.2.1 x.2.2.2.2.2.1.1 x.2.2.2.2.2.1.2.1 x.2.2.2.2.2.1.2.2 x.2.2.2.2.2.2.1 x.2.2.2.2.2.2.2 last
def erasE:List Era→Int
 | []=>0
 | x::xs=>if eraX x xs.isEmpty≠0 then eraX x xs.isEmpty else erasE xs
def zoneE (z:Zon):Int:=if ¬nameB z.1=true∨z.2.length=0 then 1 else erasE z.2
def okEra (x:Era):Prop:=x.2.1.size≤maxLen∧x.2.2.2.1.size≤maxLen
theorem erasE_at {l:List Era}{k:Nat}(h:k<l.length):erasE (l.drop k)=if eraX l[k] (decide ((k:Int)=(l.length:Int)-1))≠0 then eraX l[k] (decide ((k:Int)=(l.length:Int)-1)) else erasE (l.drop (k+1)):=by
 have e:(l.drop (k+1)).isEmpty=decide ((k:Int)=(l.length:Int)-1):=by
  rw [Bool.eq_iff_iff,List.isEmpty_iff,List.drop_eq_nil_iff,decide_eq_true_iff];omega
 rw [List.drop_eq_getElem_cons h,erasE,e]
set_option maxHeartbeats 1000000 in
theorem zone_b {nm:ByteArray}{l:List Era}{h:AH}(hnm:nm.size≤maxLen) (hl : ∀ x∈l,okEra x):ACalls Tryz.prog 45 [.agg [sv nm,.sl l.length 10 false (rows eraC l)]] h fun x h'=>h'=h∧x = .ret (iv (zoneE (nm,l))):=by
 refine tI' k45 fun N hn hlt hlA hbd=>?_
 simp only [tA',AV.bdL,AV.bd,and_true,true_and] at hbd ⊢
 refine wr'<|E' (e_box (cvl lk0 rfl) rfl (hl0 hn) ha0) pt1<|mv' lki pt2<|sn'<|w_seq<|wr'<|V' (v_fap0 lk1) pt6<|V' (v_loadp lk6 (hga hn rfl) gt0) pt7<|s_callp (mp1 lk7 mp0) (name_a hnm) pt8<|V' (v_notB lk8) pt9<|mv' lk9 pt10<|?_
 refine s_splitB gt10 pt10 pt10 (fun hg10=>?_) (fun hg10=>?_)
 ·have hZ:zoneE (nm,l)=1:=if_pos (.inl (by simpa using hg10))
  refine s_no gt10 pt11<|s_no gt10 pt12<|s_no gt10 pt13<|s_no gt10 pt14<|V' (v_pickT lk10 lkb) pt15<|sn'<|w_condT lk15<|wr'<|mv' lki pt2<|sn'<|w_rets<|?_
  refine r_thn<|w_ret (rs1 (rr_t gt2))<|rT'<|?_
  rw [hZ]
 refine s_do gt10<|V' (v_fap0 lk1) pt11<|s_do gt10<|V' (v_loadp lk11 (hga hn rfl) gt1) pt12<|s_do gt10<|V' (v_lenL lk12) pt13<|s_do gt10<|V' (v_eql lk13 lki) pt14<|V' (v_pickF lk10 lk14) pt15<|sn'<|?_
 refine cd' lk15 (fun hc1=>?_) (fun hc1=>?_)
 ·have hZ:zoneE (nm,l)=1:=if_pos (.inr (by show l.length=0;omega))
  refine wr'<|mv' lki pt2<|sn'<|w_rets<|r_thn<|w_ret (rs1 (rr_t gt2))<|rT'<|?_
  rw [hZ]
 have hZ:zoneE (nm,l)=erasE l:=if_neg (by rintro (h1 | h1);exact h1 (by simpa using hg10);exact hc1 (by show (l.length:Int)=0;have:l.length=0:=h1;omega))
 refine w_skip<|n_seq<|w_seq<|wr'<|V' (v_fap0 lk1) pt16<|V' (v_loadp lk16 (hga hn rfl) gt1) pt17<|V' (v_lenL lk17) pt18<|mv' lki pt19<|sn'<|w_block<|?_
 refine w_lp (ι:=Nat) (fun (k:Nat)=>[(19,iv (k:Int))]++rn' 2 4++rn' 20 16) (fun (k:Nat)=>[]) (fun (k:Nat)=>k≤l.length∧erasE l=erasE (l.drop k)) (fun (k:Nat)=>l.length-k) (0) (by exact ⟨Nat.zero_le _,rfl⟩) ?_
 rintro k hi1
 try simp only [setsT,setsE,z',s',rn',la',ln',Nat.reduceAdd]
 obtain ⟨hk1,hk2⟩:=hi1
 refine wr'<|V' (v_lss lk19 lk18) pt20<|sn'<|w_seq<|?_
 refine cd' lk20 (fun hc2=>?_) (fun hc2=>?_)
 ·have hk:k<l.length:=by omega
  have ho:=hl _ (List.getElem_mem hk)
  rw [erasE_at hk] at hk2
  refine w_skip<|n_seq<|w_seq<|w_block<|wr'<|mv' lk19 pt21<|?_
  refine V' (v_iaR lk17 lk19 era_len1 (nb' rfl) (by first | rfl | omega) (by omega) (by first | rfl | omega) rfl) pt22 ?_
  refine V' (v_loadrA lk22 SrcC_tk_10 rfl) pt23<|E' (e_new (hl1 hn) ha1) pt4<|mv' lk21 pt3<|E' (e_store lk4 (cvl lk23 rfl) (hga hn rfl) rfl (nb' rfl) rfl SrcC_sc0_10 (hs1 hn)) ptn<|sn'<|wr'<|V' (v_loadpA lk4 (hga hn rfl) SrcC_tk0_10 rfl) pt24<|mv' lk3 pt25<|V' (v_fap0 lk1) pt26<|V' (v_loadp lk26 (hga hn rfl) gt1) pt27<|V' (v_lenL lk27) pt28<|?_
  refine V' (v_sub lk28 lki (by omega) (by omega)) pt29 ?_
  refine V' (v_eql lk25 lk29) pt30<|s_callp (mp1 lk24 (mp1 lk30 mp0)) (era_b (last:=decide ((k:Int)=(l.length:Int)-1)) ho.1 ho.2) pt31<|mv' lk31 pt5<|sn'<|wr'<|mv' lk5 pt32<|V' (v_neq lk32 lki) pt33<|sn'<|?_
  refine cd' lk33 (fun hc3=>?_) (fun hc3=>?_)
  ·have hc3':eraX l[k] (decide ((k:Int)=(l.length:Int)-1))≠0:=hc3
   rw [if_pos hc3'] at hk2
   refine wr'<|mv' lk5 pt34<|mv' lk34 pt2<|sn'<|w_rets<|r_blk<|r_thn<|r_thn<|r_blk<|r_thn<|w_ret (rs1 (rr_t gt2))<|rT'<|?_
   rw [hZ,hk2]
  have hc3':¬eraX l[k] (decide ((k:Int)=(l.length:Int)-1))≠0:=hc3
  rw [if_neg hc3'] at hk2
  refine w_skip<|n_blk<|n_seq<|w_reg<|?_
  refine V' (v_add lk19 lki (by omega) (by omega)) pt35 ?_
  refine mv' lk35 pt19<|s_nil<|n_thn<|?_
  refine lU' (k+1) (by (try dsimp only);exact ⟨by omega,hk2⟩) (by (try dsimp only);(try simp only [setsT,setsE,z',s',rn',la',ln',Nat.reduceAdd]);exact bk' 1 hn hlt)
 rw [List.drop_of_length_le (by omega)] at hk2
 refine w_exit<|x_thn<|x_thn<|x_blk<|n_seq<|wr'<|mv' lki pt2<|sn'<|w_rets<|w_ret (rs1 (rr_t gt2))<|rT'<|?_
 rw [hZ,hk2];rfl
def firstX {α:Type}(p:α→Int):List α→Int
 | []=>0
 | x::xs=>if p x≠0 then p x else firstX p xs
theorem firstX_at {α:Type}{p:α→Int}{l:List α}{k:Nat}(h:k<l.length):firstX p (l.drop k)=if p l[k]≠0 then p l[k] else firstX p (l.drop (k+1)):=by
 rw [List.drop_eq_getElem_cons h,firstX]
theorem firstRul_a {p:Rul→Int}{f:FuncId}{l:List Rul}(hp : ∀ x∈l,∀ h:AH,ACalls Tryz.prog f [.agg (rulC x)] h fun y h'=>h'=h∧y = .ret (iv (p x))) {h:AH}:ACalls Tryz.prog 42 [.sl l.length 11 false (rows rulC l),.v (.func (.func f) #[] #[])] h fun x h'=>h'=h∧x = .ret (iv (firstX p l)):=by
 refine tI' k42 fun N hn hlt hlA hbd=>?_
 simp only [tA',AV.bdL,AV.bd,and_true,true_and] at hbd ⊢
 refine wr'<|mv' lki pt4<|sn'<|w_seq<|wr'<|mv' lk0 pt8<|V' (v_lenL lk8) pt9<|mv' lki pt10<|sn'<|w_block<|?_
 refine w_lp (ι:=Nat) (fun (k:Nat)=>[(10,iv (k:Int)),(4,.any),(6,.any),(7,.any)]++rn' 11 10) (fun (k:Nat)=>[]) (fun (k:Nat)=>k≤l.length∧firstX p l=firstX p (l.drop k)) (fun (k:Nat)=>l.length-k) (0) (by exact ⟨Nat.zero_le _,rfl⟩) ?_
 rintro k hi1
 try simp only [setsT,setsE,z',s',rn',la',ln',Nat.reduceAdd]
 obtain ⟨hk1,hk2⟩:=hi1
 refine wr'<|V' (v_lss lk10 lk9) pt11<|sn'<|w_seq<|?_
 refine cd' lk11 (fun hc1=>?_) (fun hc1=>?_)
 ·have hk:k<l.length:=by omega
  rw [firstX_at hk] at hk2
  refine w_skip<|n_seq<|w_seq<|w_block<|wr'<|?_
  refine V' (v_iaR lk8 lk10 rul_len1 (nb' rfl) (by first | rfl | omega) (by omega) (by first | rfl | omega) rfl) pt12 ?_
  refine V' (v_loadrA lk12 SrcC_tk_11 rfl) pt13<|E' (e_new (hl0 hn) ha0) pt6<|E' (e_store lk6 (cvl lk13 rfl) (hga hn rfl) rfl (nb' rfl) rfl SrcC_sc0_11 (hs0 hn)) ptn<|sn'<|wr'<|mv' lk1 pt14<|V' (v_loadpA lk6 (hga hn rfl) SrcC_tk0_11 rfl) pt15<|s_callT lk14 (mp1 lk15 mp0) (hp _ (List.getElem_mem hk) _) pt16<|mv' lk16 pt7<|sn'<|w_seq<|?_
  refine w_reg<|mv' lk7 pt17<|V' (v_neq lk17 lki) pt18<|sn'<|?_
  refine cd' lk18 (fun hc2=>?_) (fun hc2=>?_)
  ·rw [if_pos hc2] at hk2
   refine wr'<|mv' lk7 pt19<|mv' lk19 pt4<|sn'<|w_rets<|r_blk<|r_thn<|r_thn<|r_blk<|r_thn<|w_ret (rs1 (rr_t gt4))<|rT'<|?_
   rw [hk2]
  rw [if_neg hc2] at hk2
  refine w_skip<|n_blk<|n_seq<|w_reg<|?_
  refine V' (v_add lk10 lki (by omega) (by omega)) pt20 ?_
  refine mv' lk20 pt10<|s_nil<|n_thn<|?_
  refine lU' (k+1) (by (try dsimp only);exact ⟨by omega,hk2⟩) (by (try dsimp only);(try simp only [setsT,setsE,z',s',rn',la',ln',Nat.reduceAdd]);exact bk' 0 hn hlt)
 rw [List.drop_of_length_le (by omega)] at hk2
 refine w_exit<|x_thn<|x_thn<|x_blk<|n_seq<|wr'<|mv' lki pt4<|sn'<|w_rets<|w_ret (rs1 (rr_t gt4))<|rT'<|?_
 rw [hk2];rfl
theorem firstZon_a {p:Zon→Int}{f:FuncId}{l:List Zon}(hp : ∀ x∈l,∀ h:AH,ACalls Tryz.prog f [.agg (zonC x)] h fun y h'=>h'=h∧y = .ret (iv (p x))) {h:AH}:ACalls Tryz.prog 44 [.sl l.length 2 false (rows zonC l),.v (.func (.func f) #[] #[])] h fun x h'=>h'=h∧x = .ret (iv (firstX p l)):=by
 refine tI' k44 fun N hn hlt hlA hbd=>?_
 simp only [tA',AV.bdL,AV.bd,and_true,true_and] at hbd ⊢
 refine wr'<|mv' lki pt4<|sn'<|w_seq<|wr'<|mv' lk0 pt8<|V' (v_lenL lk8) pt9<|mv' lki pt10<|sn'<|w_block<|?_
 refine w_lp (ι:=Nat) (fun (k:Nat)=>[(10,iv (k:Int)),(4,.any),(6,.any),(7,.any)]++rn' 11 10) (fun (k:Nat)=>[]) (fun (k:Nat)=>k≤l.length∧firstX p l=firstX p (l.drop k)) (fun (k:Nat)=>l.length-k) (0) (by exact ⟨Nat.zero_le _,rfl⟩) ?_
 rintro k hi1
 try simp only [setsT,setsE,z',s',rn',la',ln',Nat.reduceAdd]
 obtain ⟨hk1,hk2⟩:=hi1
 refine wr'<|V' (v_lss lk10 lk9) pt11<|sn'<|w_seq<|?_
 refine cd' lk11 (fun hc1=>?_) (fun hc1=>?_)
 ·have hk:k<l.length:=by omega
  rw [firstX_at hk] at hk2
  refine w_skip<|n_seq<|w_seq<|w_block<|wr'<|?_
  refine V' (v_iaR lk8 lk10 zon_len1 (nb' rfl) (by first | rfl | omega) (by omega) (by first | rfl | omega) rfl) pt12 ?_
  refine V' (v_loadrA lk12 SrcC_tk_2 rfl) pt13<|E' (e_new (hl0 hn) ha0) pt6<|E' (e_store lk6 (cvl lk13 rfl) (hga hn rfl) rfl (nb' rfl) rfl SrcC_sc0_2 (hs0 hn)) ptn<|sn'<|wr'<|mv' lk1 pt14<|V' (v_loadpA lk6 (hga hn rfl) SrcC_tk0_2 rfl) pt15<|s_callT lk14 (mp1 lk15 mp0) (hp _ (List.getElem_mem hk) _) pt16<|mv' lk16 pt7<|sn'<|w_seq<|?_
  refine w_reg<|mv' lk7 pt17<|V' (v_neq lk17 lki) pt18<|sn'<|?_
  refine cd' lk18 (fun hc2=>?_) (fun hc2=>?_)
  ·rw [if_pos hc2] at hk2
   refine wr'<|mv' lk7 pt19<|mv' lk19 pt4<|sn'<|w_rets<|r_blk<|r_thn<|r_thn<|r_blk<|r_thn<|w_ret (rs1 (rr_t gt4))<|rT'<|?_
   rw [hk2]
  rw [if_neg hc2] at hk2
  refine w_skip<|n_blk<|n_seq<|w_reg<|?_
  refine V' (v_add lk10 lki (by omega) (by omega)) pt20 ?_
  refine mv' lk20 pt10<|s_nil<|n_thn<|?_
  refine lU' (k+1) (by (try dsimp only);exact ⟨by omega,hk2⟩) (by (try dsimp only);(try simp only [setsT,setsE,z',s',rn',la',ln',Nat.reduceAdd]);exact bk' 0 hn hlt)
 rw [List.drop_of_length_le (by omega)] at hk2
 refine w_exit<|x_thn<|x_thn<|x_blk<|n_seq<|wr'<|mv' lki pt4<|sn'<|w_rets<|w_ret (rs1 (rr_t gt4))<|rT'<|?_
 rw [hk2];rfl
theorem firstLnk_a {p:Lnk→Int}{f:FuncId}{l:List Lnk}(hp : ∀ x∈l,∀ h:AH,ACalls Tryz.prog f [.agg (lnkC x)] h fun y h'=>h'=h∧y = .ret (iv (p x))) {h:AH}:ACalls Tryz.prog 46 [.sl l.length 2 false (rows lnkC l),.v (.func (.func f) #[] #[])] h fun x h'=>h'=h∧x = .ret (iv (firstX p l)):=by
 refine tI' k46 fun N hn hlt hlA hbd=>?_
 simp only [tA',AV.bdL,AV.bd,and_true,true_and] at hbd ⊢
 refine wr'<|mv' lki pt4<|sn'<|w_seq<|wr'<|mv' lk0 pt8<|V' (v_lenL lk8) pt9<|mv' lki pt10<|sn'<|w_block<|?_
 refine w_lp (ι:=Nat) (fun (k:Nat)=>[(10,iv (k:Int)),(4,.any),(6,.any),(7,.any)]++rn' 11 10) (fun (k:Nat)=>[]) (fun (k:Nat)=>k≤l.length∧firstX p l=firstX p (l.drop k)) (fun (k:Nat)=>l.length-k) (0) (by exact ⟨Nat.zero_le _,rfl⟩) ?_
 rintro k hi1
 try simp only [setsT,setsE,z',s',rn',la',ln',Nat.reduceAdd]
 obtain ⟨hk1,hk2⟩:=hi1
 refine wr'<|V' (v_lss lk10 lk9) pt11<|sn'<|w_seq<|?_
 refine cd' lk11 (fun hc1=>?_) (fun hc1=>?_)
 ·have hk:k<l.length:=by omega
  rw [firstX_at hk] at hk2
  refine w_skip<|n_seq<|w_seq<|w_block<|wr'<|?_
  refine V' (v_iaR lk8 lk10 lnk_len1 (nb' rfl) (by first | rfl | omega) (by omega) (by first | rfl | omega) rfl) pt12 ?_
  refine V' (v_loadrA lk12 SrcC_tk_2 rfl) pt13<|E' (e_new (hl0 hn) ha0) pt6<|E' (e_store lk6 (cvl lk13 rfl) (hga hn rfl) rfl (nb' rfl) rfl SrcC_sc0_2 (hs0 hn)) ptn<|sn'<|wr'<|mv' lk1 pt14<|V' (v_loadpA lk6 (hga hn rfl) SrcC_tk0_2 rfl) pt15<|s_callT lk14 (mp1 lk15 mp0) (hp _ (List.getElem_mem hk) _) pt16<|mv' lk16 pt7<|sn'<|w_seq<|?_
  refine w_reg<|mv' lk7 pt17<|V' (v_neq lk17 lki) pt18<|sn'<|?_
  refine cd' lk18 (fun hc2=>?_) (fun hc2=>?_)
  ·rw [if_pos hc2] at hk2
   refine wr'<|mv' lk7 pt19<|mv' lk19 pt4<|sn'<|w_rets<|r_blk<|r_thn<|r_thn<|r_blk<|r_thn<|w_ret (rs1 (rr_t gt4))<|rT'<|?_
   rw [hk2]
  rw [if_neg hc2] at hk2
  refine w_skip<|n_blk<|n_seq<|w_reg<|?_
  refine V' (v_add lk10 lki (by omega) (by omega)) pt20 ?_
  refine mv' lk20 pt10<|s_nil<|n_thn<|?_
  refine lU' (k+1) (by (try dsimp only);exact ⟨by omega,hk2⟩) (by (try dsimp only);(try simp only [setsT,setsE,z',s',rn',la',ln',Nat.reduceAdd]);exact bk' 0 hn hlt)
 rw [List.drop_of_length_le (by omega)] at hk2
 refine w_exit<|x_thn<|x_thn<|x_blk<|n_seq<|wr'<|mv' lki pt4<|sn'<|w_rets<|w_ret (rs1 (rr_t gt4))<|rT'<|?_
 rw [hk2];rfl
def manyB (s:Src):Bool:=s.2.1.any (fun z=>decide (8<z.2.length))||decide (40<s.1.length)||decide (20<s.2.1.length)||decide (20<s.2.2.length)
theorem many_b {a:List Rul}{z:List Zon}{l:List Lnk}{h:AH}:ACalls Tryz.prog 41 [.agg [.sl a.length 11 false (rows rulC a),.sl z.length 2 false (rows zonC z),.sl l.length 2 false (rows lnkC l)]] h fun x h'=>h'=h∧x = .ret (bv (manyB (a,z,l))):=by
 refine tI' k41 fun N hn hlt hlA hbd=>?_
 simp only [tA',AV.bdL,AV.bd,and_true,true_and] at hbd ⊢
 refine wr'<|E' (e_box (cvl lk0 rfl) rfl (hl0 hn) ha0) pt1<|mv' lkb pt2<|sn'<|w_seq<|wr'<|V' (v_fap0 lk1) pt5<|V' (v_loadp lk5 (hga hn rfl) gt1) pt6<|V' (v_lenL lk6) pt7<|mv' lki pt8<|s_nil<|?_
 refine n_seq<|w_block<|?_
 refine w_lp (ι:=Nat) (fun (k:Nat)=>[(8,iv (k:Int)),(2,.any),(4,.any)]++rn' 9 8) (fun (k:Nat)=>[]) (fun (k:Nat)=>k≤z.length∧(z.take k).any (fun z=>decide (8<z.2.length))=false) (fun (k:Nat)=>z.length-k) (0) (by exact ⟨Nat.zero_le _,rfl⟩) ?_
 rintro k hi1
 try simp only [setsT,setsE,z',s',rn',la',ln',Nat.reduceAdd]
 obtain ⟨hk1,hk2⟩:=hi1
 refine wr'<|V' (v_lss lk8 lk7) pt9<|sn'<|w_seq<|?_
 refine cd' lk9 (fun hc1=>?_) (fun hc1=>?_)
 ·have hk:k<z.length:=by omega
  refine w_skip<|n_seq<|w_seq<|w_block<|wr'<|?_
  refine V' (v_iaR lk6 lk8 zon_len1 (nb' rfl) (by first | rfl | omega) (by omega) (by first | rfl | omega) rfl) pt10 ?_
  refine V' (v_loadrA lk10 SrcC_tk_2 rfl) pt11<|E' (e_new (hl1 hn) ha1) pt4<|E' (e_store lk4 (cvl lk11 rfl) (hga hn rfl) rfl (nb' rfl) rfl SrcC_sc0_2 (hs1 hn)) ptn<|sn'<|wr'<|V' (v_fap0 lk4) pt12<|V' (v_loadp lk12 (hga hn rfl) gt1) pt13<|?_
  refine V' ((by first | exact v_lenL lk13 | exact v_lenO lk13)) pt14 ?_
  refine V' (v_gtr lk14 lki) pt15<|sn'<|?_
  refine cd' lk15 (fun hc2=>?_) (fun hc2=>?_)
  ·have hA:z.any (fun z=>decide (8<z.2.length))=true:=List.any_eq_true.2 ⟨z[k],List.getElem_mem hk,decide_eq_true (by omega)⟩
   refine wr'<|mv' lkb pt2<|sn'<|w_rets<|r_blk<|r_thn<|r_thn<|r_blk<|r_thn<|w_ret (rs1 (rr_t gt2))<|rT'<|?_
   refine bvx ?_;unfold manyB;rw [hA];simp
  refine w_skip<|n_blk<|n_seq<|w_reg<|?_
  refine V' (v_add lk8 lki (by omega) (by omega)) pt16 ?_
  refine mv' lk16 pt8<|s_nil<|n_thn<|?_
  refine lU' (k+1) (by (try dsimp only);exact ⟨by omega,by rw [List.take_succ_eq_append_getElem hk,List.any_append,hk2];simp;omega⟩) (by (try dsimp only);(try simp only [setsT,setsE,z',s',rn',la',ln',Nat.reduceAdd]);exact bk' 1 hn hlt)
 rw [List.take_of_length_le (by omega)] at hk2
 refine w_exit<|x_thn<|x_thn<|x_blk<|n_seq<|wr'<|V' (v_fap0 lk1) pt17<|V' (v_loadp lk17 (hga hn rfl) gt0) pt18<|V' (v_lenL lk18) pt19<|V' (v_gtr lk19 lki) pt20<|mv' lk20 pt21<|?_
 refine sp' gt21 pt21 pt21 (fun hg21=>?_) (fun hg21=>?_)
 ·refine s_no gt21 pt22<|s_no gt21 pt23<|s_no gt21 pt24<|s_no gt21 pt25<|V' (v_pickT lk21 lkb) pt26<|mv' lk26 pt27<|s_no gt27 pt28<|s_no gt27 pt29<|s_no gt27 pt30<|s_no gt27 pt31<|V' (v_pickT lk27 lkb) pt32<|mv' lk32 pt2<|sn'<|?_
  refine w_rets<|w_ret (rs1 (rr_t gt2))<|rT'<|?_
  refine bvx ?_;unfold manyB;rw [hk2];rw [Bool.eq_iff_iff];simp;omega
 refine s_do gt21<|V' (v_fap0 lk1) pt22<|s_do gt21<|V' (v_loadp lk22 (hga hn rfl) gt1) pt23<|s_do gt21<|V' (v_lenL lk23) pt24<|s_do gt21<|V' (v_gtr lk24 lki) pt25<|V' (v_pickF lk21 lk25) pt26<|mv' lk26 pt27<|?_
 refine sp' gt27 pt27 pt27 (fun hg27=>?_) (fun hg27=>?_)
 ·refine s_no gt27 pt28<|s_no gt27 pt29<|s_no gt27 pt30<|s_no gt27 pt31<|V' (v_pickT lk27 lkb) pt32<|mv' lk32 pt2<|sn'<|w_rets<|w_ret (rs1 (rr_t gt2))<|rT'<|?_
  refine bvx ?_;unfold manyB;rw [hk2];rw [Bool.eq_iff_iff];simp;omega
 refine s_do gt27<|V' (v_fap0 lk1) pt28<|s_do gt27<|V' (v_loadp lk28 (hga hn rfl) gt2) pt29<|s_do gt27<|V' (v_lenL lk29) pt30<|s_do gt27<|V' (v_gtr lk30 lki) pt31<|V' (v_pickF lk27 lk31) pt32<|mv' lk32 pt2<|sn'<|w_rets<|w_ret (rs1 (rr_t gt2))<|?_
 refine rT' ?_
 refine bvx ?_;unfold manyB;rw [hk2];rw [Bool.eq_iff_iff];simp;omega
def okSrc (s:Src):Prop:=(∀ r∈s.1,r.1.size≤maxLen∧r.2.2.2.2.2.2.2.2.size≤maxLen)∧(∀ z∈s.2.1,z.1.size≤maxLen ∧ ∀ x∈z.2,okEra x) ∧ ∀ l∈s.2.2,l.1.size≤maxLen∧l.2.size≤maxLen
def checkE (s:Src):Int:=if manyB s=true then 2 else if firstX ruleE s.1≠0 then firstX ruleE s.1 else if firstX zoneE s.2.1≠0 then firstX zoneE s.2.1 else firstX linkE s.2.2
set_option maxHeartbeats 1000000 in
theorem scheck_b {a:List Rul}{z:List Zon}{l:List Lnk}{h:AH}(hok:okSrc (a,z,l)):ACalls Tryz.prog 17 [.agg [.sl a.length 11 false (rows rulC a),.sl z.length 2 false (rows zonC z),.sl l.length 2 false (rows lnkC l)]] h fun x h'=>h'=h∧x = .ret (iv (checkE (a,z,l))):=by
 have p1 : ∀ x∈a,∀ h:AH,ACalls Tryz.prog 43 [.agg (rulC x)] h fun y h'=>h'=h∧y = .ret (iv (ruleE x)):=fun x hx h=>rule_b (hok.1 x hx).1 (hok.1 x hx).2
 have p2 : ∀ x∈z,∀ h:AH,ACalls Tryz.prog 45 [.agg (zonC x)] h fun y h'=>h'=h∧y = .ret (iv (zoneE x)):=fun x hx h=>zone_b (hok.2.1 x hx).1 (hok.2.1 x hx).2
 have p3 : ∀ x∈l,∀ h:AH,ACalls Tryz.prog 47 [.agg (lnkC x)] h fun y h'=>h'=h∧y = .ret (iv (linkE x)):=fun x hx h=>link_b (hok.2.2 x hx).1 (hok.2.2 x hx).2
 refine tI' k17 fun N hn hlt hlA hbd=>?_
 simp only [tA',AV.bdL,AV.bd,and_true,true_and] at hbd ⊢
 refine wr'<|E' (e_box (cvl lk0 rfl) rfl (hl0 hn) ha0) pt1<|mv' lki pt2<|sn'<|w_seq<|wr'<|V' (v_loadpA lk1 (hga hn rfl) SrcC_tk0_3 rfl) pt4<|s_callp (mp1 lk4 mp0) (many_b) pt5<|sn'<|?_
 refine w_condB lk5 (fun hc1=>?_) (fun hc1=>?_)
 ·refine wr'<|mv' lki pt2<|sn'<|w_rets<|r_thn<|w_ret (rs1 (rr_t gt2))<|rT'<|?_
  refine ivx ?_;unfold checkE;simp_all
 refine w_skip<|n_seq<|wr'<|V' (v_fap0 lk1) pt6<|V' (v_loadp lk6 (hga hn rfl) gt0) pt7<|s_callp (mp1 lk7 (mp1 lkf mp0)) (firstRul_a p1) pt8<|mv' lk8 pt3<|sn'<|w_seq<|wr'<|mv' lk3 pt9<|?_
 refine V' (v_eql lk9 lki) pt10<|sn'<|?_
 refine cd' lk10 (fun hc2=>?_) (fun hc2=>?_)
 ·refine w_reg<|V' (v_fap0 lk1) pt11<|V' (v_loadp lk11 (hga hn rfl) gt1) pt12<|s_callp (mp1 lk12 (mp1 lkf mp0)) (firstZon_a p2) pt13<|mv' lk13 pt3<|sn'<|w_seq<|wr'<|mv' lk3 pt14<|V' (v_eql lk14 lki) pt15<|sn'<|?_
  refine cd' lk15 (fun hc3=>?_) (fun hc3=>?_)
  ·refine w_reg<|V' (v_fap0 lk1) pt16<|V' (v_loadp lk16 (hga hn rfl) gt2) pt17<|s_callp (mp1 lk17 (mp1 lkf mp0)) (firstLnk_a p3) pt18<|mv' lk18 pt3<|sn'<|wr'<|mv' lk3 pt19<|mv' lk19 pt2<|sn'<|w_rets<|?_
   refine w_ret (rs1 (rr_t gt2))<|rT'<|?_
   refine ivx ?_;unfold checkE;simp_all
  refine w_skip<|n_seq<|wr'<|mv' lk3 pt19<|mv' lk19 pt2<|sn'<|w_rets<|w_ret (rs1 (rr_t gt2))<|rT'<|?_
  refine ivx ?_;unfold checkE;simp_all
 refine w_skip<|n_seq<|w_seq<|wr'<|mv' lk3 pt14<|V' (v_eql lk14 lki) pt15<|sn'<|?_
 refine cd' lk15 (fun hc3=>?_) (fun hc3=>?_)
 ·refine w_reg<|V' (v_fap0 lk1) pt16<|V' (v_loadp lk16 (hga hn rfl) gt2) pt17<|s_callp (mp1 lk17 (mp1 lkf mp0)) (firstLnk_a p3) pt18<|mv' lk18 pt3<|sn'<|wr'<|mv' lk3 pt19<|mv' lk19 pt2<|sn'<|w_rets<|?_
  refine w_ret (rs1 (rr_t gt2))<|rT'<|?_
  refine ivx ?_;unfold checkE;simp_all
 refine w_skip<|n_seq<|wr'<|mv' lk3 pt19<|mv' lk19 pt2<|sn'<|w_rets<|w_ret (rs1 (rr_t gt2))<|rT'<|?_
 refine ivx ?_;unfold checkE;simp_all
end Go.Proofs.YtgjchdhdopgkkaaGreatDoor
end
section
namespace Go.Proofs.YtgjchdhdopgkkaaGreatDoor
open Go.Ab
abbrev TS:=List ByteArray×Bool
abbrev bad (t:TS):TS:=(t.1,true)
def tNext (t:TS):ByteArray×TS:=if t.2=true∨t.1=[] then (⟨#[]⟩,bad t) else (t.1.headD ⟨#[]⟩,t.1.tail,false)
def decL:Int→Bs→Int
 | n,[]=>n
 | n,c::l=>decL (10*n+c.toNat-48) l
def numV (s:ByteArray) (a b:Int):Option Int:=if wi s.size a b=true∧allB digB s=true then some (decL 0 (aB s)) else none
def tNum (s:ByteArray) (a b:Int) (t:TS):Int×TS:=match numV s a b with
 | some n=>(n,t)
 | none=>(0,bad t)
def tName (t:TS):ByteArray×TS:=((tNext t).1,if nameB (tNext t).1=true then (tNext t).2 else bad (tNext t).2)
def idxL:List ByteArray→ByteArray→Int→Option Int
 | [],_,_=>none
 | x::l,s,d=>if s=x then some d else idxL l s (d+1)
def monL:List ByteArray:=[bA [74,97,110],bA [70,101,98],bA [77,97,114],bA [65,112,114],bA [77,97,121],bA [74,117,110],bA [74,117,108],bA [65,117,103],bA [83,101,112],bA [79,99,116],bA [78,111,118],bA [68,101,99]]
def dayL:List ByteArray:=[bA [83,117,110],bA [77,111,110],bA [84,117,101],bA [87,101,100],bA [84,104,117],bA [70,114,105],bA [83,97,116]]
def tMonth (t:TS):Int×TS:=match idxL monL (tNext t).1 1 with
 | some n=>(n,(tNext t).2)
 | none=>(0,bad (tNext t).2)
def tWeek (s:ByteArray) (t:TS):Int×TS:=match idxL dayL s 0 with
 | some n=>(n,t)
 | none=>(0,bad t)
def byteI (s:ByteArray) (k:Nat):Int:=(byteAt s k).toNat
def formK (s:ByteArray):Nat:=if 4≤s.size∧s.extract 0 4=bA [108,97,115,116] then 2 else if 5<s.size∧byteI s 4=61∧byteI s 3=62 then 3 else if 5<s.size∧byteI s 4=61∧byteI s 3=60 then 4 else 1
def tFormS (s:ByteArray) (t:TS):Frm×TS :=
 if formK s=2 then ((2,(tWeek (s.extract 4 s.size) t).1,0),(tWeek (s.extract 4 s.size) t).2)
 else if formK s=1 then ((1,0,(tNum s 1 2 t).1),(tNum s 1 2 t).2)
 else ((formK s,(tWeek (s.extract 0 3) t).1,(tNum (s.extract 5 s.size) 1 2 (tWeek (s.extract 0 3) t).2).1),(tNum (s.extract 5 s.size) 1 2 (tWeek (s.extract 0 3) t).2).2)
def tForm (t:TS):Frm×TS:=tFormS (tNext t).1 (tNext t).2
def tSix (s:ByteArray) (t:TS):Int×TS:=((tNum s 2 2 t).1,if (tNum s 2 2 t).1>59 then bad (tNum s 2 2 t).2 else (tNum s 2 2 t).2)
def tSpanL (l:List Bs) (t:TS):Int×TS:=match l with
 | [a,b]=>(3600*(tNum (bA a) 1 2 t).1+60*(tSix (bA b) (tNum (bA a) 1 2 t).2).1,(tSix (bA b) (tNum (bA a) 1 2 t).2).2)
 | [a,b,c]=>(3600*(tNum (bA a) 1 2 t).1+60*(tSix (bA b) (tNum (bA a) 1 2 t).2).1+(tSix (bA c) (tSix (bA b) (tNum (bA a) 1 2 t).2).2).1,(tSix (bA c) (tSix (bA b) (tNum (bA a) 1 2 t).2).2).2)
 | _=>(0,bad t)
def tSpan (s:ByteArray) (t:TS):Int×TS:=if s=bA [48] then (0,t) else tSpanL (cutC 58 (aB s)) t
def wsuA:ByteArray:=bA [63,119,115,117]
def kindU (c d:Int):Nat→Int
 | 0=>d
 | k+1=>if c=byteI wsuA (k+1) then ((k+1:Nat):Int) else kindU c d k
def lastI (s:ByteArray):Int:=byteI s (s.size-1)
def tClockS (d:Int) (s:ByteArray) (t:TS):(Int×Int)×TS :=
 if s.size=0 then (((tSpan s t).1,d),(tSpan s t).2)
 else if digB (lastI s)=true then (((tSpan s t).1,kindU (lastI s) d 3),(tSpan s t).2)
 else let u:TS:=if lastI s=byteI wsuA (kindU (lastI s) d 3).toNat then t else bad t
  (((tSpan (s.extract 0 (s.size-1)) u).1,kindU (lastI s) d 3),(tSpan (s.extract 0 (s.size-1)) u).2)
def tClock (d:Int) (t:TS):(Int×Int)×TS:=tClockS d (tNext t).1 (tNext t).2
def onlyA:ByteArray:=bA [111,110,108,121]
def maxA:ByteArray:=bA [109,97,120]
def tTo (f:Int) (s:ByteArray) (t:TS):Int×TS:=if s=onlyA then (f,t) else if s=maxA then (2100,t) else tNum s 4 4 t
def letterB (s:ByteArray):Bool:=decide (s≠⟨#[]⟩)&&(decide (s=bA [45])||lettersB s)
def bind2 {α β:Type}(f:TS→α×TS) (k:α→TS→β×TS) (t:TS):β×TS:=k (f t).1 (f t).2
def ret2 {α:Type}(a:α) (t:TS):α×TS:=(a,t)
def tYear (t:TS):Int×TS:=tNum (tNext t).1 4 4 (tNext t).2
def tToN (f:Int) (t:TS):Int×TS:=tTo f (tNext t).1 (tNext t).2
def tSpanN (t:TS):Int×TS:=tSpan (tNext t).1 (tNext t).2
def tLetter (t:TS):ByteArray×TS:=(if (tNext t).1=bA [45] then ⟨#[]⟩ else (tNext t).1,if letterB (tNext t).1=true then (tNext t).2 else bad (tNext t).2)
def tRule:TS→Rul×TS :=
 bind2 tName fun nm=>bind2 tYear fun f=>bind2 (tToN f) fun t2=>bind2 tMonth fun m=>bind2 tForm fun k=>bind2 (tClock 1) fun c=>bind2 tSpanN fun sv=>bind2 tLetter fun l=>ret2 (nm,f,t2,m,k,c.1,c.2,sv,l)
def headI (s:ByteArray):Int:=byteI s 0
def tShift (t:TS):Int×TS:=if (tNext t).1.size≠0∧headI (tNext t).1=45 then (-(tSpan ((tNext t).1.extract 1 (tNext t).1.size) (tNext t).2).1,(tSpan ((tNext t).1.extract 1 (tNext t).1.size) (tNext t).2).2) else tSpan (tNext t).1 (tNext t).2
def tRulesS (s:ByteArray) (t:TS):(Int×ByteArray)×TS :=
 if s=bA [45] then ((0,⟨#[]⟩),t)
 else if s.size≠0∧digB (headI s)=true then (((tSpan s (if s=bA [48] then bad t else t)).1,⟨#[]⟩),(tSpan s (if s=bA [48] then bad t else t)).2)
 else ((0,s),if nameB s=true then t else bad t)
def tRules (t:TS):(Int×ByteArray)×TS:=tRulesS (tNext t).1 (tNext t).2
def tFormat (t:TS):ByteArray×TS:=((tNext t).1,if formatB (tNext t).1=true then (tNext t).2 else bad (tNext t).2)
def tDay (t:TS):Int×TS:=tNum (tNext t).1 1 2 (tNext t).2
def tWall (c:Int×Int) (t:TS):Unit×TS:=((),if c.2=1 then bad t else t)
def tUntil:TS→Unt×TS :=
 bind2 tYear fun y=>bind2 tMonth fun m=>bind2 tDay fun d=>bind2 (tClock 2) fun c=>bind2 (tWall c) fun _=>ret2 ((y,m,d),c.1,c.2)
def untZ:Unt:=((0,0,0),0,0)
def tEnd (t:TS):(Bool×Unt)×TS:=if t.1=[] then ((true,untZ),t) else ((false,(tUntil t).1),(tUntil t).2)
def tEra:TS→Era×TS :=
 bind2 tShift fun sh=>bind2 tRules fun r=>bind2 tFormat fun f=>bind2 tEnd fun u=>ret2 (sh,r.2,r.1,f,u.1,u.2)
def rNext:List ByteArray→Option (ByteArray×List ByteArray)
 | []=>none
 | x::l=>some (x,l)
abbrev RM (α:Type):=List ByteArray→Option (α×List ByteArray)
def bindR {α β:Type}(f:RM α) (k:α→RM β):RM β:=fun l=>match f l with
 | none=>none
 | some p=>k p.1 p.2
def retR {α:Type}(a:α):RM α:=fun l=>some (a,l)
def liftR {α:Type}(o:Option α):RM α:=fun l=>match o with
 | none=>none
 | some a=>some (a,l)
def rName:RM ByteArray:=bindR rNext fun s=>liftR (if nameB s=true then some s else none)
def rMonth:RM Int:=bindR rNext fun s=>liftR (idxL monL s 1)
def sixV (s:ByteArray):Option Int:=match numV s 2 2 with
 | some n=>if n>59 then none else some n
 | none=>none
def spanV (s:ByteArray):Option Int:=if s=bA [48] then some 0 else match cutC 58 (aB s) with
 | [a,b]=>match numV (bA a) 1 2,sixV (bA b) with
  | some x,some y=>some (3600*x+60*y)
  | _,_=>none
 | [a,b,c]=>match numV (bA a) 1 2,sixV (bA b),sixV (bA c) with
  | some x,some y,some z=>some (3600*x+60*y+z)
  | _,_,_=>none
 | _=>none
def formV (s:ByteArray):Option Frm :=
 if formK s=2 then (match idxL dayL (s.extract 4 s.size) 0 with
  | some w=>some (2,w,0)
  | none=>none)
 else if formK s=1 then (match numV s 1 2 with
  | some n=>some (1,0,n)
  | none=>none)
 else match idxL dayL (s.extract 0 3) 0,numV (s.extract 5 s.size) 1 2 with
  | some w,some n=>some ((formK s:Int),w,n)
  | _,_=>none
def wsuK (c:Int):Option Int:=if c=119 then some 1 else if c=115 then some 2 else if c=117 then some 3 else none
def clockV (d:Int) (s:ByteArray):Option (Int×Int):=match (if s.size=0 then none else wsuK (lastI s)) with
 | some k=>(match spanV (s.extract 0 (s.size-1)) with
  | some n=>some (n,k)
  | none=>none)
 | none=>(match spanV s with
  | some n=>some (n,d)
  | none=>none)
def toV (f:Int) (s:ByteArray):Option Int:=if s=onlyA then some f else if s=maxA then some 2100 else numV s 4 4
def letterV (s:ByteArray):Option ByteArray:=if letterB s=true then some (if s=bA [45] then ⟨#[]⟩ else s) else none
def rRule:RM Rul :=
 bindR rName fun nm=>bindR (bindR rNext fun s=>liftR (numV s 4 4)) fun f=>bindR (bindR rNext fun s=>liftR (toV f s)) fun t2=>bindR rMonth fun m=>bindR (bindR rNext fun s=>liftR (formV s)) fun k =>
  bindR (bindR rNext fun s=>liftR (clockV 1 s)) fun c=>bindR (bindR rNext fun s=>liftR (spanV s)) fun sv=>bindR (bindR rNext fun s=>liftR (letterV s)) fun l=>retR (nm,f,t2,m,k,c.1,c.2,sv,l)
def shiftV (s:ByteArray):Option Int:=if s.size≠0∧headI s=45 then (match spanV (s.extract 1 s.size) with
  | some n=>some (-n)
  | none=>none) else spanV s
def rulesV (s:ByteArray):Option (Int×ByteArray) :=
 if s=bA [45] then some (0,⟨#[]⟩)
 else if s.size≠0∧digB (headI s)=true∧s≠bA [48] then (match spanV s with
  | some n=>some (n,⟨#[]⟩)
  | none=>none)
 else if nameB s=true then some (0,s) else none
def rUntil:RM Unt :=
 bindR (bindR rNext fun s=>liftR (numV s 4 4)) fun y=>bindR rMonth fun m=>bindR (bindR rNext fun s=>liftR (numV s 1 2)) fun d=>bindR (bindR rNext fun s=>liftR (clockV 2 s)) fun c=>bindR (liftR (if c.2=1 then none else some ())) fun _=>retR ((y,m,d),c.1,c.2)
def rEnd:RM (Bool×Unt):=fun l=>if l=[] then some ((true,untZ),l) else match rUntil l with
 | some p=>some ((false,p.1),p.2)
 | none=>none
def rEra:RM Era :=
 bindR (bindR rNext fun s=>liftR (shiftV s)) fun sh=>bindR (bindR rNext fun s=>liftR (rulesV s)) fun r=>bindR (bindR rNext fun s=>liftR (if formatB s=true then some s else none)) fun f=>bindR rEnd fun u=>retR (sh,r.2,r.1,f,u.1,u.2)
def Agr {α:Type}(f:TS→α×TS) (g:RM α):Prop := ∀ l,(f (l,true)).2.2=true∧match g l with
 | none=>(f (l,false)).2.2=true
 | some p=>f (l,false)=(p.1,p.2,false)
theorem Agr.bind {α β:Type}{f:TS→α×TS}{g:RM α}{k:α→TS→β×TS}{m:α→RM β}(h:Agr f g) (hk : ∀ a,Agr (k a) (m a)):Agr (bind2 f k) (bindR g m):=by
 have stay : ∀ (a:α) (t:TS),t.2=true→(k a t).2.2=true:=by
  rintro a ⟨l,b⟩ rfl;exact (hk a l).1
 intro l
 refine ⟨stay _ _ (h l).1,?_⟩
 have h2:=(h l).2
 unfold bindR bind2
 revert h2
 cases hg:g l with
 | none=>exact fun h2=>stay _ _ h2
 | some p=>intro h2;simp only at h2;rw [h2];exact (hk p.1 p.2).2
theorem Agr.ret {α:Type}(a:α):Agr (ret2 a) (retR a):=fun l=>⟨rfl,rfl⟩
theorem agr_next:Agr tNext rNext:=by
 intro l
 cases l with
 | nil=>exact ⟨rfl,rfl⟩
 | cons x l=>exact ⟨rfl,rfl⟩
def AgO {α:Type}(o:Option α) (x:α×TS) (l:List ByteArray):Prop:=match o with
 | none=>x.2.2=true
 | some a=>x=(a,l,false)
theorem Agr.lift {α:Type}{f:TS→α×TS}{o:Option α}(hb : ∀ t:TS,t.2=true→(f t).2.2=true) (hf : ∀ l,AgO o (f (l,false)) l):Agr f (liftR o):=by
 intro l
 refine ⟨hb _ rfl,?_⟩
 have:=hf l
 unfold liftR
 cases o <;> exact this
theorem agr_num (s:ByteArray) (a b:Int):Agr (tNum s a b) (liftR (numV s a b)):=by
 refine Agr.lift (fun t h=>?_) (fun l=>?_)
 ·unfold tNum;split <;> simp_all
 ·unfold tNum;cases numV s a b <;> rfl
theorem tNum_stay {s:ByteArray}{a b:Int}{t:TS}(h:t.2=true):(tNum s a b t).2.2=true:=by unfold tNum;split <;> simp_all
theorem tWeek_stay {s:ByteArray}{t:TS}(h:t.2=true):(tWeek s t).2.2=true:=by unfold tWeek;split <;> simp_all
theorem tSix_stay {s:ByteArray}{t:TS}(h:t.2=true):(tSix s t).2.2=true:=by unfold tSix;have:=tNum_stay (s:=s) (a:=2) (b:=2) h;split <;> simp_all
theorem tSpan_stay {s:ByteArray}{t:TS}(h:t.2=true):(tSpan s t).2.2=true:=by
 unfold tSpan
 split
 ·exact h
 ·unfold tSpanL
  split
  ·exact tSix_stay (tNum_stay h)
  ·exact tSix_stay (tSix_stay (tNum_stay h))
  ·rfl
theorem tNum_some {s:ByteArray}{a b n:Int}{t:TS}(h:numV s a b=some n):tNum s a b t=(n,t):=by unfold tNum;rw [h]
theorem tNum_none {s:ByteArray}{a b:Int}{t:TS}(h:numV s a b=none):tNum s a b t=(0,bad t):=by unfold tNum;rw [h]
theorem tSix_some {s:ByteArray}{n:Int}{t:TS}(h:sixV s=some n):tSix s t=(n,t):=by
 unfold sixV at h
 split at h
 ·rename_i m hm
  unfold tSix
  rw [tNum_some hm]
  split at h
  ·cases h
  ·rename_i hle;cases h;simp [hle]
 ·cases h
theorem tSix_none {s:ByteArray}{t:TS}(h:sixV s=none):(tSix s t).2.2=true:=by
 unfold sixV at h
 split at h
 ·rename_i m hm
  unfold tSix
  rw [tNum_some hm]
  split at h
  ·rename_i hle;simp [hle]
  ·cases h
 ·rename_i hm;unfold tSix;rw [tNum_none hm];simp
theorem agr_span (s:ByteArray):Agr (tSpan s) (liftR (spanV s)):=by
 refine Agr.lift (fun t h=>tSpan_stay h) (fun l=>?_)
 unfold tSpan spanV
 by_cases h0:s=bA [48]
 ·simp only [if_pos h0];rfl
 ·simp only [if_neg h0]
  obtain ⟨y,hy⟩ : ∃ y,y=cutC 58 (aB s):=⟨_,rfl⟩
  simp only [←hy]
  clear hy
  match y with
  | []=>rfl
  | [_]=>rfl
  | _::_::_::_::_=>rfl
  | [a,b] =>
   simp only [tSpanL]
   cases h1:numV (bA a) 1 2 with
   | none=>rw [tNum_none h1];exact tSix_stay rfl
   | some x =>
    rw [tNum_some h1]
    cases h2:sixV (bA b) with
    | none=>exact tSix_none h2
    | some y=>simp only;rw [tSix_some h2];rfl
  | [a,b,c] =>
   simp only [tSpanL]
   cases h1:numV (bA a) 1 2 with
   | none=>rw [tNum_none h1];exact tSix_stay (tSix_stay rfl)
   | some x =>
    rw [tNum_some h1]
    cases h2:sixV (bA b) with
    | none=>exact tSix_stay (tSix_none h2)
    | some y =>
     simp only;rw [tSix_some h2]
     cases h3:sixV (bA c) with
     | none=>exact tSix_none h3
     | some z=>simp only;rw [tSix_some h3];rfl
theorem agr_form (s:ByteArray):Agr (tFormS s) (liftR (formV s)):=by
 refine Agr.lift (fun t h=>?_) (fun l=>?_)
 ·unfold tFormS
  split
  ·exact tWeek_stay h
  ·split
   ·exact tNum_stay h
   ·exact tNum_stay (tWeek_stay h)
 ·unfold tFormS formV
  by_cases hk2:formK s=2
  ·simp only [if_pos hk2]
   unfold tWeek
   cases h1:idxL dayL (s.extract 4 s.size) 0 <;> rfl
  ·simp only [if_neg hk2]
   by_cases hk1:formK s=1
   ·simp only [if_pos hk1]
    cases h1:numV s 1 2 with
    | none=>rw [tNum_none h1];rfl
    | some n=>rw [tNum_some h1];rfl
   ·simp only [if_neg hk1]
    cases h1:idxL dayL (s.extract 0 3) 0 with
    | none=>refine tNum_stay ?_;unfold tWeek;rw [h1]
    | some w =>
     unfold tWeek;rw [h1]
     cases h2:numV (s.extract 5 s.size) 1 2 with
     | none=>rw [tNum_none h2];rfl
     | some n=>rw [tNum_some h2];rfl
theorem kindU3 (c d:Int):kindU c d 3=(wsuK c).getD d:=by
 unfold kindU kindU kindU kindU wsuK
 rw [show byteI wsuA (2+1)=117 by decide,show byteI wsuA (1+1)=115 by decide,show byteI wsuA (0+1)=119 by decide]
 split
 ·subst c;rfl
 ·split
  ·subst c;rfl
  ·split
   ·subst c;rfl
   ·rfl
theorem wsuK_dig {c k:Int}(h:wsuK c=some k):digB c=false∧1≤k∧k≤3∧c=byteI wsuA k.toNat:=by
 unfold wsuK at h
 split at h
 ·subst c;cases h;decide
 ·split at h
  ·subst c;cases h;decide
  ·split at h
   ·subst c;cases h;decide
   ·cases h
theorem wsu_lit (k:Int) (h:1≤k∧k≤3):wsuK (byteI wsuA k.toNat)=some k:=by
 obtain ⟨h1,h2⟩:=h
 have:k=1∨k=2∨k=3:=by omega
 rcases this with rfl | rfl | rfl <;> decide
theorem cutC_flat1 {x:UInt8} : ∀ {l z:Bs},cutC x l=[z]→l=z
 | [],z,h=>by simp [cutC] at h;exact h.symm
 | c::l,z,h=>by
  unfold cutC at h
  split at h
  ·simp only [List.cons.injEq] at h;exact absurd h.2 (cutC_ne x l)
  ·split at h
   ·rename_i he;exact absurd he (cutC_ne x l)
   ·rename_i y ys he
    simp only [List.cons.injEq] at h
    obtain ⟨rfl,rfl⟩:=h
    rw [cutC_flat1 he]
theorem cutC_suf (x:UInt8) : ∀ {l:Bs}{ys:List Bs}{y:Bs},cutC x l=ys++[y] → ∃ p,l=p++y
 | [],ys,y,h=>by
  cases ys with
  | nil=>simp [cutC] at h;exact ⟨[],by simp [h]⟩
  | cons a ys=>simp [cutC] at h
 | c::l,ys,y,h=>by
  unfold cutC at h
  split at h
  ·cases ys with
   | nil=>simp at h;exact absurd h.2 (cutC_ne x l)
   | cons a ys =>
    simp only [List.cons_append,List.cons.injEq] at h
    obtain ⟨p,hp⟩:=cutC_suf x h.2
    exact ⟨c::p,by rw [hp];rfl⟩
  ·split at h
   ·rename_i he;exact absurd he (cutC_ne x l)
   ·rename_i z zs he
    cases ys with
    | nil =>
     simp only [List.nil_append,List.cons.injEq] at h
     obtain ⟨rfl,rfl⟩:=h
     obtain ⟨p,hp⟩:=cutC_suf x (ys:=[]) (y:=z) (by rw [he];rfl)
     have h0:=cutC_flat1 he
     exact ⟨[],by rw [←h0];rfl⟩
    | cons a ys =>
     simp only [List.cons_append,List.cons.injEq] at h
     obtain ⟨p,hp⟩:=cutC_suf x (l:=l) (ys:=z::ys) (y:=y) (by rw [he,h.2];rfl)
     exact ⟨c::p,by rw [hp];rfl⟩
theorem drop_last : ∀ {y:Bs}(hy:y≠[]),y.drop (y.length-1)=[y.getLast hy]
 | [c],_=>rfl
 | c::d::l,_=>by have:=drop_last (y:=d::l) (by simp);simpa using this
theorem lastI_suf {s:ByteArray}{p y:Bs}(h:aB s=p++y) (hy:y≠[]) : ∃ c∈y,lastI s=(c.toNat:Int):=by
 refine ⟨y.getLast hy,List.getLast_mem hy,?_⟩
 have hl:s.size=p.length+y.length:=by rw [←aB_len,h,List.length_append]
 have hp:0<y.length:=List.length_pos_iff.2 hy
 have h0:s.size-1<s.size:=by omega
 have e1:(aB s).drop (s.size-1)=byteAt s (s.size-1)::(aB s).drop (s.size-1+1):=aB_at h0
 have e2:(aB s).drop (s.size-1)=[y.getLast hy]:=by
  rw [h,show s.size-1=p.length+(y.length-1) by omega,List.drop_append,List.drop_of_length_le (by omega),List.nil_append,Nat.add_sub_cancel_left]
  exact drop_last hy
 rw [e2] at e1
 simp only [List.cons.injEq] at e1
 unfold lastI byteI
 rw [e1.1]
theorem numV_some {s:ByteArray}{a b n:Int}(h:numV s a b=some n):wi s.size a b=true∧allB digB s=true∧n=decL 0 (aB s):=by
 unfold numV at h
 split at h
 ·rename_i hc;cases h;exact ⟨hc.1,hc.2,rfl⟩
 ·cases h
theorem sixV_some {s:ByteArray}{n:Int}(h:sixV s=some n):s.size=2∧allB digB s=true∧n=decL 0 (aB s)∧n≤59:=by
 unfold sixV at h
 split at h
 ·rename_i m hm
  obtain ⟨h1,h2,h3⟩:=numV_some hm
  split at h
  ·cases h
  ·cases h
   unfold wi at h1
   simp at h1
   exact ⟨by omega,h2,h3,by omega⟩
 ·cases h
theorem allB_mem {p:Int→Bool}{l:Bs}(h:allB p (bA l)=true) {c:UInt8}(hc:c∈l):p c.toNat=true:=by
 unfold allB at h
 rw [List.all_eq_true] at h
 exact h c (by simpa [bA] using hc)
theorem span_last {s:ByteArray}{n:Int}(h:spanV s=some n):s.size≠0∧digB (lastI s)=true:=by
 have key : ∀ {ys:List Bs} {y:Bs} {m:Int},cutC 58 (aB s)=ys++[y]→sixV (bA y)=some m→s.size≠0∧digB (lastI s)=true:=by
  intro ys y m h1 h2
  obtain ⟨p,hp⟩:=cutC_suf 58 h1
  obtain ⟨z1,z2,_⟩:=sixV_some h2
  rw [bA_size] at z1
  obtain ⟨c,hc,e⟩:=lastI_suf hp (by rintro rfl;simp at z1)
  refine ⟨fun e0=>?_,by rw [e];exact allB_mem z2 hc⟩
  have:=congrArg List.length hp
  rw [aB_len,List.length_append] at this;omega
 unfold spanV at h
 split at h
 ·rename_i e;subst e;decide
 ·split at h
  ·rename_i a b hc
   split at h
   ·rename_i x y h1 h2;exact key (ys:=[a]) hc h2
   ·cases h
  ·rename_i a b c hc
   split at h
   ·rename_i x y z h1 h2 h3;exact key (ys:=[a,b]) hc h3
   ·cases h
  ·cases h
theorem agr_at {α:Type}{f:TS→α×TS}{o:Option α}(h:Agr f (liftR o)) (l:List ByteArray):AgO o (f (l,false)) l:=by
 have:=(h l).2
 unfold liftR at this
 unfold AgO
 cases o <;> exact this
theorem agr_clock {d:Int}(hd:d=1∨d=2) (s:ByteArray):Agr (tClockS d s) (liftR (clockV d s)):=by
 refine Agr.lift (fun t h=>?_) (fun l=>?_)
 ·unfold tClockS
  split
  ·exact tSpan_stay h
  ·split
   ·exact tSpan_stay h
   ·refine tSpan_stay ?_
    split
    ·exact h
    ·rfl
 ·have hS:=agr_at (agr_span s) l
  have hX:=agr_at (agr_span (s.extract 0 (s.size-1))) l
  unfold tClockS clockV
  by_cases h0:s.size=0
  ·rw [if_pos h0,if_pos h0]
   cases h1:spanV s with
   | none=>rw [h1] at hS;exact hS
   | some n=>exact absurd h0 (span_last h1).1
  ·rw [if_neg h0,if_neg h0,kindU3]
   cases hk:wsuK (lastI s) with
   | none =>
    simp only [Option.getD_none]
    cases h1:spanV s with
    | none =>
     rw [h1] at hS
     by_cases hdg:digB (lastI s)=true
     ·rw [if_pos hdg];exact hS
     ·rw [if_neg hdg]
      by_cases e:lastI s=byteI wsuA d.toNat
      ·exfalso
       have:=wsu_lit d (by omega)
       rw [←e,hk] at this;cases this
      ·rw [if_neg e]
       exact tSpan_stay (t:=bad (l,false)) rfl
    | some n =>
     rw [h1] at hS
     rw [if_pos (span_last h1).2]
     have hS':tSpan s (l,false)=(n,l,false):=hS
     rw [hS'];rfl
   | some k =>
    obtain ⟨w1,w2,w3,w4⟩:=wsuK_dig hk
    simp only [Option.getD_some]
    rw [if_neg (by rw [w1];exact Bool.false_ne_true),if_pos w4]
    cases h1:spanV (s.extract 0 (s.size-1)) with
    | none=>rw [h1] at hX;exact hX
    | some n =>
     rw [h1] at hX
     have hX':tSpan (s.extract 0 (s.size-1)) (l,false)=(n,l,false):=hX
     rw [hX'];rfl
theorem agr_to (f:Int) (s:ByteArray):Agr (tTo f s) (liftR (toV f s)):=by
 unfold tTo toV
 split
 ·exact Agr.lift (fun t h=>h) (fun l=>rfl)
 ·split
  ·exact Agr.lift (fun t h=>h) (fun l=>rfl)
  ·exact agr_num s 4 4
theorem agr_name:Agr tName rName:=by
 refine (Agr.bind agr_next (k:=fun s t=>(s,if nameB s=true then t else bad t)) fun s=>?_:Agr (bind2 tNext _) _)
 refine Agr.lift (fun t h=>by dsimp only;split;exact h;rfl) (fun l=>?_)
 cases nameB s <;> rfl
theorem agr_month:Agr tMonth rMonth:=by
 refine (Agr.bind agr_next (k:=fun s t=>match idxL monL s 1 with
  | some n=>(n,t)
  | none=>(0,bad t)) fun s=>?_:Agr (bind2 tNext _) _)
 refine Agr.lift (fun t h=>by split;exact h;rfl) (fun l=>?_)
 cases idxL monL s 1 <;> rfl
theorem agr_letter:Agr tLetter (bindR rNext fun s=>liftR (letterV s)):=by
 refine (Agr.bind agr_next (k:=fun s t=>(if s=bA [45] then ⟨#[]⟩ else s,if letterB s=true then t else bad t)) fun s=>?_:Agr (bind2 tNext _) _)
 refine Agr.lift (fun t h=>by dsimp only;generalize letterB s=b;cases b;rfl;exact h) (fun l=>?_)
 unfold letterV
 cases letterB s <;> rfl
theorem agr_rule:Agr tRule rRule:=by
 refine agr_name.bind fun nm=>?_
 refine (agr_next.bind fun s=>agr_num s 4 4).bind fun f=>?_
 refine (agr_next.bind fun s=>agr_to f s).bind fun t2=>?_
 refine agr_month.bind fun m=>?_
 refine (agr_next.bind fun s=>agr_form s).bind fun k=>?_
 refine (agr_next.bind fun s=>agr_clock (.inl rfl) s).bind fun c=>?_
 refine (agr_next.bind fun s=>agr_span s).bind fun sv=>?_
 exact agr_letter.bind fun l=>Agr.ret _
theorem agr_shift:Agr tShift (bindR rNext fun s=>liftR (shiftV s)):=by
 refine (Agr.bind agr_next (k:=fun s t=>if s.size≠0∧headI s=45 then (-(tSpan (s.extract 1 s.size) t).1,(tSpan (s.extract 1 s.size) t).2) else tSpan s t) fun s=>?_:Agr (bind2 tNext _) _)
 unfold shiftV
 split
 ·refine Agr.lift (fun t h=>tSpan_stay h) (fun l=>?_)
  have hS:=(agr_span (s.extract 1 s.size) l).2
  unfold liftR at hS
  cases h1:spanV (s.extract 1 s.size) with
  | none=>simp only [h1] at hS ⊢;exact hS
  | some n=>simp only [h1] at hS ⊢;rw [hS];rfl
 ·exact agr_span s
theorem name_zero:nameB (bA [48])=false:=by decide
theorem agr_rules (s:ByteArray):Agr (tRulesS s) (liftR (rulesV s)):=by
 unfold tRulesS rulesV
 split
 ·exact Agr.lift (fun t h=>h) (fun l=>rfl)
 ·split
  ·rename_i hm hd
   by_cases h0:s=bA [48]
   ·rw [if_neg (by rintro ⟨_,_,h⟩;exact h h0),if_neg (by rw [h0,name_zero];simp)]
    refine Agr.lift (fun t h=>tSpan_stay (by rw [if_pos h0])) (fun l=>?_)
    exact tSpan_stay (by rw [if_pos h0])
   ·rw [if_pos ⟨hd.1,hd.2,h0⟩]
    simp only [if_neg h0]
    refine Agr.lift (fun t h=>tSpan_stay h) (fun l=>?_)
    have hS:=(agr_span s l).2
    unfold liftR at hS
    cases h1:spanV s with
    | none=>simp only [h1] at hS ⊢;exact hS
    | some n=>simp only [h1] at hS ⊢;rw [hS];rfl
  ·rename_i hm hd
   rw [if_neg (by rintro ⟨h1,h2,_⟩;exact hd ⟨h1,h2⟩)]
   refine Agr.lift (fun t h=>by dsimp only;split;exact h;rfl) (fun l=>?_)
   cases nameB s <;> rfl
theorem agr_format:Agr tFormat (bindR rNext fun s=>liftR (if formatB s=true then some s else none)):=by
 refine (Agr.bind agr_next (k:=fun s t=>(s,if formatB s=true then t else bad t)) fun s=>?_:Agr (bind2 tNext _) _)
 refine Agr.lift (fun t h=>by dsimp only;split;exact h;rfl) (fun l=>?_)
 cases formatB s <;> rfl
theorem agr_until:Agr tUntil rUntil:=by
 refine (agr_next.bind fun s=>agr_num s 4 4).bind fun y=>?_
 refine agr_month.bind fun m=>?_
 refine (agr_next.bind fun s=>agr_num s 1 2).bind fun d=>?_
 refine (agr_next.bind fun s=>agr_clock (.inr rfl) s).bind fun c=>?_
 refine Agr.bind (Agr.lift (fun t h=>?_) (fun l=>?_)) fun _=>Agr.ret _
 ·unfold tWall;dsimp only;split <;> simp_all
 ·unfold tWall;by_cases h:c.2=1 <;> simp [h] <;> rfl
theorem agr_end:Agr tEnd rEnd:=by
 intro l
 have hU:=agr_until l
 unfold tEnd rEnd
 by_cases h0:l=[]
 ·subst h0;exact ⟨rfl,rfl⟩
 ·simp only [if_neg h0]
  refine ⟨hU.1,?_⟩
  revert hU
  cases rUntil l with
  | none=>exact fun hU=>hU.2
  | some p=>intro hU;have h2:=hU.2;simp only at h2 ⊢;rw [h2]
theorem agr_era:Agr tEra rEra:=by
 refine agr_shift.bind fun sh=>?_
 refine (agr_next.bind fun s=>agr_rules s).bind fun r=>?_
 refine agr_format.bind fun f=>?_
 exact agr_end.bind fun u=>Agr.ret _
end Go.Proofs.YtgjchdhdopgkkaaGreatDoor
end
section
namespace Go.Proofs.YtgjchdhdopgkkaaGreatDoor
open Go.Ab
def refN (n:Int):Bool:=letB n||digB n||decide (n=95)||decide (n=45)||decide (n=47)||decide (n=43)
theorem nameN_ref (c:UInt8):nameN c.toNat=refN c.toNat:=by
 have hc:((c.toNat:Int).toNat.toUInt8)=c:=by simp
 unfold nameN refN
 rw [hc,←Lib.contains_iff_indexByte]
 have e : ∀ x:UInt8,decide ((c.toNat:Int)=(x.toNat:Int))=(c==x):=by
  intro x
  rw [Bool.eq_iff_iff,decide_eq_true_iff,beq_iff_eq]
  exact ⟨fun h=>UInt8.toNat_inj.1 (by omega),fun h=>by rw [h]⟩
 rw [show (95:Int)=((95:UInt8).toNat:Int) from rfl,show (45:Int)=((45:UInt8).toNat:Int) from rfl,show (47:Int)=((47:UInt8).toNat:Int) from rfl,show (43:Int)=((43:UInt8).toNat:Int) from rfl,e,e,e,e]
 simp [List.contains_cons,Bool.or_assoc] <;> rfl
def fmtL:Nat→Bool→Bs→Bool
 | m,_,[]=>decide (m≤1)
 | m,b,c::l=>if c=47 then !b&&!l.isEmpty&&fmtL (m+1) false l else if c=37 then decide (l.head?=some 115)&&fmtL (m+1) false l else plainB c.toNat&&fmtL m false l
abbrev plL (l:Bs):Bool:=allB plainB (bA l)
theorem plL_nil:plL []=true:=rfl
theorem plL_cons (c:UInt8) (l:Bs):plL (c::l)=(plainB c.toNat&&plL l):=by simp [plL,allB,bA]
theorem pl47:plainB (47:UInt8).toNat=false:=by decide
theorem pl37:plainB (37:UInt8).toNat=false:=by decide
theorem pl115:plainB (115:UInt8).toNat=true:=by decide
theorem pl115':plainB 115=true:=by decide
theorem fmt_two : ∀ (l:Bs) (m:Nat) (b:Bool),2≤m→fmtL m b l=false
 | [],m,b,h=>by unfold fmtL;simp;omega
 | c::l,m,b,h=>by
  unfold fmtL
  rw [fmt_two l (m+1) false (by omega),fmt_two l m false h]
  simp
theorem fmt_one : ∀ (l:Bs),fmtL 1 false l=plL l
 | []=>rfl
 | c::l=>by
  unfold fmtL
  rw [fmt_two l (1+1) false (by omega),fmt_one l,plL_cons]
  split
  ·rename_i h;subst h;rw [pl47];simp
  ·split
   ·rename_i h;subst h;rw [pl37];simp
   ·rfl
theorem plL_no {c:UInt8}{l:Bs}(h:plainB c.toNat=false) (hc:c∈l):plL l=false:=by
 cases hp:plL l
 ·rfl
 ·rw [allB_mem hp hc] at h;cases h
def cutP (l:Bs):Bool:=plL (Lib.cut l [37,115]).1&&plL (Lib.cut l [37,115]).2.1
theorem cutP_eq (l:Bs):cutP l=if 0≤Lib.index l [37,115] then plL (l.take (Lib.index l [37,115]).toNat)&&plL (l.drop ((Lib.index l [37,115]).toNat+2)) else plL l:=by
 unfold cutP Lib.cut
 split <;> simp [plL_nil]
theorem index_cons {c:UInt8}{l sub:Bs}(h:sub.isPrefixOf (c::l)=false):Lib.index (c::l) sub=if Lib.index l sub = -1 then -1 else Lib.index l sub+1:=by
 rw [Lib.index,h];simp
theorem cutP_cons {c:UInt8}{l:Bs}(h:[37,115].isPrefixOf (c::l)=false):cutP (c::l)=(plainB c.toNat&&cutP l):=by
 have hge:=Lib.index_ge l [37,115]
 rw [cutP_eq,cutP_eq,index_cons h]
 by_cases e:Lib.index l [37,115] = -1
 ·rw [e];simp [plL_cons]
 ·obtain ⟨k,hk⟩ : ∃ k:Nat,Lib.index l [37,115]=k:=⟨(Lib.index l [37,115]).toNat,by omega⟩
  rw [hk]
  rw [if_neg (show ¬(k:Int) = -1 by omega),if_pos (by omega),if_pos (by omega)]
  rw [show ((k:Int)+1).toNat=k+1 by omega,show ((k:Int)).toNat=k by omega]
  rw [List.take_succ_cons,plL_cons,show k+1+2=(k+2)+1 by omega,List.drop_succ_cons,Bool.and_assoc]
theorem fmt_pct : ∀ (l:Bs) (b:Bool),47 ∉ l→fmtL 0 b l=cutP l
 | [],b,h=>rfl
 | c::l,b,h=>by
  have hc:c≠47:=fun e=>h (by simp [e])
  have hl:47 ∉ l:=fun e=>h (by simp [e])
  unfold fmtL
  rw [if_neg hc]
  by_cases hp:c=37
  ·subst hp
   rw [if_pos rfl]
   cases l with
   | nil=>decide
   | cons d l =>
    by_cases hd:d=115
    ·subst hd
     rw [fmt_one,cutP_eq]
     have e:Lib.index (37::115::l) [37,115]=0:=by unfold Lib.index;simp [List.isPrefixOf]
     rw [e]
     simp [plL_nil,plL_cons,pl115,pl115']
    ·rw [cutP_cons (by simp [List.isPrefixOf];exact fun e=>hd e.symm),pl37]
     simp [hd]
  ·rw [if_neg hp,cutP_cons (by simp [List.isPrefixOf];intro e;exact absurd e.symm hp),fmt_pct l false hl]
theorem fmt_slash : ∀ (l:Bs) (b:Bool),47∈l → ∃ k:Nat,Lib.index l [47]=k∧fmtL 0 b l=(!(b&&decide (k=0))&&!(l.drop (k+1)).isEmpty&&plL (l.take k)&&plL (l.drop (k+1)))
 | [],b,h=>by cases h
 | c::l,b,h=>by
  by_cases hc:c=47
  ·subst hc
   refine ⟨0,by unfold Lib.index;simp [List.isPrefixOf],?_⟩
   unfold fmtL
   rw [if_pos rfl,fmt_one]
   simp [plL_nil]
  ·have hl:47∈l:=by
    rcases List.mem_cons.1 h with e | e
    ·exact absurd e.symm hc
    ·exact e
   obtain ⟨k,hk,hf⟩:=fmt_slash l false hl
   refine ⟨k+1,?_,?_⟩
   ·unfold Lib.index
    rw [hk]
    rw [if_neg (by simp [List.isPrefixOf];exact fun e=>hc e.symm),if_neg (by simp)]
    push_cast;rfl
   ·unfold fmtL
    rw [if_neg hc,List.take_succ_cons,List.drop_succ_cons,plL_cons]
    by_cases hp:c=37
    ·subst hp
     rw [if_pos rfl,fmt_one,plL_no pl47 hl,pl37]
     simp
    ·rw [if_neg hp,hf]
     simp only [Bool.false_and,Bool.not_false,Bool.true_and]
     cases plainB c.toNat <;> simp
theorem isEmpty_ne (l:Bs):(!l.isEmpty)=decide (bA l≠⟨#[]⟩):=by
 cases l with
 | nil=>rfl
 | cons c l =>
  have:bA (c::l)≠⟨#[]⟩:=fun e=>by
   have:=congrArg ByteArray.size e
   rw [bA_size] at this;cases this
  simp [this]
theorem formatB_fmt (s:ByteArray):formatB s=(decide (s.size≠0)&&decide (s.size≤24)&&fmtL 0 true (aB s)):=by
 unfold formatB
 by_cases hs:s.size=0∨24<s.size
 ·rw [if_pos hs]
  rcases hs with h | h
  ·simp [h]
  ·simp [show ¬s.size≤24 by omega]
 ·rw [if_neg hs]
  have h1:s.size≠0:=fun e=>hs (.inl e)
  have h2:s.size≤24:=by omega
  simp only [h1,h2,ne_eq,not_false_eq_true,decide_true,Bool.true_and]
  by_cases hm:(47:UInt8)∈aB s
  ·obtain ⟨k,hk,hf⟩:=fmt_slash (aB s) true hm
   have hcut:cutL s [47]=((aB s).take k,(aB s).drop (k+1),true):=by
    unfold cutL Lib.cut
    rw [hk,if_pos (by omega)]
    simp
   rw [hcut,hf,if_pos rfl]
   simp only
   rw [isEmpty_ne]
   have e:decide (bA ((aB s).take k)≠⟨#[]⟩)=!(true&&decide (k=0)):=by
    rw [←isEmpty_ne]
    cases k with
    | zero=>rfl
    | succ k =>
     have:0<(aB s).length:=by rw [aB_len];omega
     cases hq:aB s with
     | nil=>rw [hq] at this;cases this
     | cons c l=>simp
   rw [e]
  ·have hi:Lib.index (aB s) [47] = -1:=by
    have hge:=Lib.index_ge (aB s) [47]
    by_cases e:Lib.index (aB s) [47] = -1
    ·exact e
    ·obtain ⟨k,hk⟩ : ∃ k:Nat,Lib.index (aB s) [47]=k:=⟨(Lib.index (aB s) [47]).toNat,by omega⟩
     obtain ⟨_,hk1,hk2⟩:=index_one_hit hk
     exact absurd (List.mem_of_getElem? hk2) hm
   have hcut:(cutL s [47]).2.2=false:=by
    unfold cutL Lib.cut
    rw [hi];rfl
   rw [if_neg (by rw [hcut];simp),fmt_pct _ _ hm]
   rfl
end Go.Proofs.YtgjchdhdopgkkaaGreatDoor
end
section
namespace Go.Proofs.YtgjchdhdopgkkaaGreatDoor
open Go.Ab Go.RowKit Civ
def c70:AC:=(.seq (.reg [Oo 2 (.mv (.const (.bool false)))]) (.seq (.reg [Mv 3 0,Oo 4 (.cvi .i64 (.tmp 3)),Oo 5 (.call (.func 68) [(.tmp 4),(Ci 97),(Ci 122)]),Mv 6 5,Of 7 6 (.mv (.tmp 0)),Of 8 6 (.cvi .i64 (.tmp 7)),Of 9 6 (.call (.func 68) [(.tmp 8),(Ci 65),(Ci 90)]),Oo 10 (.pick (.tmp 6) (.const (.bool true)) (.tmp 9)),Mv 2 10]) .ret))
theorem k70:compF Tryz.prog 70=some ⟨c70,[(.tmp 2)],11⟩:=by kernel_rfl
def c71:AC:=(.seq (.reg [Oo 2 (.mv (.const (.bool false)))]) (.seq (.reg [Mv 3 0,Oo 4 (.cvi .i64 (.tmp 3)),Oo 5 (.call (.func 68) [(.tmp 4),(Ci 48),(Ci 57)]),Mv 2 5]) .ret))
theorem k71:compF Tryz.prog 71=some ⟨c71,[(.tmp 2)],6⟩:=by kernel_rfl
def c25:AC:=(.seq (.reg [Oo 2 (.mv (.const (.bool false)))]) (.seq (.seq (.reg [Mv 5 0,Oo 6 (.bin .eql (.tmp 5) (.const (.string ⟨#[]⟩))),Mv 7 6,Of 8 7 (.mv (.tmp 0)),Of 9 7 (.len true (.tmp 8)),Of 10 7 (.bin .gtr (.tmp 9) (Ci 24)),Oo 11 (.pick (.tmp 7) (.const (.bool true)) (.tmp 10)),Mv 12 11,Of 13 12 (.mv (.tmp 0)),Of 14 12 (.ix (.tmp 13) (Ci 0)),Of 15 12 (.call (.func 70) [(.tmp 14)]),Of 16 12 (.un .not (.tmp 15)),Oo 17 (.pick (.tmp 12) (.const (.bool true)) (.tmp 16))]) (.cond (.tmp 17) (.seq (.reg [Oo 2 (.mv (.const (.bool false)))]) .ret) .skip)) (.seq (.seq (.reg [Oo 3 (.mv (Ci 0))]) (.block 0 (.loop (.seq (.seq (.reg [Mv 18 3,Mv 19 0,Oo 20 (.len true (.tmp 19)),Oo 21 (.bin .lss (.tmp 18) (.tmp 20))]) (.cond (.tmp 21) .skip (.exit 0))) (.seq (.block 1 (.seq (.reg [Mv 24 0,Mv 25 3,Oo 26 (.ix (.tmp 24) (.tmp 25)),Mv 4 26]) (.seq (.reg [Mv 27 4,Oo 28 (.call (.func 70) [(.tmp 27)]),Oo 29 (.un .not (.tmp 28)),Mv 30 29,Ot 31 30 (.mv (.tmp 4)),Ot 32 30 (.call (.func 71) [(.tmp 31)]),Ot 33 30 (.un .not (.tmp 32)),Oo 34 (.pick (.tmp 30) (.tmp 33) (.const (.bool false))),Mv 35 34,Ot 36 35 (.mv (.tmp 4)),Ot 37 35 (.bin .neq (.tmp 36) (.const (.int .u8 95))),Oo 38 (.pick (.tmp 35) (.tmp 37) (.const (.bool false))),Mv 39 38,Ot 40 39 (.mv (.tmp 4)),Ot 41 39 (.bin .neq (.tmp 40) (.const (.int .u8 45))),Oo 42 (.pick (.tmp 39) (.tmp 41) (.const (.bool false))),Mv 43 42,Ot 44 43 (.mv (.tmp 4)),Ot 45 43 (.bin .neq (.tmp 44) (.const (.int .u8 47))),Oo 46 (.pick (.tmp 43) (.tmp 45) (.const (.bool false))),Mv 47 46,Ot 48 47 (.mv (.tmp 4)),Ot 49 47 (.bin .neq (.tmp 48) (.const (.int .u8 43))),Oo 50 (.pick (.tmp 47) (.tmp 49) (.const (.bool false)))]) (.cond (.tmp 50) (.seq (.reg [Oo 2 (.mv (.const (.bool false)))]) .ret) .skip)))) (.reg [Mv 22 3,Oo 23 (.bin .add (.tmp 22) (Ci 1)),Mv 3 23])))))) (.seq (.reg [Oo 2 (.mv (.const (.bool true)))]) .ret))))
theorem k25:compF Tryz.prog 25=some ⟨c25,[(.tmp 2)],51⟩:=by kernel_rfl
def c67:AC:=(.seq (.reg [Oo 2 (.mv (.const (.bool false)))]) (.seq (.seq (.reg [Oo 3 (.mv (Ci 0))]) (.block 0 (.loop (.seq (.seq (.reg [Mv 4 3,Mv 5 0,Oo 6 (.len true (.tmp 5)),Oo 7 (.bin .lss (.tmp 4) (.tmp 6))]) (.cond (.tmp 7) .skip (.exit 0))) (.seq (.block 1 (.seq (.reg [Mv 10 0,Mv 11 3,Oo 12 (.ix (.tmp 10) (.tmp 11)),Oo 13 (.call (.func 70) [(.tmp 12)]),Oo 14 (.un .not (.tmp 13))]) (.cond (.tmp 14) (.seq (.reg [Oo 2 (.mv (.const (.bool false)))]) .ret) .skip))) (.reg [Mv 8 3,Oo 9 (.bin .add (.tmp 8) (Ci 1)),Mv 3 9])))))) (.seq (.reg [Mv 15 0,Oo 16 (.len true (.tmp 15)),Oo 17 (.bin .leq (.tmp 16) (Ci 24)),Mv 2 17]) .ret)))
theorem k67:compF Tryz.prog 67=some ⟨c67,[(.tmp 2)],18⟩:=by kernel_rfl
def c104:AC:=(.seq (.reg [Oo 2 (.mv (.const (.bool false)))]) (.seq (.seq (.reg [Oo 3 (.mv (Ci 0))]) (.block 0 (.loop (.seq (.seq (.reg [Mv 4 3,Mv 5 0,Oo 6 (.len true (.tmp 5)),Oo 7 (.bin .lss (.tmp 4) (.tmp 6))]) (.cond (.tmp 7) .skip (.exit 0))) (.seq (.block 1 (.seq (.reg [Mv 10 0,Mv 11 3,Oo 12 (.ix (.tmp 10) (.tmp 11)),Oo 13 (.call (.func 70) [(.tmp 12)]),Oo 14 (.un .not (.tmp 13)),Mv 15 14,Ot 16 15 (.mv (.tmp 0)),Ot 17 15 (.mv (.tmp 3)),Ot 18 15 (.ix (.tmp 16) (.tmp 17)),Ot 19 15 (.call (.func 71) [(.tmp 18)]),Ot 20 15 (.un .not (.tmp 19)),Oo 21 (.pick (.tmp 15) (.tmp 20) (.const (.bool false))),Mv 22 21,Ot 23 22 (.mv (.tmp 0)),Ot 24 22 (.mv (.tmp 3)),Ot 25 22 (.ix (.tmp 23) (.tmp 24)),Ot 26 22 (.bin .neq (.tmp 25) (.const (.int .u8 43))),Oo 27 (.pick (.tmp 22) (.tmp 26) (.const (.bool false))),Mv 28 27,Ot 29 28 (.mv (.tmp 0)),Ot 30 28 (.mv (.tmp 3)),Ot 31 28 (.ix (.tmp 29) (.tmp 30)),Ot 32 28 (.bin .neq (.tmp 31) (.const (.int .u8 45))),Oo 33 (.pick (.tmp 28) (.tmp 32) (.const (.bool false)))]) (.cond (.tmp 33) (.seq (.reg [Oo 2 (.mv (.const (.bool false)))]) .ret) .skip))) (.reg [Mv 8 3,Oo 9 (.bin .add (.tmp 8) (Ci 1)),Mv 3 9])))))) (.seq (.reg [Oo 2 (.mv (.const (.bool true)))]) .ret)))
theorem k104:compF Tryz.prog 104=some ⟨c104,[(.tmp 2)],34⟩:=by kernel_rfl
def c72:AC:=(.seq (.reg [Oo 2 (.mv (.const (.bool false)))]) (.seq (.reg [Oo 3 (.mv (Ci 0))]) (.seq (.seq (.reg [Oo 4 (.mv (Ci 0))]) (.block 0 (.loop (.seq (.seq (.reg [Mv 5 4,Mv 6 0,Oo 7 (.len true (.tmp 6)),Oo 8 (.bin .lss (.tmp 5) (.tmp 7))]) (.cond (.tmp 8) .skip (.exit 0))) (.seq (.block 1 (.block 2 (.seq (.reg [Mv 12 0,Mv 13 4,Oo 14 (.ix (.tmp 12) (.tmp 13)),Oo 15 (.bin .eql (.tmp 14) (.const (.int .u8 47))),Mv 11 15]) (.cond (.tmp 11) (.seq (.reg [Mv 16 3,Oo 17 (.bin .add (.tmp 16) (Ci 1)),Mv 3 17]) (.seq (.reg [Mv 18 4,Oo 19 (.bin .eql (.tmp 18) (Ci 0)),Mv 20 19,Of 21 20 (.mv (.tmp 4)),Of 22 20 (.mv (.tmp 0)),Of 23 20 (.len true (.tmp 22)),Of 24 20 (.bin .sub (.tmp 23) (Ci 1)),Of 25 20 (.bin .eql (.tmp 21) (.tmp 24)),Oo 26 (.pick (.tmp 20) (.const (.bool true)) (.tmp 25))]) (.cond (.tmp 26) (.seq (.reg [Oo 2 (.mv (.const (.bool false)))]) .ret) .skip))) (.seq (.reg [Mv 28 0,Mv 29 4,Oo 30 (.ix (.tmp 28) (.tmp 29)),Oo 31 (.bin .eql (.tmp 30) (.const (.int .u8 37))),Mv 27 31]) (.cond (.tmp 27) (.seq (.reg [Mv 32 3,Oo 33 (.bin .add (.tmp 32) (Ci 1)),Mv 3 33]) (.seq (.reg [Mv 34 4,Mv 35 0,Oo 36 (.len true (.tmp 35)),Oo 37 (.bin .sub (.tmp 36) (Ci 1)),Oo 38 (.bin .eql (.tmp 34) (.tmp 37)),Mv 39 38,Of 40 39 (.mv (.tmp 0)),Of 41 39 (.mv (.tmp 4)),Of 42 39 (.bin .add (.tmp 41) (Ci 1)),Of 43 39 (.ix (.tmp 40) (.tmp 42)),Of 44 39 (.bin .neq (.tmp 43) (.const (.int .u8 115))),Oo 45 (.pick (.tmp 39) (.const (.bool true)) (.tmp 44))]) (.cond (.tmp 45) (.seq (.reg [Oo 2 (.mv (.const (.bool false)))]) .ret) .skip))) (.seq (.reg [Mv 47 0,Mv 48 4,Mv 49 4,Oo 50 (.bin .add (.tmp 49) (Ci 1)),Oo 51 (.sls (.tmp 47) (some (.tmp 48)) (some (.tmp 50))),Oo 52 (.call (.func 104) [(.tmp 51)]),Oo 53 (.un .not (.tmp 52)),Mv 46 53]) (.cond (.tmp 46) (.seq (.reg [Oo 2 (.mv (.const (.bool false)))]) .ret) .skip)))))))) (.reg [Mv 9 4,Oo 10 (.bin .add (.tmp 9) (Ci 1)),Mv 4 10])))))) (.seq (.reg [Mv 54 0,Oo 55 (.bin .neq (.tmp 54) (.const (.string ⟨#[]⟩))),Mv 56 55,Ot 57 56 (.mv (.tmp 0)),Ot 58 56 (.len true (.tmp 57)),Ot 59 56 (.bin .leq (.tmp 58) (Ci 24)),Oo 60 (.pick (.tmp 56) (.tmp 59) (.const (.bool false))),Mv 61 60,Ot 62 61 (.mv (.tmp 3)),Ot 63 61 (.bin .leq (.tmp 62) (Ci 1)),Oo 64 (.pick (.tmp 61) (.tmp 63) (.const (.bool false))),Mv 2 64]) .ret))))
theorem k72:compF Tryz.prog 72=some ⟨c72,[(.tmp 2)],65⟩:=by kernel_rfl
theorem risLetter_a {n:Int}{h:AH}(h0:0≤n) (h1:n≤255):ACalls Tryz.prog 70 [uv n] h fun x h'=>h'=h∧x = .ret (bv (letB n)):=by
 refine tI' k70 fun N hn hlt hlA hbd=>?_
 simp only [tA',AV.bdL,AV.bd,and_true,true_and] at hbd ⊢
 refine wr'<|mv' lkb pt2<|sn'<|wr'<|mv' lk0 pt3<|?_
 refine V' (v_cvi64 lk3 (by omega) (by omega)) pt4 ?_
 refine s_callp (mp1 lk4 (mp1 lki (mp1 lki mp0))) (rlbetween_a) pt5<|mv' lk5 pt6<|?_
 refine s_splitB gt6 pt6 pt6 (fun hg6=>?_) (fun hg6=>?_)
 ·refine s_no gt6 pt7<|s_no gt6 pt8<|s_no gt6 pt9<|V' (v_pickT lk6 lkb) pt10<|mv' lk10 pt2<|sn'<|w_rets<|w_ret (rs1 (rr_t gt2))<|rT'<|?_
  refine bvx ?_;unfold wi at *;unfold letB;rw [Bool.eq_iff_iff];simp at *;omega
 refine s_do gt6<|mv' lk0 pt7<|s_do gt6<|?_
 refine V' (v_cvi64 lk7 (by omega) (by omega)) pt8 ?_
 refine s_do gt6<|s_callp (mp1 lk8 (mp1 lki (mp1 lki mp0))) (rlbetween_a) pt9<|V' (v_pickF lk6 lk9) pt10<|mv' lk10 pt2<|sn'<|w_rets<|w_ret (rs1 (rr_t gt2))<|rT'<|?_
 refine bvx ?_;unfold wi at *;unfold letB;rw [Bool.eq_iff_iff];simp at *;omega
theorem risDigit_a {n:Int}{h:AH}(h0:0≤n) (h1:n≤255):ACalls Tryz.prog 71 [uv n] h fun x h'=>h'=h∧x = .ret (bv (digB n)):=by
 refine tI' k71 fun N hn hlt hlA hbd=>?_
 simp only [tA',AV.bdL,AV.bd,and_true,true_and] at hbd ⊢
 refine wr'<|mv' lkb pt2<|sn'<|wr'<|mv' lk0 pt3<|?_
 refine V' (v_cvi64 lk3 (by omega) (by omega)) pt4 ?_
 refine s_callp (mp1 lk4 (mp1 lki (mp1 lki mp0))) (rlbetween_a) pt5<|mv' lk5 pt2<|sn'<|w_rets<|w_ret (rs1 (rr_t gt2))<|rT'<|?_
 refine bvx ?_;unfold wi digB;rw [Bool.eq_iff_iff];simp
theorem byte_bd (s:ByteArray) (k:Nat):(0:Int)≤((byteAt s k).toNat:Int)∧((byteAt s k).toNat:Int)≤255:=by
 have:=(byteAt s k).toNat_lt
 omega
theorem risPlain1_a {s:ByteArray}{h:AH}(hs:s.size≤maxLen):ACalls Tryz.prog 104 [sv s] h fun x h'=>h'=h∧x = .ret (bv (allB plainB s)):=by
 have hm:s.size≤9223372036854775807:=by simpa [maxLen] using hs
 refine tI' k104 fun N hn hlt hlA hbd=>?_
 simp only [tA',AV.bdL,AV.bd,and_true,true_and] at hbd ⊢
 refine wr'<|mv' lkb pt2<|sn'<|w_seq<|wr'<|mv' lki pt3<|sn'<|w_block<|?_
 refine w_lp (ι:=Nat) (fun (k:Nat)=>[(3,iv (k:Int)),(2,.any)]++rn' 4 30) (fun (k:Nat)=>[]) (fun (k:Nat)=>k≤s.size ∧ ∀ j (hj:j<s.size),j<k→plainB s[j].toNat=true) (fun (k:Nat)=>s.size-k) (0) (by exact ⟨by omega,fun j hj h0=>absurd h0 (by omega)⟩) ?_
 rintro k hi1
 try simp only [setsT,setsE,z',s',rn',la',ln',Nat.reduceAdd]
 obtain ⟨hk1,hk2⟩:=hi1
 refine w_seq<|wr'<|mv' lk3 pt4<|mv' lk0 pt5<|V' (v_lenS lk5) pt6<|V' (v_lss lk4 lk6) pt7<|sn'<|?_
 refine cd' lk7 (fun hc1=>?_) (fun hc1=>?_)
 ·have hk:k<s.size:=by omega
  have hb:=byte_bd s k
  have hbk:byteAt s k=s[k]:=byteAt_get hk
  refine w_skip<|n_seq<|w_seq<|w_block<|wr'<|mv' lk0 pt10<|mv' lk3 pt11<|?_
  refine V' (v_ix lk10 lk11 (by omega) (by omega)) pt12 ?_
  refine s_callp (mp1 lk12 mp0) (risLetter_a hb.1 hb.2) pt13<|V' (v_notB lk13) pt14<|mv' lk14 pt15<|?_
  refine s_splitB gt15 pt15 pt15 (fun hg15=>?_) (fun hg15=>?_)
  ·refine s_do gt15<|mv' lk0 pt16<|s_do gt15<|mv' lk3 pt17<|s_do gt15<|?_
   refine V' (v_ix lk16 lk17 (by omega) (by omega)) pt18 ?_
   refine s_do gt15<|s_callp (mp1 lk18 mp0) (risDigit_a hb.1 hb.2) pt19<|s_do gt15<|V' (v_notB lk19) pt20<|V' (v_pickT lk15 lk20) pt21<|mv' lk21 pt22<|?_
   refine s_splitB gt22 pt22 pt22 (fun hg22=>?_) (fun hg22=>?_)
   ·refine s_do gt22<|mv' lk0 pt23<|s_do gt22<|mv' lk3 pt24<|s_do gt22<|?_
    refine V' (v_ix lk23 lk24 (by omega) (by omega)) pt25 ?_
    refine s_do gt22<|V' (v_neq lk25 lki) pt26<|V' (v_pickT lk22 lk26) pt27<|mv' lk27 pt28<|?_
    refine sp' gt28 pt28 pt28 (fun hg28=>?_) (fun hg28=>?_)
    ·refine s_do gt28<|mv' lk0 pt29<|s_do gt28<|mv' lk3 pt30<|s_do gt28<|?_
     refine V' (v_ix lk29 lk30 (by omega) (by omega)) pt31 ?_
     refine s_do gt28<|V' (v_neq lk31 lki) pt32<|V' (v_pickT lk28 lk32) pt33<|sn'<|?_
     refine cd' lk33 (fun hc2=>?_) (fun hc2=>?_)
     ·refine wr'<|mv' lkb pt2<|sn'<|w_rets<|r_blk<|r_thn<|r_thn<|r_blk<|r_thn<|w_ret (rs1 (rr_t gt2))<|rT'<|?_
      refine bvx ?_;rw [allB_no (k:=k) hk (by rw [←hbk];unfold plainB;simp at *;simp_all)]
     refine w_skip<|n_blk<|n_seq<|w_reg<|mv' lk3 pt8<|?_
     refine V' (v_add lk8 lki (by omega) (by omega)) pt9 ?_
     refine mv' lk9 pt3<|s_nil<|n_thn<|?_
     refine lT' (k+1) (by (try dsimp only);refine ⟨by omega,fun j hj h0=>?_⟩;rcases Nat.lt_or_ge j k with e | e;exact hk2 j hj e;obtain rfl:j=k:=(by omega);rw [←hbk];unfold plainB;simp_all)
    refine s_no gt28 pt29<|s_no gt28 pt30<|s_no gt28 pt31<|s_no gt28 pt32<|V' (v_pickF lk28 lkb) pt33<|sn'<|w_condF lk33<|w_skip<|n_blk<|n_seq<|w_reg<|mv' lk3 pt8<|?_
    refine V' (v_add lk8 lki (by omega) (by omega)) pt9 ?_
    refine mv' lk9 pt3<|s_nil<|n_thn<|?_
    refine lT' (k+1) (by (try dsimp only);refine ⟨by omega,fun j hj h0=>?_⟩;rcases Nat.lt_or_ge j k with e | e;exact hk2 j hj e;obtain rfl:j=k:=(by omega);rw [←hbk];unfold plainB;simp_all)
   refine s_no gt22 pt23<|s_no gt22 pt24<|s_no gt22 pt25<|s_no gt22 pt26<|V' (v_pickF lk22 lkb) pt27<|mv' lk27 pt28<|s_no gt28 pt29<|s_no gt28 pt30<|s_no gt28 pt31<|s_no gt28 pt32<|V' (v_pickF lk28 lkb) pt33<|sn'<|w_condF lk33<|?_
   refine w_skip<|n_blk<|n_seq<|w_reg<|mv' lk3 pt8<|?_
   refine V' (v_add lk8 lki (by omega) (by omega)) pt9 ?_
   refine mv' lk9 pt3<|s_nil<|n_thn<|?_
   refine lT' (k+1) (by (try dsimp only);refine ⟨by omega,fun j hj h0=>?_⟩;rcases Nat.lt_or_ge j k with e | e;exact hk2 j hj e;obtain rfl:j=k:=(by omega);rw [←hbk];unfold plainB;simp_all)
  refine s_no gt15 pt16<|s_no gt15 pt17<|s_no gt15 pt18<|s_no gt15 pt19<|s_no gt15 pt20<|V' (v_pickF lk15 lkb) pt21<|mv' lk21 pt22<|s_no gt22 pt23<|s_no gt22 pt24<|s_no gt22 pt25<|s_no gt22 pt26<|V' (v_pickF lk22 lkb) pt27<|mv' lk27 pt28<|s_no gt28 pt29<|?_
  refine s_no gt28 pt30<|s_no gt28 pt31<|s_no gt28 pt32<|V' (v_pickF lk28 lkb) pt33<|sn'<|w_condF lk33<|w_skip<|n_blk<|n_seq<|w_reg<|mv' lk3 pt8<|?_
  refine V' (v_add lk8 lki (by omega) (by omega)) pt9 ?_
  refine mv' lk9 pt3<|s_nil<|n_thn<|?_
  refine lT' (k+1) (by (try dsimp only);refine ⟨by omega,fun j hj h0=>?_⟩;rcases Nat.lt_or_ge j k with e | e;exact hk2 j hj e;obtain rfl:j=k:=(by omega);rw [←hbk];unfold plainB;simp_all)
 refine w_exit<|x_thn<|x_thn<|x_blk<|n_seq<|wr'<|mv' lkb pt2<|sn'<|w_rets<|w_ret (rs1 (rr_t gt2))<|rT'<|?_
 refine bvx ?_;rw [allB_yes fun j hj=>hk2 j hj (by omega)]
theorem risLetters_a {s:ByteArray}{h:AH}(hs:s.size≤maxLen):ACalls Tryz.prog 67 [sv s] h fun x h'=>h'=h∧x = .ret (bv (lettersB s)):=by
 have hm:s.size≤9223372036854775807:=by simpa [maxLen] using hs
 refine tI' k67 fun N hn hlt hlA hbd=>?_
 simp only [tA',AV.bdL,AV.bd,and_true,true_and] at hbd ⊢
 refine wr'<|mv' lkb pt2<|sn'<|w_seq<|wr'<|mv' lki pt3<|sn'<|w_block<|?_
 refine w_lp (ι:=Nat) (fun (k:Nat)=>[(3,iv (k:Int)),(2,.any)]++rn' 4 11) (fun (k:Nat)=>[]) (fun (k:Nat)=>k≤s.size ∧ ∀ j (hj:j<s.size),j<k→letB s[j].toNat=true) (fun (k:Nat)=>s.size-k) (0) (by exact ⟨by omega,fun j hj h0=>absurd h0 (by omega)⟩) ?_
 rintro k hi1
 try simp only [setsT,setsE,z',s',rn',la',ln',Nat.reduceAdd]
 obtain ⟨hk1,hk2⟩:=hi1
 refine w_seq<|wr'<|mv' lk3 pt4<|mv' lk0 pt5<|V' (v_lenS lk5) pt6<|V' (v_lss lk4 lk6) pt7<|sn'<|?_
 refine cd' lk7 (fun hc1=>?_) (fun hc1=>?_)
 ·have hk:k<s.size:=by omega
  have hb:=byte_bd s k
  have hbk:byteAt s k=s[k]:=byteAt_get hk
  refine w_skip<|n_seq<|w_seq<|w_block<|wr'<|mv' lk0 pt10<|mv' lk3 pt11<|?_
  refine V' (v_ix lk10 lk11 (by omega) (by omega)) pt12 ?_
  refine s_callp (mp1 lk12 mp0) (risLetter_a hb.1 hb.2) pt13<|V' (v_notB lk13) pt14<|sn'<|?_
  refine w_condB lk14 (fun hc2=>?_) (fun hc2=>?_)
  ·refine wr'<|mv' lkb pt2<|sn'<|w_rets<|r_blk<|r_thn<|r_thn<|r_blk<|r_thn<|w_ret (rs1 (rr_t gt2))<|rT'<|?_
   refine bvx ?_;unfold lettersB;rw [allB_no (k:=k) hk (by rw [←hbk];simp_all)];simp
  refine w_skip<|n_blk<|n_seq<|w_reg<|mv' lk3 pt8<|?_
  refine V' (v_add lk8 lki (by omega) (by omega)) pt9 ?_
  refine mv' lk9 pt3<|s_nil<|n_thn<|?_
  refine lT' (k+1) (by (try dsimp only);refine ⟨by omega,fun j hj h0=>?_⟩;rcases Nat.lt_or_ge j k with e | e;exact hk2 j hj e;obtain rfl:j=k:=(by omega);rw [←hbk];simp_all)
 refine w_exit<|x_thn<|x_thn<|x_blk<|n_seq<|wr'<|mv' lk0 pt15<|V' (v_lenS lk15) pt16<|V' (v_leq lk16 lki) pt17<|mv' lk17 pt2<|sn'<|w_rets<|?_
 refine w_ret (rs1 (rr_t gt2))<|rT'<|?_
 refine bvx ?_;unfold lettersB;rw [allB_yes fun j hj=>hk2 j hj (by omega)];rw [Bool.eq_iff_iff];simp;omega
theorem risName_a {s:ByteArray}{h:AH}(hs:s.size≤maxLen):ACalls Tryz.prog 25 [sv s] h fun x h'=>h'=h∧x = .ret (bv (nameB s)):=by
 have hm:s.size≤9223372036854775807:=by simpa [maxLen] using hs
 have hem:=emp_size (f:=s)
 have hb0:=byte_bd s 0
 refine tI' k25 fun N hn hlt hlA hbd=>?_
 simp only [tA',AV.bdL,AV.bd,and_true,true_and] at hbd ⊢
 refine wr'<|mv' lkb pt2<|sn'<|w_seq<|wr'<|mv' lk0 pt5<|V' (v_eqlS lk5 lks) pt6<|mv' lk6 pt7<|?_
 refine sp' gt7 pt7 pt7 (fun hg7=>?_) (fun hg7=>?_)
 ·refine s_no gt7 pt8<|s_no gt7 pt9<|s_no gt7 pt10<|V' (v_pickT lk7 lkb) pt11<|mv' lk11 pt12<|s_no gt12 pt13<|s_no gt12 pt14<|s_no gt12 pt15<|s_no gt12 pt16<|V' (v_pickT lk12 lkb) pt17<|sn'<|w_condT lk17<|w_seq<|?_
  refine w_reg<|mv' lkb pt2<|sn'<|w_rets<|r_thn<|w_ret (rs1 (rr_t gt2))<|rT'<|?_
  refine bvx ?_;unfold nameB;simp [hem.1 hg7]
 have hne:s.size≠0:=fun e=>hg7 (hem.2 e)
 refine s_do gt7<|mv' lk0 pt8<|s_do gt7<|V' (v_lenS lk8) pt9<|s_do gt7<|V' (v_gtr lk9 lki) pt10<|V' (v_pickF lk7 lk10) pt11<|mv' lk11 pt12<|?_
 refine sp' gt12 pt12 pt12 (fun hg12=>?_) (fun hg12=>?_)
 ·refine s_no gt12 pt13<|s_no gt12 pt14<|s_no gt12 pt15<|s_no gt12 pt16<|V' (v_pickT lk12 lkb) pt17<|sn'<|w_condT lk17<|wr'<|mv' lkb pt2<|sn'<|w_rets<|?_
  refine r_thn<|w_ret (rs1 (rr_t gt2))<|rT'<|?_
  refine bvx ?_;unfold nameB;simp;omega
 refine s_do gt12<|mv' lk0 pt13<|s_do gt12<|?_
 refine V' (v_ix lk13 lki (by omega) (by omega)) pt14 ?_
 refine s_do gt12<|s_callp (mp1 lk14 mp0) (risLetter_a hb0.1 hb0.2) pt15<|s_do gt12<|V' (v_notB lk15) pt16<|V' (v_pickF lk12 lk16) pt17<|sn'<|?_
 refine w_condB lk17 (fun hc1=>?_) (fun hc1=>?_)
 ·refine wr'<|mv' lkb pt2<|sn'<|w_rets<|r_thn<|w_ret (rs1 (rr_t gt2))<|rT'<|?_
  refine bvx ?_;unfold nameB;simp_all
 have hz:s.size≤24:=by omega
 have hL:letB (byteAt s 0).toNat=true:=by simpa using hc1
 refine w_skip<|n_seq<|w_seq<|wr'<|mv' lki pt3<|sn'<|w_block<|?_
 refine w_lp (ι:=Nat) (fun (k:Nat)=>[(3,iv (k:Int)),(2,.any),(4,.any)]++rn' 18 33) (fun (k:Nat)=>[]) (fun (k:Nat)=>k≤s.size ∧ ∀ j (hj:j<s.size),j<k→nameN s[j].toNat=true) (fun (k:Nat)=>s.size-k) (0) (by exact ⟨by omega,fun j hj h0=>absurd h0 (by omega)⟩) ?_
 rintro k hi1
 try simp only [setsT,setsE,z',s',rn',la',ln',Nat.reduceAdd]
 obtain ⟨hk1,hk2⟩:=hi1
 refine w_seq<|wr'<|mv' lk3 pt18<|mv' lk0 pt19<|V' (v_lenS lk19) pt20<|V' (v_lss lk18 lk20) pt21<|sn'<|?_
 refine cd' lk21 (fun hc2=>?_) (fun hc2=>?_)
 ·have hk:k<s.size:=by omega
  have hb:=byte_bd s k
  have hbk:byteAt s k=s[k]:=byteAt_get hk
  have hR:=nameN_ref (byteAt s k)
  refine w_skip<|n_seq<|w_seq<|w_block<|wr'<|mv' lk0 pt24<|mv' lk3 pt25<|?_
  refine V' (v_ix lk24 lk25 (by omega) (by omega)) pt26 ?_
  refine mv' lk26 pt4<|sn'<|wr'<|mv' lk4 pt27<|s_callp (mp1 lk27 mp0) (risLetter_a hb.1 hb.2) pt28<|V' (v_notB lk28) pt29<|mv' lk29 pt30<|?_
  refine s_splitB gt30 pt30 pt30 (fun hg30=>?_) (fun hg30=>?_)
  ·refine s_do gt30<|mv' lk4 pt31<|s_do gt30<|s_callp (mp1 lk31 mp0) (risDigit_a hb.1 hb.2) pt32<|s_do gt30<|V' (v_notB lk32) pt33<|V' (v_pickT lk30 lk33) pt34<|mv' lk34 pt35<|?_
   refine s_splitB gt35 pt35 pt35 (fun hg35=>?_) (fun hg35=>?_)
   ·refine s_do gt35<|mv' lk4 pt36<|s_do gt35<|V' (v_neq lk36 lki) pt37<|V' (v_pickT lk35 lk37) pt38<|mv' lk38 pt39<|?_
    refine sp' gt39 pt39 pt39 (fun hg39=>?_) (fun hg39=>?_)
    ·refine s_do gt39<|mv' lk4 pt40<|s_do gt39<|V' (v_neq lk40 lki) pt41<|V' (v_pickT lk39 lk41) pt42<|mv' lk42 pt43<|?_
     refine sp' gt43 pt43 pt43 (fun hg43=>?_) (fun hg43=>?_)
     ·refine s_do gt43<|mv' lk4 pt44<|s_do gt43<|V' (v_neq lk44 lki) pt45<|V' (v_pickT lk43 lk45) pt46<|mv' lk46 pt47<|?_
      refine sp' gt47 pt47 pt47 (fun hg47=>?_) (fun hg47=>?_)
      ·refine s_do gt47<|mv' lk4 pt48<|s_do gt47<|V' (v_neq lk48 lki) pt49<|V' (v_pickT lk47 lk49) pt50<|sn'<|?_
       refine cd' lk50 (fun hc3=>?_) (fun hc3=>?_)
       ·refine wr'<|mv' lkb pt2<|sn'<|w_rets<|r_blk<|r_thn<|r_thn<|r_blk<|r_thn<|w_ret (rs1 (rr_t gt2))<|rT'<|?_
        refine bvx ?_;unfold nameB;rw [allB_no (k:=k) hk (by rw [←hbk,hR];unfold refN;simp_all)];simp
       refine w_skip<|n_blk<|n_seq<|w_reg<|mv' lk3 pt22<|?_
       refine V' (v_add lk22 lki (by omega) (by omega)) pt23 ?_
       refine mv' lk23 pt3<|s_nil<|n_thn<|?_
       refine lT' (k+1) (by (try dsimp only);refine ⟨by omega,fun j hj h0=>?_⟩;rcases Nat.lt_or_ge j k with e | e;exact hk2 j hj e;obtain rfl:j=k:=(by omega);rw [←hbk,hR];unfold refN;simp_all)
      refine s_no gt47 pt48<|s_no gt47 pt49<|V' (v_pickF lk47 lkb) pt50<|sn'<|w_condF lk50<|w_skip<|n_blk<|n_seq<|w_reg<|mv' lk3 pt22<|?_
      refine V' (v_add lk22 lki (by omega) (by omega)) pt23 ?_
      refine mv' lk23 pt3<|s_nil<|n_thn<|?_
      refine lT' (k+1) (by (try dsimp only);refine ⟨by omega,fun j hj h0=>?_⟩;rcases Nat.lt_or_ge j k with e | e;exact hk2 j hj e;obtain rfl:j=k:=(by omega);rw [←hbk,hR];unfold refN;simp_all)
     refine s_no gt43 pt44<|s_no gt43 pt45<|V' (v_pickF lk43 lkb) pt46<|mv' lk46 pt47<|s_no gt47 pt48<|s_no gt47 pt49<|V' (v_pickF lk47 lkb) pt50<|sn'<|w_condF lk50<|w_skip<|n_blk<|n_seq<|w_reg<|?_
     refine mv' lk3 pt22 ?_
     refine V' (v_add lk22 lki (by omega) (by omega)) pt23 ?_
     refine mv' lk23 pt3<|s_nil<|n_thn<|?_
     refine lT' (k+1) (by (try dsimp only);refine ⟨by omega,fun j hj h0=>?_⟩;rcases Nat.lt_or_ge j k with e | e;exact hk2 j hj e;obtain rfl:j=k:=(by omega);rw [←hbk,hR];unfold refN;simp_all)
    refine s_no gt39 pt40<|s_no gt39 pt41<|V' (v_pickF lk39 lkb) pt42<|mv' lk42 pt43<|s_no gt43 pt44<|s_no gt43 pt45<|V' (v_pickF lk43 lkb) pt46<|mv' lk46 pt47<|s_no gt47 pt48<|s_no gt47 pt49<|V' (v_pickF lk47 lkb) pt50<|sn'<|w_condF lk50<|?_
    refine w_skip<|n_blk<|n_seq<|w_reg<|mv' lk3 pt22<|?_
    refine V' (v_add lk22 lki (by omega) (by omega)) pt23 ?_
    refine mv' lk23 pt3<|s_nil<|n_thn<|?_
    refine lT' (k+1) (by (try dsimp only);refine ⟨by omega,fun j hj h0=>?_⟩;rcases Nat.lt_or_ge j k with e | e;exact hk2 j hj e;obtain rfl:j=k:=(by omega);rw [←hbk,hR];unfold refN;simp_all)
   refine s_no gt35 pt36<|s_no gt35 pt37<|V' (v_pickF lk35 lkb) pt38<|mv' lk38 pt39<|s_no gt39 pt40<|s_no gt39 pt41<|V' (v_pickF lk39 lkb) pt42<|mv' lk42 pt43<|s_no gt43 pt44<|s_no gt43 pt45<|V' (v_pickF lk43 lkb) pt46<|mv' lk46 pt47<|s_no gt47 pt48<|s_no gt47 pt49<|?_
   refine V' (v_pickF lk47 lkb) pt50<|sn'<|w_condF lk50<|w_skip<|n_blk<|n_seq<|w_reg<|mv' lk3 pt22<|?_
   refine V' (v_add lk22 lki (by omega) (by omega)) pt23 ?_
   refine mv' lk23 pt3<|s_nil<|n_thn<|?_
   refine lT' (k+1) (by (try dsimp only);refine ⟨by omega,fun j hj h0=>?_⟩;rcases Nat.lt_or_ge j k with e | e;exact hk2 j hj e;obtain rfl:j=k:=(by omega);rw [←hbk,hR];unfold refN;simp_all)
  refine s_no gt30 pt31<|s_no gt30 pt32<|s_no gt30 pt33<|V' (v_pickF lk30 lkb) pt34<|mv' lk34 pt35<|s_no gt35 pt36<|s_no gt35 pt37<|V' (v_pickF lk35 lkb) pt38<|mv' lk38 pt39<|s_no gt39 pt40<|s_no gt39 pt41<|V' (v_pickF lk39 lkb) pt42<|mv' lk42 pt43<|s_no gt43 pt44<|?_
  refine s_no gt43 pt45<|V' (v_pickF lk43 lkb) pt46<|mv' lk46 pt47<|s_no gt47 pt48<|s_no gt47 pt49<|V' (v_pickF lk47 lkb) pt50<|sn'<|w_condF lk50<|w_skip<|n_blk<|n_seq<|w_reg<|mv' lk3 pt22<|?_
  refine V' (v_add lk22 lki (by omega) (by omega)) pt23 ?_
  refine mv' lk23 pt3<|s_nil<|n_thn<|?_
  refine lT' (k+1) (by (try dsimp only);refine ⟨by omega,fun j hj h0=>?_⟩;rcases Nat.lt_or_ge j k with e | e;exact hk2 j hj e;obtain rfl:j=k:=(by omega);rw [←hbk,hR];unfold refN;simp_all)
 refine w_exit<|x_thn<|x_thn<|x_blk<|n_seq<|wr'<|mv' lkb pt2<|sn'<|w_rets<|w_ret (rs1 (rr_t gt2))<|rT'<|?_
 refine bvx ?_;unfold nameB;rw [allB_yes fun j hj=>hk2 j hj (by omega),hL];simp [hne,hz]
theorem risFormat_a {s:ByteArray}{h:AH}(hs:s.size≤maxLen):ACalls Tryz.prog 72 [sv s] h fun x h'=>h'=h∧x = .ret (bv (formatB s)):=by
 have hm:s.size≤9223372036854775807:=by simpa [maxLen] using hs
 have hem:=emp_size (f:=s)
 have hF:=formatB_fmt s
 refine tI' k72 fun N hn hlt hlA hbd=>?_
 simp only [tA',AV.bdL,AV.bd,and_true,true_and] at hbd ⊢
 refine wr'<|mv' lkb pt2<|sn'<|wr'<|mv' lki pt3<|sn'<|w_seq<|wr'<|mv' lki pt4<|?_
 refine sn'<|w_block<|?_
 refine w_lp (ι:=Nat×Nat) (fun (x_:Nat×Nat)=>match x_ with | ⟨k,m⟩=>[(3,iv (m:Int)),(4,iv (k:Int)),(2,.any)]++rn' 5 49) (fun (x_:Nat×Nat)=>match x_ with | ⟨k,m⟩=>[]) (fun (x_:Nat×Nat)=>match x_ with | ⟨k,m⟩=>k≤s.size∧m≤k∧fmtL 0 true (aB s)=fmtL m (decide (k=0)) ((aB s).drop k)) (fun (x_:Nat×Nat)=>match x_ with | ⟨k,m⟩=>s.size-k) (⟨0,0⟩) (by exact ⟨by omega,by omega,rfl⟩) ?_
 rintro ⟨k,m⟩ hi1
 try simp only [setsT,setsE,z',s',rn',la',ln',Nat.reduceAdd]
 obtain ⟨hk1,hk2,hk3⟩:=hi1
 refine w_seq<|wr'<|mv' lk4 pt5<|mv' lk0 pt6<|V' (v_lenS lk6) pt7<|V' (v_lss lk5 lk7) pt8<|sn'<|?_
 refine cd' lk8 (fun hc1=>?_) (fun hc1=>?_)
 ·have hk:k<s.size:=by omega
  have hb:=byte_bd s k
  have hA:=aB_at hk
  rw [hA,fmtL] at hk3
  have hE:((aB s).drop (k+1)).isEmpty=decide ((k:Int)=(s.size:Int)-1):=by
   rw [Bool.eq_iff_iff,List.isEmpty_iff,List.drop_eq_nil_iff,decide_eq_true_iff,aB_len];omega
  refine w_skip<|n_seq<|w_seq<|w_block<|w_block<|wr'<|mv' lk0 pt12<|mv' lk4 pt13<|?_
  refine V' (v_ix lk12 lk13 (by omega) (by omega)) pt14 ?_
  refine V' (v_eql lk14 lki) pt15<|mv' lk15 pt11<|sn'<|?_
  refine cd' lk11 (fun hc2=>?_) (fun hc2=>?_)
  ·have hx:byteAt s k=47:=byte_eq (n:=47) (by omega) hc2
   rw [if_pos hx,hE] at hk3
   refine wr'<|mv' lk3 pt16<|?_
   refine V' (v_add lk16 lki (by omega) (by omega)) pt17 ?_
   refine mv' lk17 pt3<|sn'<|wr'<|mv' lk4 pt18<|V' (v_eql lk18 lki) pt19<|mv' lk19 pt20<|?_
   refine sp' gt20 pt20 pt20 (fun hg20=>?_) (fun hg20=>?_)
   ·refine s_no gt20 pt21<|s_no gt20 pt22<|s_no gt20 pt23<|s_no gt20 pt24<|s_no gt20 pt25<|V' (v_pickT lk20 lkb) pt26<|sn'<|w_condT lk26<|wr'<|mv' lkb pt2<|sn'<|?_
    refine w_rets<|r_blk<|r_blk<|r_thn<|r_thn<|r_blk<|r_thn<|w_ret (rs1 (rr_t gt2))<|rT'<|?_
    refine bvx ?_;rw [hF,hk3];simp_all
   refine s_do gt20<|mv' lk4 pt21<|s_do gt20<|mv' lk0 pt22<|s_do gt20<|V' (v_lenS lk22) pt23<|s_do gt20<|?_
   refine V' (v_sub lk23 lki (by omega) (by omega)) pt24 ?_
   refine s_do gt20<|V' (v_eql lk21 lk24) pt25<|V' (v_pickF lk20 lk25) pt26<|sn'<|?_
   refine cd' lk26 (fun hc3=>?_) (fun hc3=>?_)
   ·refine wr'<|mv' lkb pt2<|sn'<|w_rets<|r_blk<|r_blk<|r_thn<|r_thn<|r_blk<|r_thn<|w_ret (rs1 (rr_t gt2))<|rT'<|?_
    refine bvx ?_;rw [hF,hk3];simp_all
   have hk3':fmtL 0 true (aB s)=fmtL (m+1) false ((aB s).drop (k+1)):=by rw [hk3];simp_all
   refine w_skip<|n_blk<|n_blk<|n_seq<|w_reg<|mv' lk4 pt9<|?_
   refine V' (v_add lk9 lki (by omega) (by omega)) pt10 ?_
   refine mv' lk10 pt4<|s_nil<|n_thn<|?_
   refine lT' (⟨k+1,m+1⟩) (by (try dsimp only);exact ⟨by omega,by omega,by rw [hk3'];simp⟩)
  have hx:¬byteAt s k=47:=byte_ne (n:=47) (by omega) hc2
  rw [if_neg hx] at hk3
  refine wr'<|mv' lk0 pt28<|mv' lk4 pt29<|?_
  refine V' (v_ix lk28 lk29 (by omega) (by omega)) pt30 ?_
  refine V' (v_eql lk30 lki) pt31<|mv' lk31 pt27<|sn'<|?_
  refine cd' lk27 (fun hc4=>?_) (fun hc4=>?_)
  ·have hy:byteAt s k=37:=byte_eq (n:=37) (by omega) hc4
   rw [if_pos hy] at hk3
   refine wr'<|mv' lk3 pt32<|?_
   refine V' (v_add lk32 lki (by omega) (by omega)) pt33 ?_
   refine mv' lk33 pt3<|sn'<|wr'<|mv' lk4 pt34<|mv' lk0 pt35<|V' (v_lenS lk35) pt36<|?_
   refine V' (v_sub lk36 lki (by omega) (by omega)) pt37 ?_
   refine V' (v_eql lk34 lk37) pt38<|mv' lk38 pt39<|?_
   refine sp' gt39 pt39 pt39 (fun hg39=>?_) (fun hg39=>?_)
   ·have hD:(aB s).drop (k+1)=[]:=by rw [List.drop_eq_nil_iff,aB_len];omega
    refine s_no gt39 pt40<|s_no gt39 pt41<|s_no gt39 pt42<|s_no gt39 pt43<|s_no gt39 pt44<|V' (v_pickT lk39 lkb) pt45<|sn'<|w_condT lk45<|wr'<|mv' lkb pt2<|sn'<|?_
    refine w_rets<|r_blk<|r_blk<|r_thn<|r_thn<|r_blk<|r_thn<|w_ret (rs1 (rr_t gt2))<|rT'<|?_
    refine bvx ?_;rw [hF,hk3,hD];simp
   have hk':k+1<s.size:=by omega
   have hA':=aB_at hk'
   refine s_do gt39<|mv' lk0 pt40<|s_do gt39<|mv' lk4 pt41<|s_do gt39<|?_
   refine V' (v_add lk41 lki (by omega) (by omega)) pt42 ?_
   refine s_do gt39 ?_
   refine V' (v_ix lk40 lk42 (by omega) (by omega)) pt43 ?_
   refine s_do gt39<|V' (v_neq lk43 lki) pt44<|V' (v_pickF lk39 lk44) pt45<|sn'<|?_
   refine cd' lk45 (fun hc5=>?_) (fun hc5=>?_)
   ·refine wr'<|mv' lkb pt2<|sn'<|w_rets<|r_blk<|r_blk<|r_thn<|r_thn<|r_blk<|r_thn<|w_ret (rs1 (rr_t gt2))<|rT'<|?_
    refine bvx ?_;rw [hF,hk3,hA'];have h9:¬byteAt s (k+1)=115:=byte_ne (c:=byteAt s (k+1)) (n:=115) (by omega) (by simpa using hc5);simp [h9]
   have hk3':fmtL 0 true (aB s)=fmtL (m+1) false ((aB s).drop (k+1)):=by rw [hk3];have:=byte_eq (c:=byteAt s (k+1)) (n:=115) (by omega) (by simpa using hc5);rw [hA'];simp [this]
   refine w_skip<|n_blk<|n_blk<|n_seq<|w_reg<|mv' lk4 pt9<|?_
   refine V' (v_add lk9 lki (by omega) (by omega)) pt10 ?_
   refine mv' lk10 pt4<|s_nil<|n_thn<|?_
   refine lT' (⟨k+1,m+1⟩) (by (try dsimp only);exact ⟨by omega,by omega,by rw [hk3'];simp⟩)
  have hy:¬byteAt s k=37:=byte_ne (n:=37) (by omega) hc4
  rw [if_neg hy] at hk3
  have hone:allB plainB (s.extract k (k+1))=plainB (byteAt s k).toNat:=by rw [bA_ext,hA,Nat.add_sub_cancel_left];simp [allB,bA]
  refine wr'<|mv' lk0 pt47<|mv' lk4 pt48<|mv' lk4 pt49<|?_
  refine V' (v_add lk49 lki (by omega) (by omega)) pt50 ?_
  refine V' (v_sls lk47 (oi lk48) (oi lk50) (by omega) (by omega) (by omega)) pt51 ?_
  refine s_callp (mp1 lk51 mp0) (risPlain1_a (by rw [ByteArray.size_extract];unfold maxLen at *;omega)) pt52 ?_
  refine V' (v_notB lk52) pt53<|mv' lk53 pt46<|sn'<|?_
  refine w_condB lk46 (fun hc6=>?_) (fun hc6=>?_)
  ·refine wr'<|mv' lkb pt2<|sn'<|w_rets<|r_blk<|r_blk<|r_thn<|r_thn<|r_blk<|r_thn<|w_ret (rs1 (rr_t gt2))<|rT'<|?_
   refine bvx ?_;rw [hF,hk3,←hone];simp_all
  have hk3':fmtL 0 true (aB s)=fmtL m false ((aB s).drop (k+1)):=by rw [hk3,←hone];simp_all
  refine w_skip<|n_blk<|n_blk<|n_seq<|w_reg<|mv' lk4 pt9<|?_
  refine V' (v_add lk9 lki (by omega) (by omega)) pt10 ?_
  refine mv' lk10 pt4<|s_nil<|n_thn<|?_
  refine lT' (⟨k+1,m⟩) (by (try dsimp only);exact ⟨by omega,by omega,by rw [hk3'];simp⟩)
 have hk4:fmtL 0 true (aB s)=decide (m≤1):=by rw [hk3,aB_end (by omega),fmtL]
 clear hk3
 refine w_exit<|x_thn<|x_thn<|x_blk<|n_seq<|wr'<|mv' lk0 pt54<|V' (v_neqS lk54 lks) pt55<|mv' lk55 pt56<|?_
 refine sp' gt56 pt56 pt56 (fun hg56=>?_) (fun hg56=>?_)
 ·refine s_do gt56<|mv' lk0 pt57<|s_do gt56<|V' (v_lenS lk57) pt58<|s_do gt56<|V' (v_leq lk58 lki) pt59<|V' (v_pickT lk56 lk59) pt60<|mv' lk60 pt61<|?_
  refine sp' gt61 pt61 pt61 (fun hg61=>?_) (fun hg61=>?_)
  ·refine s_do gt61<|mv' lk3 pt62<|s_do gt61<|V' (v_leq lk62 lki) pt63<|V' (v_pickT lk61 lk63) pt64<|mv' lk64 pt2<|sn'<|w_rets<|w_ret (rs1 (rr_t gt2))<|rT'<|?_
   refine bvx ?_;rw [hF,hk4];clear hF hk4;by_cases h0:s.size=0 <;> simp_all <;> (try intros) <;> first | omega | (rw [Bool.eq_iff_iff];simp;omega)
  refine s_no gt61 pt62<|s_no gt61 pt63<|V' (v_pickF lk61 lkb) pt64<|mv' lk64 pt2<|sn'<|w_rets<|w_ret (rs1 (rr_t gt2))<|rT'<|?_
  refine bvx ?_;rw [hF,hk4];clear hF hk4;by_cases h0:s.size=0 <;> simp_all <;> (try intros) <;> first | omega | (rw [Bool.eq_iff_iff];simp;omega)
 refine s_no gt56 pt57<|s_no gt56 pt58<|s_no gt56 pt59<|V' (v_pickF lk56 lkb) pt60<|mv' lk60 pt61<|s_no gt61 pt62<|s_no gt61 pt63<|V' (v_pickF lk61 lkb) pt64<|mv' lk64 pt2<|sn'<|w_rets<|w_ret (rs1 (rr_t gt2))<|rT'<|?_
 refine bvx ?_;rw [hF,hk4];clear hF hk4;by_cases h0:s.size=0 <;> simp_all <;> (try intros) <;> first | omega | (rw [Bool.eq_iff_iff];simp;omega)
end Go.Proofs.YtgjchdhdopgkkaaGreatDoor
end
section
namespace Go.Proofs.YtgjchdhdopgkkaaGreatDoor
open Go.Ab
attribute [local simp] rul_lt era_lt zon_lt lnk_lt
section
theorem SrcS_tk0_3 {a0 a1 a2:AV}{l:List AV}:((a0::a1::a2::l).drop 0).take 3=[a0,a1,a2]:=rfl
theorem SrcS_eq_iii {a0 b0:Int}{a1 b1:Int}{a2 b2:Int}:eqCells [.int,.int,.int] [iv a0,iv a1,iv a2] [iv b0,iv b1,iv b2]=some (decide (a0=b0∧a1=b1∧a2=b2)):=by
 simp only [eqCells,eqLeaf,if_true,bytes_beq,Option.some.injEq]
 simp only [Bool.decide_and,Bool.and_true]
 try (congr 1 <;> simp)
 try rfl
theorem SrcS_tk_10 {a0 a1 a2 a3 a4 a5 a6 a7 a8 a9:AV}{l:List AV}:(a0::a1::a2::a3::a4::a5::a6::a7::a8::a9::l).take 10=[a0,a1,a2,a3,a4,a5,a6,a7,a8,a9]:=rfl
theorem SrcS_sc0_10 {a0 a1 a2 a3 a4 a5 a6 a7 a8 a9 c0 c1 c2 c3 c4 c5 c6 c7 c8 c9:AV}{l:List AV}:setCells (a0::a1::a2::a3::a4::a5::a6::a7::a8::a9::l) 0 [c0,c1,c2,c3,c4,c5,c6,c7,c8,c9]=c0::c1::c2::c3::c4::c5::c6::c7::c8::c9::l:=rfl
theorem SrcS_tk5_5 {a0 a1 a2 a3 a4 a5 a6 a7 a8 a9:AV}{l:List AV}:((a0::a1::a2::a3::a4::a5::a6::a7::a8::a9::l).drop 5).take 5=[a5,a6,a7,a8,a9]:=rfl
theorem SrcS_tk_11 {a0 a1 a2 a3 a4 a5 a6 a7 a8 a9 a10:AV}{l:List AV}:(a0::a1::a2::a3::a4::a5::a6::a7::a8::a9::a10::l).take 11=[a0,a1,a2,a3,a4,a5,a6,a7,a8,a9,a10]:=rfl
theorem SrcS_eq_siiiiiiiiis {a0 b0:ByteArray}{a1 b1:Int}{a2 b2:Int}{a3 b3:Int}{a4 b4:Int}{a5 b5:Int}{a6 b6:Int}{a7 b7:Int}{a8 b8:Int}{a9 b9:Int}{a10 b10:ByteArray}:eqCells [.str,.int,.int,.int,.int,.int,.int,.int,.int,.int,.str] [sv a0,iv a1,iv a2,iv a3,iv a4,iv a5,iv a6,iv a7,iv a8,iv a9,sv a10] [sv b0,iv b1,iv b2,iv b3,iv b4,iv b5,iv b6,iv b7,iv b8,iv b9,sv b10]=some (decide (a0=b0∧a1=b1∧a2=b2∧a3=b3∧a4=b4∧a5=b5∧a6=b6∧a7=b7∧a8=b8∧a9=b9∧a10=b10)):=by
 simp only [eqCells,eqLeaf,if_true,bytes_beq,Option.some.injEq]
 simp only [Bool.decide_and,Bool.and_true]
 try (congr 1 <;> simp)
 try rfl
theorem SrcS_tk_2 {a0 a1:AV}{l:List AV}:(a0::a1::l).take 2=[a0,a1]:=rfl
theorem SrcS_eq_ss {a0 b0:ByteArray}{a1 b1:ByteArray}:eqCells [.str,.str] [sv a0,sv a1] [sv b0,sv b1]=some (decide (a0=b0∧a1=b1)):=by
 simp only [eqCells,eqLeaf,if_true,bytes_beq,Option.some.injEq]
 simp only [Bool.decide_and,Bool.and_true]
 try (congr 1 <;> simp)
 try rfl
end
def c73:AC:=(.seq (.reg [Oo 2 (.box 62 5 (.tmp 0)),Oo 3 (.box 62 5 (.tmp 1)),Oo 4 (.mv (.const (.bool false)))]) (.seq (.reg [Fa 5 0 2,Oo 6 (.load true 3 (.tmp 5)),Fa 7 0 3,Oo 8 (.load true 3 (.tmp 7)),Oo 9 (.eqs false [.int,.int,.int] (.tmp 6) (.tmp 8)),Mv 10 9,Ot 11 10 (.fa 3 (.tmp 2)),Ot 12 10 (.load false 1 (.tmp 11)),Ot 13 10 (.fa 3 (.tmp 3)),Ot 14 10 (.load false 1 (.tmp 13)),Ot 15 10 (.bin .eql (.tmp 12) (.tmp 14)),Oo 16 (.pick (.tmp 10) (.tmp 15) (.const (.bool false))),Mv 17 16,Ot 18 17 (.fa 4 (.tmp 2)),Ot 19 17 (.load false 1 (.tmp 18)),Ot 20 17 (.fa 4 (.tmp 3)),Ot 21 17 (.load false 1 (.tmp 20)),Ot 22 17 (.bin .eql (.tmp 19) (.tmp 21)),Oo 23 (.pick (.tmp 17) (.tmp 22) (.const (.bool false))),Mv 4 23]) .ret))
theorem k73:compF Tryz.prog 73=some ⟨c73,[(.tmp 4)],24⟩:=by kernel_rfl
def c38:AC:=(.seq (.reg [Oo 2 (.box 52 2 (.tmp 0)),Oo 3 (.box 52 2 (.tmp 1)),Oo 4 (.mv (.const (.bool false)))]) (.seq (.seq (.reg [Fa 8 0 2,Ld 9 8,Fa 10 0 3,Ld 11 10,Oo 12 (.bin .neq (.tmp 9) (.tmp 11)),Mv 13 12,Of 14 13 (.fa 1 (.tmp 2)),Of 15 13 (.load false 1 (.tmp 14)),Of 16 13 (.len false (.tmp 15)),Of 17 13 (.fa 1 (.tmp 3)),Of 18 13 (.load false 1 (.tmp 17)),Of 19 13 (.len false (.tmp 18)),Of 20 13 (.bin .neq (.tmp 16) (.tmp 19)),Oo 21 (.pick (.tmp 13) (.const (.bool true)) (.tmp 20))]) (.cond (.tmp 21) (.seq (.reg [Oo 4 (.mv (.const (.bool false)))]) .ret) .skip)) (.seq (.seq (.reg [Oo 5 (.mv (Ci 0))]) (.block 0 (.loop (.seq (.seq (.reg [Mv 22 5,Fa 23 1 2,Ld 24 23,Oo 25 (.len false (.tmp 24)),Oo 26 (.bin .lss (.tmp 22) (.tmp 25))]) (.cond (.tmp 26) .skip (.exit 0))) (.seq (.block 1 (.seq (.drwU [[],[],[0,1],[],[],[0,1,2,3,4],[0,1,2,3,4],[0,1,2,3,4,5,6],[0,1,2,3,4],[0,1,2,3,4],[0,1,2,3,4,5,6,7,8,9],[0,1,2,3,4,5,6,7,8,9,10],[5,6,7,8,9],[]] [Fa 29 1 2,Ld 30 29,Mv 31 5,Oo 32 (.ia 10 (.tmp 30) (.tmp 31)),Oo 33 (.load true 10 (.tmp 32)),Fa 34 1 3,Ld 35 34,Mv 36 5,Oo 37 (.ia 10 (.tmp 35) (.tmp 36)),Oo 38 (.load true 10 (.tmp 37)),Oo 6 (.new 64 10 [(iv 0),Ss,(iv 0),Ss,(.v (.bool false)),(iv 0),(iv 0),(iv 0),(iv 0),(iv 0)]),Oo 7 (.new 64 10 [(iv 0),Ss,(iv 0),Ss,(.v (.bool false)),(iv 0),(iv 0),(iv 0),(iv 0),(iv 0)]),⟨none,none,(.store 10 (.tmp 6) (.tmp 33))⟩,⟨none,none,(.store 10 (.tmp 7) (.tmp 38))⟩]) (.seq (.reg [Fa 39 0 6,Ld 40 39,Fa 41 0 7,Ld 42 41,Oo 43 (.bin .neq (.tmp 40) (.tmp 42)),Mv 44 43,Of 45 44 (.fa 1 (.tmp 6)),Of 46 44 (.load false 1 (.tmp 45)),Of 47 44 (.fa 1 (.tmp 7)),Of 48 44 (.load false 1 (.tmp 47)),Of 49 44 (.bin .neq (.tmp 46) (.tmp 48)),Oo 50 (.pick (.tmp 44) (.const (.bool true)) (.tmp 49)),Mv 51 50,Of 52 51 (.fa 2 (.tmp 6)),Of 53 51 (.load false 1 (.tmp 52)),Of 54 51 (.fa 2 (.tmp 7)),Of 55 51 (.load false 1 (.tmp 54)),Of 56 51 (.bin .neq (.tmp 53) (.tmp 55)),Oo 57 (.pick (.tmp 51) (.const (.bool true)) (.tmp 56)),Mv 58 57,Of 59 58 (.fa 3 (.tmp 6)),Of 60 58 (.load false 1 (.tmp 59)),Of 61 58 (.fa 3 (.tmp 7)),Of 62 58 (.load false 1 (.tmp 61)),Of 63 58 (.bin .neq (.tmp 60) (.tmp 62)),Oo 64 (.pick (.tmp 58) (.const (.bool true)) (.tmp 63)),Mv 65 64,Of 66 65 (.fa 4 (.tmp 6)),Of 67 65 (.load false 1 (.tmp 66)),Of 68 65 (.fa 4 (.tmp 7)),Of 69 65 (.load false 1 (.tmp 68)),Of 70 65 (.eqb true (.tmp 67) (.tmp 69)),Oo 71 (.pick (.tmp 65) (.const (.bool true)) (.tmp 70)),Mv 72 71,Of 73 72 (.fa 5 (.tmp 6)),Of 74 72 (.load true 5 (.tmp 73)),Of 75 72 (.fa 5 (.tmp 7)),Of 76 72 (.load true 5 (.tmp 75)),Of 77 72 (.call (.func 73) [(.tmp 74),(.tmp 76)]),Of 78 72 (.un .not (.tmp 77)),Oo 79 (.pick (.tmp 72) (.const (.bool true)) (.tmp 78))]) (.cond (.tmp 79) (.seq (.reg [Oo 4 (.mv (.const (.bool false)))]) .ret) .skip)))) (.reg [Mv 27 5,Oo 28 (.bin .add (.tmp 27) (Ci 1)),Mv 5 28])))))) (.seq (.reg [Oo 4 (.mv (.const (.bool true)))]) .ret))))
theorem k38:compF Tryz.prog 38=some ⟨c38,[(.tmp 4)],80⟩:=by kernel_rfl
def c14:AC:=(.seq (.reg [Oo 2 (.box 26 3 (.tmp 0)),Oo 3 (.box 26 3 (.tmp 1)),Oo 4 (.mv (.const (.bool false)))]) (.seq (.seq (.reg [Fa 8 0 2,Ld 9 8,Oo 10 (.len false (.tmp 9)),Fa 11 0 3,Ld 12 11,Oo 13 (.len false (.tmp 12)),Oo 14 (.bin .neq (.tmp 10) (.tmp 13)),Mv 15 14,Of 16 15 (.fa 1 (.tmp 2)),Of 17 15 (.load false 1 (.tmp 16)),Of 18 15 (.len false (.tmp 17)),Of 19 15 (.fa 1 (.tmp 3)),Of 20 15 (.load false 1 (.tmp 19)),Of 21 15 (.len false (.tmp 20)),Of 22 15 (.bin .neq (.tmp 18) (.tmp 21)),Oo 23 (.pick (.tmp 15) (.const (.bool true)) (.tmp 22)),Mv 24 23,Of 25 24 (.fa 2 (.tmp 2)),Of 26 24 (.load false 1 (.tmp 25)),Of 27 24 (.len false (.tmp 26)),Of 28 24 (.fa 2 (.tmp 3)),Of 29 24 (.load false 1 (.tmp 28)),Of 30 24 (.len false (.tmp 29)),Of 31 24 (.bin .neq (.tmp 27) (.tmp 30)),Oo 32 (.pick (.tmp 24) (.const (.bool true)) (.tmp 31))]) (.cond (.tmp 32) (.seq (.reg [Oo 4 (.mv (.const (.bool false)))]) .ret) .skip)) (.seq (.seq (.reg [Oo 5 (.mv (Ci 0))]) (.block 0 (.loop (.seq (.seq (.reg [Mv 33 5,Fa 34 0 2,Ld 35 34,Oo 36 (.len false (.tmp 35)),Oo 37 (.bin .lss (.tmp 33) (.tmp 36))]) (.cond (.tmp 37) .skip (.exit 0))) (.seq (.block 1 (.seq (.drw [Fa 40 0 2,Ld 41 40,Mv 42 5,Oo 43 (.ia 11 (.tmp 41) (.tmp 42)),Oo 44 (.load true 11 (.tmp 43)),Fa 45 0 3,Ld 46 45,Mv 47 5,Oo 48 (.ia 11 (.tmp 46) (.tmp 47)),Oo 49 (.load true 11 (.tmp 48)),Oo 50 (.eqs true [.str,.int,.int,.int,.int,.int,.int,.int,.int,.int,.str] (.tmp 44) (.tmp 49))] [] []) (.cond (.tmp 50) (.seq (.reg [Oo 4 (.mv (.const (.bool false)))]) .ret) .skip))) (.reg [Mv 38 5,Oo 39 (.bin .add (.tmp 38) (Ci 1)),Mv 5 39])))))) (.seq (.seq (.reg [Oo 6 (.mv (Ci 0))]) (.block 2 (.loop (.seq (.seq (.reg [Mv 51 6,Fa 52 2 2,Ld 53 52,Oo 54 (.len false (.tmp 53)),Oo 55 (.bin .lss (.tmp 51) (.tmp 54))]) (.cond (.tmp 55) .skip (.exit 2))) (.seq (.block 3 (.seq (.drw [Fa 58 2 2,Ld 59 58,Mv 60 6,Oo 61 (.ia 2 (.tmp 59) (.tmp 60)),Oo 62 (.load true 2 (.tmp 61)),Fa 63 2 3,Ld 64 63,Mv 65 6,Oo 66 (.ia 2 (.tmp 64) (.tmp 65)),Oo 67 (.load true 2 (.tmp 66)),Oo 68 (.eqs true [.str,.str] (.tmp 62) (.tmp 67))] [] []) (.cond (.tmp 68) (.seq (.reg [Oo 4 (.mv (.const (.bool false)))]) .ret) .skip))) (.reg [Mv 56 6,Oo 57 (.bin .add (.tmp 56) (Ci 1)),Mv 6 57])))))) (.seq (.seq (.reg [Oo 7 (.mv (Ci 0))]) (.block 4 (.loop (.seq (.seq (.reg [Mv 69 7,Fa 70 1 2,Ld 71 70,Oo 72 (.len false (.tmp 71)),Oo 73 (.bin .lss (.tmp 69) (.tmp 72))]) (.cond (.tmp 73) .skip (.exit 4))) (.seq (.block 5 (.seq (.drw [Fa 76 1 2,Ld 77 76,Mv 78 7,Oo 79 (.ia 2 (.tmp 77) (.tmp 78)),Oo 80 (.load true 2 (.tmp 79)),Fa 81 1 3,Ld 82 81,Mv 83 7,Oo 84 (.ia 2 (.tmp 82) (.tmp 83)),Oo 85 (.load true 2 (.tmp 84)),Oo 86 (.call (.func 38) [(.tmp 80),(.tmp 85)]),Oo 87 (.un .not (.tmp 86))] [] []) (.cond (.tmp 87) (.seq (.reg [Oo 4 (.mv (.const (.bool false)))]) .ret) .skip))) (.reg [Mv 74 7,Oo 75 (.bin .add (.tmp 74) (Ci 1)),Mv 7 75])))))) (.seq (.reg [Oo 4 (.mv (.const (.bool true)))]) .ret))))))
theorem k14:compF Tryz.prog 14=some ⟨c14,[(.tmp 4)],88⟩:=by kernel_rfl
theorem rsameUntil_a {u v:Unt}{h:AH}:ACalls Tryz.prog 73 [.agg (untC u),.agg (untC v)] h fun x h'=>h'=h∧x = .ret (bv (decide (u=v))):=by
 obtain ⟨⟨y,m,d⟩,a,c⟩:=u
 obtain ⟨⟨y2,m2,d2⟩,a2,c2⟩:=v
 refine tI' k73 fun N hn hlt hlA hbd=>?_
 simp only [tA',AV.bdL,AV.bd,and_true,true_and] at hbd ⊢
 refine wr'<|E' (e_box (cvl lk0 rfl) rfl (hl0 hn) ha0) pt2<|E' (e_box (cvl lk1 rfl) rfl (hl1 hn) ha1) pt3<|mv' lkb pt4<|sn'<|wr'<|V' (v_fap0 lk2) pt5<|V' (v_loadpA lk5 (hga hn rfl) SrcS_tk0_3 rfl) pt6<|V' (v_fap0 lk3) pt7<|V' (v_loadpA lk7 (hga hn rfl) SrcS_tk0_3 rfl) pt8<|V' (v_eqsT lk6 lk8 SrcS_eq_iii) pt9<|?_
 refine mv' lk9 pt10 ?_
 refine sp' gt10 pt10 pt10 (fun hg10=>?_) (fun hg10=>?_)
 ·refine s_do gt10<|V' (v_fap0 lk2) pt11<|s_do gt10<|V' (v_loadp lk11 (hga hn rfl) gt3) pt12<|s_do gt10<|V' (v_fap0 lk3) pt13<|s_do gt10<|V' (v_loadp lk13 (hga hn rfl) gt3) pt14<|s_do gt10<|V' (v_eql lk12 lk14) pt15<|V' (v_pickT lk10 lk15) pt16<|mv' lk16 pt17<|?_
  refine sp' gt17 pt17 pt17 (fun hg17=>?_) (fun hg17=>?_)
  ·refine s_do gt17<|V' (v_fap0 lk2) pt18<|s_do gt17<|V' (v_loadp lk18 (hga hn rfl) gt4) pt19<|s_do gt17<|V' (v_fap0 lk3) pt20<|s_do gt17<|V' (v_loadp lk20 (hga hn rfl) gt4) pt21<|s_do gt17<|V' (v_eql lk19 lk21) pt22<|V' (v_pickT lk17 lk22) pt23<|mv' lk23 pt4<|sn'<|?_
   refine w_rets<|w_ret (rs1 (rr_t gt4))<|rT'<|?_
   refine bvx ?_;simp_all
  refine s_no gt17 pt18<|s_no gt17 pt19<|s_no gt17 pt20<|s_no gt17 pt21<|s_no gt17 pt22<|V' (v_pickF lk17 lkb) pt23<|mv' lk23 pt4<|sn'<|w_rets<|w_ret (rs1 (rr_t gt4))<|rT'<|?_
  refine bvx ?_;simp_all
 refine s_no gt10 pt11<|s_no gt10 pt12<|s_no gt10 pt13<|s_no gt10 pt14<|s_no gt10 pt15<|V' (v_pickF lk10 lkb) pt16<|mv' lk16 pt17<|s_no gt17 pt18<|s_no gt17 pt19<|s_no gt17 pt20<|s_no gt17 pt21<|s_no gt17 pt22<|V' (v_pickF lk17 lkb) pt23<|mv' lk23 pt4<|?_
 refine sn'<|w_rets<|w_ret (rs1 (rr_t gt4))<|rT'<|?_
 refine bvx ?_;simp_all
theorem eq_no {α:Type}{a b:List α}{k:Nat}(ha:k<a.length) (hb:k<b.length) (h:a[k]≠b[k]):a≠b:=fun e=>h (by subst e;rfl)
set_option maxHeartbeats 1000000 in
theorem rsameZone_b {na nb:ByteArray}{a b:List Era}{h:AH}:ACalls Tryz.prog 38 [.agg [sv na,.sl a.length 10 false (rows eraC a)],.agg [sv nb,.sl b.length 10 false (rows eraC b)]] h fun x h'=>h'=h∧x = .ret (bv (decide ((na,a)=(nb,b)))):=by
 refine tI' k38 fun N hn hlt hlA hbd=>?_
 simp only [tA',AV.bdL,AV.bd,and_true,true_and] at hbd ⊢
 refine wr'<|E' (e_box (cvl lk0 rfl) rfl (hl0 hn) ha0) pt2<|E' (e_box (cvl lk1 rfl) rfl (hl1 hn) ha1) pt3<|mv' lkb pt4<|sn'<|w_seq<|wr'<|V' (v_fap0 lk2) pt8<|V' (v_loadp lk8 (hga hn rfl) gt0) pt9<|V' (v_fap0 lk3) pt10<|V' (v_loadp lk10 (hga hn rfl) gt0) pt11<|?_
 refine V' (v_neqS lk9 lk11) pt12<|mv' lk12 pt13<|?_
 refine sp' gt13 pt13 pt13 (fun hg13=>?_) (fun hg13=>?_)
 ·have hD:decide ((na,a)=(nb,b))=false:=decide_eq_false (fun e=>hg13 (congrArg Prod.fst e))
  refine s_no gt13 pt14<|s_no gt13 pt15<|s_no gt13 pt16<|s_no gt13 pt17<|s_no gt13 pt18<|s_no gt13 pt19<|s_no gt13 pt20<|V' (v_pickT lk13 lkb) pt21<|sn'<|w_condT lk21<|wr'<|mv' lkb pt4<|?_
  refine sn'<|w_rets<|r_thn<|w_ret (rs1 (rr_t gt4))<|rT'<|?_
  rw [hD]
 refine s_do gt13<|V' (v_fap0 lk2) pt14<|s_do gt13<|V' (v_loadp lk14 (hga hn rfl) gt1) pt15<|s_do gt13<|V' (v_lenL lk15) pt16<|s_do gt13<|V' (v_fap0 lk3) pt17<|s_do gt13<|V' (v_loadp lk17 (hga hn rfl) gt1) pt18<|s_do gt13<|V' (v_lenL lk18) pt19<|s_do gt13<|V' (v_neq lk16 lk19) pt20<|?_
 refine V' (v_pickF lk13 lk20) pt21<|sn'<|?_
 refine cd' lk21 (fun hc1=>?_) (fun hc1=>?_)
 ·have hD:decide ((na,a)=(nb,b))=false:=decide_eq_false (fun e=>hc1 (by have:=(Prod.ext_iff.1 e).2;simp only at this;rw [this]))
  refine wr'<|mv' lkb pt4<|sn'<|w_rets<|r_thn<|w_ret (rs1 (rr_t gt4))<|rT'<|?_
  rw [hD]
 have hl:a.length=b.length:=by omega
 have hnm:na=nb:=Decidable.of_not_not hg13
 refine w_skip<|n_seq<|w_seq<|wr'<|mv' lki pt5<|sn'<|w_block<|?_
 refine w_lp (ι:=Nat) (fun (k:Nat)=>[(5,iv (k:Int)),(4,.any),(6,.any),(7,.any)]++rn' 22 58) (fun (k:Nat)=>[]) (fun (k:Nat)=>k≤a.length∧a.take k=b.take k) (fun (k:Nat)=>a.length-k) (0) (by exact ⟨Nat.zero_le _,by simp⟩) ?_
 rintro k hi1
 try simp only [setsT,setsE,z',s',rn',la',ln',Nat.reduceAdd]
 obtain ⟨hk1,hk2⟩:=hi1
 refine w_seq<|wr'<|mv' lk5 pt22<|V' (v_fap0 lk2) pt23<|V' (v_loadp lk23 (hga hn rfl) gt1) pt24<|V' (v_lenL lk24) pt25<|V' (v_lss lk22 lk25) pt26<|sn'<|?_
 refine cd' lk26 (fun hc2=>?_) (fun hc2=>?_)
 ·have hka:k<a.length:=by omega
  have hkb:k<b.length:=by omega
  refine w_skip<|n_seq<|w_seq<|w_block<|w_seq<|w_drwU<|u_fr rfl (v_fap0 lk2) pt29<|?_
  refine u_rdn rfl (v_loadp lk29 (hga hn rfl) gt1) (hx_l rfl) (hl2 hn) (by first | (simp [noHit];done) | (simp [noHit];omega) | (simp [noHit] <;> (try intros) <;> omega)) pt30 ?_
  refine u_fr rfl (v_mv lk5) pt31 ?_
  refine u_fr rfl (v_iaR lk30 lk31 era_len1 (nb' rfl) (by first | rfl | omega) (by omega) (by first | rfl | omega) rfl) pt32 ?_
  refine u_fr rfl (v_loadrA lk32 SrcS_tk_10 rfl) pt33<|u_fr rfl (v_fap0 lk3) pt34<|?_
  refine u_rdn rfl (v_loadp lk34 (hga hn rfl) gt1) (hx_l rfl) (hl2 hn) (by first | (simp [noHit];done) | (simp [noHit];omega) | (simp [noHit] <;> (try intros) <;> omega)) pt35 ?_
  refine u_fr rfl (v_mv lk5) pt36 ?_
  refine u_fr rfl (v_iaR lk35 lk36 era_len1 (nb' rfl) (by first | rfl | omega) (by omega) (by first | rfl | omega) rfl) pt37 ?_
  refine u_fr rfl (v_loadrA lk37 SrcS_tk_10 rfl) pt38 ?_
  refine u_al rfl (e_new (hl2 hn) ha2) (hl2 hn) (by first | (simp [noHit];done) | (simp [noHit];omega) | (simp [noHit] <;> (try intros) <;> omega)) pt6 ?_
  refine u_al rfl (e_new (hl3 hn) ha3) (hl3 hn) (by first | (simp [noHit];done) | (simp [noHit];omega) | (simp [noHit] <;> (try intros) <;> omega)) pt7 ?_
  refine u_st (e_store lk6 (cvl lk33 rfl) (hga hn rfl) rfl (nb' rfl) rfl SrcS_sc0_10 (hs2 hn)) lk6 (by first | (simp [noHit];done) | (simp [noHit];omega) | (simp [noHit] <;> (try intros) <;> omega)) ptn ?_
  refine u_st (e_store lk7 (cvl lk38 rfl) (hga hn rfl) rfl (nb' rfl) rfl SrcS_sc0_10 (hs3 hn)) lk7 (by first | (simp [noHit];done) | (simp [noHit];omega) | (simp [noHit] <;> (try intros) <;> omega)) ptn ?_
  refine u_nil<|n_seq<|wr'<|V' (v_fap0 lk6) pt39<|V' (v_loadp lk39 (hga hn rfl) gt0) pt40<|V' (v_fap0 lk7) pt41<|V' (v_loadp lk41 (hga hn rfl) gt0) pt42<|?_
  refine V' ((by first | exact v_neq lk40 lk42 | exact v_neqS lk40 lk42)) pt43 ?_
  refine mv' lk43 pt44 ?_
  refine sp' gt44 pt44 pt44 (fun hg44=>?_) (fun hg44=>?_)
  ·refine s_no gt44 pt45<|s_no gt44 pt46<|s_no gt44 pt47<|s_no gt44 pt48<|s_no gt44 pt49<|V' (v_pickT lk44 lkb) pt50<|mv' lk50 pt51<|s_no gt51 pt52<|s_no gt51 pt53<|s_no gt51 pt54<|s_no gt51 pt55<|s_no gt51 pt56<|V' (v_pickT lk51 lkb) pt57<|mv' lk57 pt58<|?_
   refine s_no gt58 pt59<|s_no gt58 pt60<|s_no gt58 pt61<|s_no gt58 pt62<|s_no gt58 pt63<|V' (v_pickT lk58 lkb) pt64<|mv' lk64 pt65<|s_no gt65 pt66<|s_no gt65 pt67<|s_no gt65 pt68<|s_no gt65 pt69<|s_no gt65 (ptS pt0)<|V' (v_pickT lk65 lkb) (ptS pt1)<|mv' (lkS lk1) (ptS pt2)<|?_
   refine s_no (gtS gt2) (ptS pt3)<|s_no (gtS gt2) (ptS pt4)<|s_no (gtS gt2) (ptS pt5)<|s_no (gtS gt2) (ptS pt6)<|s_no (gtS gt2) (ptS pt7)<|s_no (gtS gt2) (ptS pt8)<|V' (v_pickT (lkS lk2) lkb) (ptS pt9)<|sn'<|w_condT (lkS lk9)<|wr'<|mv' lkb pt4<|s_nil<|?_
   refine n_seq<|w_rets<|r_blk<|r_thn<|r_thn<|r_blk<|r_thn<|w_ret (rs1 (rr_t gt4))<|rT'<|?_
   exact bvx (decide_eq_false (fun e=>absurd (Prod.ext_iff.1 e).2 (eq_no hka hkb (by intro e2;simp_all)))).symm
  refine s_do gt44<|V' (v_fap0 lk6) pt45<|s_do gt44<|V' (v_loadp lk45 (hga hn rfl) gt1) pt46<|s_do gt44<|V' (v_fap0 lk7) pt47<|s_do gt44<|V' (v_loadp lk47 (hga hn rfl) gt1) pt48<|s_do gt44<|?_
  refine V' ((by first | exact v_neq lk46 lk48 | exact v_neqS lk46 lk48)) pt49 ?_
  refine V' (v_pickF lk44 lk49) pt50<|mv' lk50 pt51<|?_
  refine sp' gt51 pt51 pt51 (fun hg51=>?_) (fun hg51=>?_)
  ·refine s_no gt51 pt52<|s_no gt51 pt53<|s_no gt51 pt54<|s_no gt51 pt55<|s_no gt51 pt56<|V' (v_pickT lk51 lkb) pt57<|mv' lk57 pt58<|s_no gt58 pt59<|s_no gt58 pt60<|s_no gt58 pt61<|s_no gt58 pt62<|s_no gt58 pt63<|V' (v_pickT lk58 lkb) pt64<|mv' lk64 pt65<|?_
   refine s_no gt65 pt66<|s_no gt65 pt67<|s_no gt65 pt68<|s_no gt65 pt69<|s_no gt65 (ptS pt0)<|V' (v_pickT lk65 lkb) (ptS pt1)<|mv' (lkS lk1) (ptS pt2)<|s_no (gtS gt2) (ptS pt3)<|s_no (gtS gt2) (ptS pt4)<|s_no (gtS gt2) (ptS pt5)<|s_no (gtS gt2) (ptS pt6)<|s_no (gtS gt2) (ptS pt7)<|s_no (gtS gt2) (ptS pt8)<|V' (v_pickT (lkS lk2) lkb) (ptS pt9)<|?_
   refine sn'<|w_condT (lkS lk9)<|wr'<|mv' lkb pt4<|sn'<|w_rets<|r_blk<|r_thn<|r_thn<|r_blk<|r_thn<|?_
   refine w_ret (rs1 (rr_t gt4))<|rT'<|?_
   exact bvx (decide_eq_false (fun e=>absurd (Prod.ext_iff.1 e).2 (eq_no hka hkb (by intro e2;simp_all)))).symm
  refine s_do gt51<|V' (v_fap0 lk6) pt52<|s_do gt51<|V' (v_loadp lk52 (hga hn rfl) gt2) pt53<|s_do gt51<|V' (v_fap0 lk7) pt54<|s_do gt51<|V' (v_loadp lk54 (hga hn rfl) gt2) pt55<|s_do gt51<|?_
  refine V' ((by first | exact v_neq lk53 lk55 | exact v_neqS lk53 lk55)) pt56 ?_
  refine V' (v_pickF lk51 lk56) pt57<|mv' lk57 pt58<|?_
  refine sp' gt58 pt58 pt58 (fun hg58=>?_) (fun hg58=>?_)
  ·refine s_no gt58 pt59<|s_no gt58 pt60<|s_no gt58 pt61<|s_no gt58 pt62<|s_no gt58 pt63<|V' (v_pickT lk58 lkb) pt64<|mv' lk64 pt65<|s_no gt65 pt66<|s_no gt65 pt67<|s_no gt65 pt68<|s_no gt65 pt69<|s_no gt65 (ptS pt0)<|V' (v_pickT lk65 lkb) (ptS pt1)<|mv' (lkS lk1) (ptS pt2)<|?_
   refine s_no (gtS gt2) (ptS pt3)<|s_no (gtS gt2) (ptS pt4)<|s_no (gtS gt2) (ptS pt5)<|s_no (gtS gt2) (ptS pt6)<|s_no (gtS gt2) (ptS pt7)<|s_no (gtS gt2) (ptS pt8)<|V' (v_pickT (lkS lk2) lkb) (ptS pt9)<|sn'<|w_condT (lkS lk9)<|wr'<|mv' lkb pt4<|s_nil<|?_
   refine n_seq<|w_rets<|r_blk<|r_thn<|r_thn<|r_blk<|r_thn<|w_ret (rs1 (rr_t gt4))<|rT'<|?_
   exact bvx (decide_eq_false (fun e=>absurd (Prod.ext_iff.1 e).2 (eq_no hka hkb (by intro e2;simp_all)))).symm
  refine s_do gt58<|V' (v_fap0 lk6) pt59<|s_do gt58<|V' (v_loadp lk59 (hga hn rfl) gt3) pt60<|s_do gt58<|V' (v_fap0 lk7) pt61<|s_do gt58<|V' (v_loadp lk61 (hga hn rfl) gt3) pt62<|s_do gt58<|?_
  refine V' ((by first | exact v_neq lk60 lk62 | exact v_neqS lk60 lk62)) pt63 ?_
  refine V' (v_pickF lk58 lk63) pt64<|mv' lk64 pt65<|?_
  refine sp' gt65 pt65 pt65 (fun hg65=>?_) (fun hg65=>?_)
  ·refine s_no gt65 pt66<|s_no gt65 pt67<|s_no gt65 pt68<|s_no gt65 pt69<|s_no gt65 (ptS pt0)<|V' (v_pickT lk65 lkb) (ptS pt1)<|mv' (lkS lk1) (ptS pt2)<|s_no (gtS gt2) (ptS pt3)<|s_no (gtS gt2) (ptS pt4)<|s_no (gtS gt2) (ptS pt5)<|s_no (gtS gt2) (ptS pt6)<|s_no (gtS gt2) (ptS pt7)<|s_no (gtS gt2) (ptS pt8)<|V' (v_pickT (lkS lk2) lkb) (ptS pt9)<|?_
   refine sn'<|w_condT (lkS lk9)<|wr'<|mv' lkb pt4<|sn'<|w_rets<|r_blk<|r_thn<|r_thn<|r_blk<|r_thn<|?_
   refine w_ret (rs1 (rr_t gt4))<|rT'<|?_
   exact bvx (decide_eq_false (fun e=>absurd (Prod.ext_iff.1 e).2 (eq_no hka hkb (by intro e2;simp_all)))).symm
  refine s_do gt65<|V' (v_fap0 lk6) pt66<|s_do gt65<|V' (v_loadp lk66 (hga hn rfl) gt4) pt67<|s_do gt65<|V' (v_fap0 lk7) pt68<|s_do gt65<|V' (v_loadp lk68 (hga hn rfl) gt4) pt69<|s_do gt65<|V' (v_eqbN lk67 lk69) (ptS pt0)<|V' (v_pickF lk65 (lkS lk0)) (ptS pt1)<|mv' (lkS lk1) (ptS pt2)<|?_
  refine sp' (gtS gt2) (ptS pt2) (ptS pt2) (fun hg72=>?_) (fun hg72=>?_)
  ·refine s_no (gtS gt2) (ptS pt3)<|s_no (gtS gt2) (ptS pt4)<|s_no (gtS gt2) (ptS pt5)<|s_no (gtS gt2) (ptS pt6)<|s_no (gtS gt2) (ptS pt7)<|s_no (gtS gt2) (ptS pt8)<|V' (v_pickT (lkS lk2) lkb) (ptS pt9)<|sn'<|w_condT (lkS lk9)<|wr'<|mv' lkb pt4<|s_nil<|?_
   refine n_seq<|w_rets<|r_blk<|r_thn<|r_thn<|r_blk<|r_thn<|w_ret (rs1 (rr_t gt4))<|rT'<|?_
   exact bvx (decide_eq_false (fun e=>absurd (Prod.ext_iff.1 e).2 (eq_no hka hkb (by intro e2;simp_all)))).symm
  refine s_do (gtS gt2)<|V' (v_fap0 lk6) (ptS pt3)<|s_do (gtS gt2)<|V' (v_loadpA (lkS lk3) (hga hn rfl) SrcS_tk5_5 rfl) (ptS pt4)<|s_do (gtS gt2)<|V' (v_fap0 lk7) (ptS pt5)<|s_do (gtS gt2)<|V' (v_loadpA (lkS lk5) (hga hn rfl) SrcS_tk5_5 rfl) (ptS pt6)<|s_do (gtS gt2)<|s_callp (mp1 (lkS lk4) (mp1 (lkS lk6) mp0)) (rsameUntil_a (u:=(a[k]).2.2.2.2.2) (v:=(b[k]).2.2.2.2.2)) (ptS pt7)<|s_do (gtS gt2)<|V' (v_notB (lkS lk7)) (ptS pt8)<|V' (v_pickF (lkS lk2) (lkS lk8)) (ptS pt9)<|s_nil<|?_
  refine n_seq ?_
  refine w_condB (lkS lk9) (fun hc3=>?_) (fun hc3=>?_)
  ·refine wr'<|mv' lkb pt4<|sn'<|w_rets<|r_blk<|r_thn<|r_thn<|r_blk<|r_thn<|w_ret (rs1 (rr_t gt4))<|rT'<|?_
   exact bvx (decide_eq_false (fun e=>absurd (Prod.ext_iff.1 e).2 (eq_no hka hkb (by intro e2;simp_all)))).symm
  have hE:a[k]=b[k]:=by simp only [Prod.ext_iff];simp_all
  refine w_skip<|n_blk<|n_seq<|w_reg<|mv' lk5 pt27<|?_
  refine V' (v_add lk27 lki (by omega) (by omega)) pt28 ?_
  refine mv' lk28 pt5<|s_nil<|n_thn<|?_
  refine lU' (k+1) (by (try dsimp only);exact ⟨by omega,by rw [List.take_succ_eq_append_getElem hka,List.take_succ_eq_append_getElem hkb,hk2,hE]⟩) (by (try dsimp only);(try simp only [setsT,setsE,z',s',rn',la',ln',Nat.reduceAdd]);exact bk' 2 hn hlt)
 refine w_exit<|x_thn<|x_thn<|x_blk<|n_seq<|wr'<|mv' lkb pt4<|sn'<|w_rets<|w_ret (rs1 (rr_t gt4))<|rT'<|?_
 exact bvx (decide_eq_true (by rw [List.take_of_length_le (by omega),List.take_of_length_le (by omega)] at hk2;rw [hnm,hk2])).symm
theorem rsameZone_a {a b:Zon}{h:AH}:ACalls Tryz.prog 38 [.agg (zonC a),.agg (zonC b)] h fun x h'=>h'=h∧x = .ret (bv (decide (a=b))):=rsameZone_b
theorem eq_take {α:Type}{a b:List α}{k:Nat}(ha:k<a.length) (hb:k<b.length) (h:a.take k=b.take k) (e:a[k]=b[k]):a.take (k+1)=b.take (k+1):=by
 rw [List.take_succ_eq_append_getElem ha,List.take_succ_eq_append_getElem hb,h,e]
theorem eq_end {α:Type}{a b:List α}{k:Nat}(ha:a.length≤k) (hb:b.length≤k) (h:a.take k=b.take k):a=b:=by
 rwa [List.take_of_length_le ha,List.take_of_length_le hb] at h
set_option maxHeartbeats 1000000 in
theorem rsameSource_b {a a2:List Rul}{z z2:List Zon}{l l2:List Lnk}{h:AH}:ACalls Tryz.prog 14 [.agg [.sl a.length 11 false (rows rulC a),.sl z.length 2 false (rows zonC z),.sl l.length 2 false (rows lnkC l)],.agg [.sl a2.length 11 false (rows rulC a2),.sl z2.length 2 false (rows zonC z2),.sl l2.length 2 false (rows lnkC l2)]] h fun x h'=>h'=h∧x = .ret (bv (decide ((a,z,l)=(a2,z2,l2)))):=by
 refine tI' k14 fun N hn hlt hlA hbd=>?_
 simp only [tA',AV.bdL,AV.bd,and_true,true_and] at hbd ⊢
 refine wr'<|E' (e_box (cvl lk0 rfl) rfl (hl0 hn) ha0) pt2<|E' (e_box (cvl lk1 rfl) rfl (hl1 hn) ha1) pt3<|mv' lkb pt4<|sn'<|w_seq<|wr'<|V' (v_fap0 lk2) pt8<|V' (v_loadp lk8 (hga hn rfl) gt0) pt9<|V' (v_lenL lk9) pt10<|V' (v_fap0 lk3) pt11<|?_
 refine V' (v_loadp lk11 (hga hn rfl) gt0) pt12<|V' (v_lenL lk12) pt13<|V' (v_neq lk10 lk13) pt14<|mv' lk14 pt15<|?_
 refine sp' gt15 pt15 pt15 (fun hg15=>?_) (fun hg15=>?_)
 ·have hD:decide ((a,z,l)=(a2,z2,l2))=false:=decide_eq_false (fun e=>hg15 (by cases e;rfl))
  refine s_no gt15 pt16<|s_no gt15 pt17<|s_no gt15 pt18<|s_no gt15 pt19<|s_no gt15 pt20<|s_no gt15 pt21<|s_no gt15 pt22<|V' (v_pickT lk15 lkb) pt23<|mv' lk23 pt24<|s_no gt24 pt25<|s_no gt24 pt26<|s_no gt24 pt27<|s_no gt24 pt28<|s_no gt24 pt29<|?_
  refine s_no gt24 pt30<|s_no gt24 pt31<|V' (v_pickT lk24 lkb) pt32<|sn'<|w_condT lk32<|wr'<|mv' lkb pt4<|sn'<|w_rets<|r_thn<|w_ret (rs1 (rr_t gt4))<|?_
  refine rT' ?_
  rw [hD]
 refine s_do gt15<|V' (v_fap0 lk2) pt16<|s_do gt15<|V' (v_loadp lk16 (hga hn rfl) gt1) pt17<|s_do gt15<|V' (v_lenL lk17) pt18<|s_do gt15<|V' (v_fap0 lk3) pt19<|s_do gt15<|V' (v_loadp lk19 (hga hn rfl) gt1) pt20<|s_do gt15<|V' (v_lenL lk20) pt21<|s_do gt15<|V' (v_neq lk18 lk21) pt22<|?_
 refine V' (v_pickF lk15 lk22) pt23<|mv' lk23 pt24<|?_
 refine sp' gt24 pt24 pt24 (fun hg24=>?_) (fun hg24=>?_)
 ·have hD:decide ((a,z,l)=(a2,z2,l2))=false:=decide_eq_false (fun e=>hg24 (by cases e;rfl))
  refine s_no gt24 pt25<|s_no gt24 pt26<|s_no gt24 pt27<|s_no gt24 pt28<|s_no gt24 pt29<|s_no gt24 pt30<|s_no gt24 pt31<|V' (v_pickT lk24 lkb) pt32<|sn'<|w_condT lk32<|wr'<|mv' lkb pt4<|?_
  refine sn'<|w_rets<|r_thn<|w_ret (rs1 (rr_t gt4))<|rT'<|?_
  rw [hD]
 refine s_do gt24<|V' (v_fap0 lk2) pt25<|s_do gt24<|V' (v_loadp lk25 (hga hn rfl) gt2) pt26<|s_do gt24<|V' (v_lenL lk26) pt27<|s_do gt24<|V' (v_fap0 lk3) pt28<|s_do gt24<|V' (v_loadp lk28 (hga hn rfl) gt2) pt29<|s_do gt24<|V' (v_lenL lk29) pt30<|s_do gt24<|V' (v_neq lk27 lk30) pt31<|?_
 refine V' (v_pickF lk24 lk31) pt32<|sn'<|?_
 refine cd' lk32 (fun hc1=>?_) (fun hc1=>?_)
 ·have hD:decide ((a,z,l)=(a2,z2,l2))=false:=decide_eq_false (fun e=>hc1 (by cases e;rfl))
  refine wr'<|mv' lkb pt4<|sn'<|w_rets<|r_thn<|w_ret (rs1 (rr_t gt4))<|rT'<|?_
  rw [hD]
 have l1:a.length=a2.length:=by have:=Decidable.of_not_not hg15;omega
 have l2':z.length=z2.length:=by have:=Decidable.of_not_not hg24;omega
 have l3:l.length=l2.length:=by have:=Decidable.of_not_not hc1;omega
 refine w_skip<|n_seq<|w_seq<|wr'<|mv' lki pt5<|sn'<|w_block<|?_
 refine w_lp (ι:=Nat) (fun (k:Nat)=>[(5,iv (k:Int)),(4,.any)]++rn' 33 18) (fun (k:Nat)=>[]) (fun (k:Nat)=>k≤a.length∧a.take k=a2.take k) (fun (k:Nat)=>a.length-k) (0) (by exact ⟨Nat.zero_le _,by simp⟩) ?_
 rintro k hi1
 try simp only [setsT,setsE,z',s',rn',la',ln',Nat.reduceAdd]
 obtain ⟨hk1,hk2⟩:=hi1
 refine w_seq<|wr'<|mv' lk5 pt33<|V' (v_fap0 lk2) pt34<|V' (v_loadp lk34 (hga hn rfl) gt0) pt35<|V' (v_lenL lk35) pt36<|V' (v_lss lk33 lk36) pt37<|sn'<|?_
 refine cd' lk37 (fun hc2=>?_) (fun hc2=>?_)
 ·have hka:k<a.length:=by omega
  have hkb:k<a2.length:=by omega
  refine w_skip<|n_seq<|w_seq<|w_block<|w_seq<|w_drwE<|D' (v_fap0 lk2) pt40<|D' (v_loadp lk40 (hga hn rfl) gt0) pt41<|D' (v_mv lk5) pt42<|?_
  refine D' (v_iaR lk41 lk42 rul_len1 (nb' rfl) (by first | rfl | omega) (by omega) (by first | rfl | omega) rfl) pt43 ?_
  refine D' (v_loadrA lk43 SrcS_tk_11 rfl) pt44<|D' (v_fap0 lk3) pt45<|D' (v_loadp lk45 (hga hn rfl) gt0) pt46<|D' (v_mv lk5) pt47<|?_
  refine D' (v_iaR lk46 lk47 rul_len1 (nb' rfl) (by first | rfl | omega) (by omega) (by first | rfl | omega) rfl) pt48 ?_
  refine D' (v_loadrA lk48 SrcS_tk_11 rfl) pt49<|D' (v_eqsN lk44 lk49 SrcS_eq_siiiiiiiiis) pt50<|d_nil<|?_
  refine e_nil ?_
  refine sn' ?_
  refine cd' lk50 (fun hc3=>?_) (fun hc3=>?_)
  ·refine wr'<|mv' lkb pt4<|sn'<|w_rets<|r_blk<|r_thn<|r_thn<|r_blk<|r_thn<|w_ret (rs1 (rr_t gt4))<|rT'<|?_
   exact bvx (decide_eq_false (fun e=>absurd (congrArg Prod.fst e) (eq_no hka hkb (by intro e2;apply hc3;rw [e2];simp)))).symm
  have hE:a[k]=a2[k]:=by simp only [Prod.ext_iff];simp_all
  refine w_skip<|n_blk<|n_seq<|w_reg<|mv' lk5 pt38<|?_
  refine V' (v_add lk38 lki (by omega) (by omega)) pt39 ?_
  refine mv' lk39 pt5<|s_nil<|n_thn<|?_
  refine lT' (k+1) (by (try dsimp only);exact ⟨by omega,eq_take hka hkb hk2 hE⟩)
 have hA:a=a2:=eq_end (by omega) (by omega) hk2
 refine w_exit<|x_thn<|x_thn<|x_blk<|n_seq<|w_seq<|wr'<|mv' lki pt6<|sn'<|w_block<|?_
 refine w_lp (ι:=Nat) (fun (k2:Nat)=>[(6,iv (k2:Int)),(4,.any)]++rn' 51 18) (fun (k2:Nat)=>[]) (fun (k2:Nat)=>k2≤l.length∧l.take k2=l2.take k2) (fun (k2:Nat)=>l.length-k2) (0) (by exact ⟨Nat.zero_le _,by simp⟩) ?_
 rintro k2 hi2
 try simp only [setsT,setsE,z',s',rn',la',ln',Nat.reduceAdd]
 obtain ⟨hm1,hm2⟩:=hi2
 refine w_seq<|wr'<|mv' lk6 pt51<|V' (v_fap0 lk2) pt52<|V' (v_loadp lk52 (hga hn rfl) gt2) pt53<|V' (v_lenL lk53) pt54<|V' (v_lss lk51 lk54) pt55<|sn'<|?_
 refine cd' lk55 (fun hc4=>?_) (fun hc4=>?_)
 ·have hma:k2<l.length:=by omega
  have hmb:k2<l2.length:=by omega
  refine w_skip<|n_seq<|w_seq<|w_block<|w_seq<|w_drwE<|D' (v_fap0 lk2) pt58<|D' (v_loadp lk58 (hga hn rfl) gt2) pt59<|D' (v_mv lk6) pt60<|?_
  refine D' (v_iaR lk59 lk60 lnk_len1 (nb' rfl) (by first | rfl | omega) (by omega) (by first | rfl | omega) rfl) pt61 ?_
  refine D' (v_loadrA lk61 SrcS_tk_2 rfl) pt62<|D' (v_fap0 lk3) pt63<|D' (v_loadp lk63 (hga hn rfl) gt2) pt64<|D' (v_mv lk6) pt65<|?_
  refine D' (v_iaR lk64 lk65 lnk_len1 (nb' rfl) (by first | rfl | omega) (by omega) (by first | rfl | omega) rfl) pt66 ?_
  refine D' (v_loadrA lk66 SrcS_tk_2 rfl) pt67<|D' (v_eqsN lk62 lk67 SrcS_eq_ss) pt68<|d_nil<|?_
  refine e_nil ?_
  refine sn' ?_
  refine cd' lk68 (fun hc5=>?_) (fun hc5=>?_)
  ·refine wr'<|mv' lkb pt4<|sn'<|w_rets<|r_blk<|r_thn<|r_thn<|r_blk<|r_thn<|w_ret (rs1 (rr_t gt4))<|rT'<|?_
   exact bvx (decide_eq_false (fun e=>absurd (congrArg (fun x=>x.2.2) e) (eq_no hma hmb (by intro e2;apply hc5;rw [e2];simp)))).symm
  have hE2:l[k2]=l2[k2]:=by simp only [Prod.ext_iff];simp_all
  refine w_skip<|n_blk<|n_seq<|w_reg<|mv' lk6 pt56<|?_
  refine V' (v_add lk56 lki (by omega) (by omega)) pt57 ?_
  refine mv' lk57 pt6<|s_nil<|n_thn<|?_
  refine lT' (k2+1) (by (try dsimp only);exact ⟨by omega,eq_take hma hmb hm2 hE2⟩)
 have hL:l=l2:=eq_end (by omega) (by omega) hm2
 refine w_exit<|x_thn<|x_thn<|x_blk<|n_seq<|w_seq<|wr'<|mv' lki pt7<|sn'<|w_block<|?_
 refine w_lp (ι:=Nat) (fun (k3:Nat)=>[(7,iv (k3:Int)),(4,.any)]++rn' 69 19) (fun (k3:Nat)=>[]) (fun (k3:Nat)=>k3≤z.length∧z.take k3=z2.take k3) (fun (k3:Nat)=>z.length-k3) (0) (by exact ⟨Nat.zero_le _,by simp⟩) ?_
 rintro k3 hi3
 try simp only [setsT,setsE,z',s',rn',la',ln',Nat.reduceAdd]
 obtain ⟨hn1,hn2⟩:=hi3
 refine w_seq<|wr'<|mv' lk7 pt69<|V' (v_fap0 lk2) (ptS pt0)<|V' (v_loadp (lkS lk0) (hga hn rfl) gt1) (ptS pt1)<|V' (v_lenL (lkS lk1)) (ptS pt2)<|V' (v_lss lk69 (lkS lk2)) (ptS pt3)<|sn'<|?_
 refine cd' (lkS lk3) (fun hc6=>?_) (fun hc6=>?_)
 ·have hna:k3<z.length:=by omega
  have hnb:k3<z2.length:=by omega
  refine w_skip<|n_seq<|w_seq<|w_block<|w_seq<|w_drwE<|D' (v_fap0 lk2) (ptS pt6)<|D' (v_loadp (lkS lk6) (hga hn rfl) gt1) (ptS pt7)<|D' (v_mv lk7) (ptS pt8)<|?_
  refine D' (v_iaR (lkS lk7) (lkS lk8) (fun _=>rfl) (nb' rfl) (by first | rfl | omega) (by omega) (by first | rfl | omega) rfl) (ptS pt9) ?_
  refine D' (v_loadrA (lkS lk9) SrcS_tk_2 rfl) (ptS pt10)<|D' (v_fap0 lk3) (ptS pt11)<|D' (v_loadp (lkS lk11) (hga hn rfl) gt1) (ptS pt12)<|D' (v_mv lk7) (ptS pt13)<|?_
  refine D' (v_iaR (lkS lk12) (lkS lk13) (fun _=>rfl) (nb' rfl) (by first | rfl | omega) (by omega) (by first | rfl | omega) rfl) (ptS pt14) ?_
  refine D' (v_loadrA (lkS lk14) SrcS_tk_2 rfl) (ptS pt15) ?_
  refine d_callp (mp1 (lkS lk10) (mp1 (lkS lk15) mp0)) (fun hE hX=>rsameZone_a (a:=z[k3]) (b:=z2[k3])) (ptS pt16) ?_
  refine D' (v_notB (lkS lk16)) (ptS pt17)<|d_nil<|?_
  refine e_nil ?_
  refine sn' ?_
  refine w_condB (lkS lk17) (fun hc7=>?_) (fun hc7=>?_)
  ·have hne:z[k3]≠z2[k3]:=by simpa using hc7
   refine wr'<|mv' lkb pt4<|sn'<|w_rets<|r_blk<|r_thn<|r_thn<|r_blk<|r_thn<|w_ret (rs1 (rr_t gt4))<|rT'<|?_
   exact bvx (decide_eq_false (fun e=>absurd (congrArg (fun x=>x.2.1) e) (eq_no hna hnb hne))).symm
  have hE3:z[k3]=z2[k3]:=by simpa using hc7
  refine w_skip<|n_blk<|n_seq<|w_reg<|mv' lk7 (ptS pt4)<|?_
  refine V' (v_add (lkS lk4) lki (by omega) (by omega)) (ptS pt5) ?_
  refine mv' (lkS lk5) pt7<|s_nil<|n_thn<|?_
  refine lT' (k3+1) (by (try dsimp only);exact ⟨by omega,eq_take hna hnb hn2 hE3⟩)
 refine w_exit<|x_thn<|x_thn<|x_blk<|n_seq<|wr'<|mv' lkb pt4<|sn'<|w_rets<|w_ret (rs1 (rr_t gt4))<|rT'<|?_
 exact bvx (decide_eq_true (by rw [hA,hL,eq_end (by omega) (by omega) hn2])).symm
theorem rsameSource_a {s t:Src}{h:AH}:ACalls Tryz.prog 14 [.agg (srcC s),.agg (srcC t)] h fun x h'=>h'=h∧x = .ret (bv (decide (s=t))):=rsameSource_b
end Go.Proofs.YtgjchdhdopgkkaaGreatDoor
end
section
namespace Go.Proofs.YtgjchdhdopgkkaaGreatDoor
open Go.Ab Go.RowKit Civ
attribute [local simp] rul_lt era_lt zon_lt lnk_lt
section
theorem SrcE_tk4_3 {a0 a1 a2 a3 a4 a5 a6:AV}{l:List AV}:((a0::a1::a2::a3::a4::a5::a6::l).drop 4).take 3=[a4,a5,a6]:=rfl
theorem SrcE_sc0_3 {a0 a1 a2 c0 c1 c2:AV}{l:List AV}:setCells (a0::a1::a2::l) 0 [c0,c1,c2]=c0::c1::c2::l:=rfl
theorem SrcE_tk5_5 {a0 a1 a2 a3 a4 a5 a6 a7 a8 a9:AV}{l:List AV}:((a0::a1::a2::a3::a4::a5::a6::a7::a8::a9::l).drop 5).take 5=[a5,a6,a7,a8,a9]:=rfl
theorem SrcE_checkEra_48 {τ:Operand→AV}:fillAV τ [] [(.v (.int .i64 0)),(.v (.int .i64 0)),(.v (.int .i64 0)),(.v (.int .i64 0)),(.v (.int .i64 0))]=some [(.v (.int .i64 0)),(.v (.int .i64 0)),(.v (.int .i64 0)),(.v (.int .i64 0)),(.v (.int .i64 0))]:=rfl
theorem SrcE_tk5_3 {a0 a1 a2 a3 a4 a5 a6 a7:AV}{l:List AV}:((a0::a1::a2::a3::a4::a5::a6::a7::l).drop 5).take 3=[a5,a6,a7]:=rfl
theorem SrcE_tk_11 {a0 a1 a2 a3 a4 a5 a6 a7 a8 a9 a10:AV}{l:List AV}:(a0::a1::a2::a3::a4::a5::a6::a7::a8::a9::a10::l).take 11=[a0,a1,a2,a3,a4,a5,a6,a7,a8,a9,a10]:=rfl
theorem SrcE_tk_10 {a0 a1 a2 a3 a4 a5 a6 a7 a8 a9:AV}{l:List AV}:(a0::a1::a2::a3::a4::a5::a6::a7::a8::a9::l).take 10=[a0,a1,a2,a3,a4,a5,a6,a7,a8,a9]:=rfl
end
def c24:AC:=(.seq (.reg [Oo 1 (.box 48 11 (.tmp 0)),Oo 2 (.mv (Ci 0))]) (.seq (.seq (.reg [Fa 5 0 1,Ld 6 5,Oo 7 (.call (.func 25) [(.tmp 6)]),Oo 8 (.un .not (.tmp 7)),Mv 9 8,Of 10 9 (.fa 10 (.tmp 1)),Of 11 9 (.load false 1 (.tmp 10)),Of 12 9 (.call (.func 67) [(.tmp 11)]),Of 13 9 (.un .not (.tmp 12)),Oo 14 (.pick (.tmp 9) (.const (.bool true)) (.tmp 13))]) (.cond (.tmp 14) (.seq (.reg [Oo 2 (.mv (Ci 1))]) .ret) .skip)) (.seq (.seq (.reg [Fa 15 1 1,Ld 16 15,Fa 17 2 1,Ld 18 17,Oo 19 (.call (.func 68) [(.tmp 16),(Ci 1900),(.tmp 18)]),Oo 20 (.un .not (.tmp 19)),Mv 21 20,Of 22 21 (.fa 2 (.tmp 1)),Of 23 21 (.load false 1 (.tmp 22)),Of 24 21 (.bin .gtr (.tmp 23) (Ci 2100)),Oo 25 (.pick (.tmp 21) (.const (.bool true)) (.tmp 24)),Mv 26 25,Of 27 26 (.fa 3 (.tmp 1)),Of 28 26 (.load false 1 (.tmp 27)),Of 29 26 (.call (.func 68) [(.tmp 28),(Ci 1),(Ci 12)]),Of 30 26 (.un .not (.tmp 29)),Oo 31 (.pick (.tmp 26) (.const (.bool true)) (.tmp 30))]) (.cond (.tmp 31) (.seq (.reg [Oo 2 (.mv (Ci 3))]) .ret) .skip)) (.seq (.reg [Fa 33 3 1,Ld 34 33,Fa 35 4 1,Oo 36 (.load true 3 (.tmp 35)),Oo 37 (.call (.func 69) [(Ci 2001),(.tmp 34),(.tmp 36)]),Mv 32 37,Ex 38 32 0,Ex 39 32 1,Oo 3 (.new 60 3 [(iv 0),(iv 0),(iv 0)]),⟨none,none,(.store 3 (.tmp 3) (.tmp 38))⟩,Mv 4 39]) (.seq (.seq (.reg [Mv 40 4,Oo 41 (.bin .neq (.tmp 40) (Ci 0))]) (.cond (.tmp 41) (.seq (.reg [Mv 42 4,Mv 2 42]) .ret) .skip)) (.seq (.seq (.reg [Fa 43 7 1,Ld 44 43,Oo 45 (.call (.func 68) [(.tmp 44),(Ci 0),(Ci 172800)]),Oo 46 (.un .not (.tmp 45))]) (.cond (.tmp 46) (.seq (.reg [Oo 2 (.mv (Ci 3))]) .ret) .skip)) (.seq (.seq (.reg [Fa 47 8 1,Ld 48 47,Oo 49 (.call (.func 68) [(.tmp 48),(Ci 1),(Ci 3)]),Oo 50 (.un .not (.tmp 49))]) (.cond (.tmp 50) (.seq (.reg [Oo 2 (.mv (Ci 7))]) .ret) .skip)) (.seq (.seq (.reg [Fa 51 9 1,Ld 52 51,Oo 53 (.call (.func 68) [(.tmp 52),(Ci 0),(Ci 10800)]),Oo 54 (.un .not (.tmp 53))]) (.cond (.tmp 54) (.seq (.reg [Oo 2 (.mv (Ci 3))]) .ret) .skip)) (.seq (.reg [Oo 2 (.mv (Ci 0))]) .ret)))))))))
theorem k24:compF Tryz.prog 24=some ⟨c24,[(.tmp 2)],55⟩:=by kernel_rfl
def c26:AC:=(.seq (.reg [Oo 2 (.box 64 10 (.tmp 0)),Oo 4 (.mv (Ci 0))]) (.seq (.seq (.reg [Fa 5 1 2,Ld 6 5,Oo 7 (.bin .neq (.tmp 6) (.const (.string ⟨#[]⟩))),Mv 8 7,Ot 9 8 (.fa 1 (.tmp 2)),Ot 10 8 (.load false 1 (.tmp 9)),Ot 11 8 (.call (.func 25) [(.tmp 10)]),Ot 12 8 (.un .not (.tmp 11)),Oo 13 (.pick (.tmp 8) (.tmp 12) (.const (.bool false))),Mv 14 13,Of 15 14 (.fa 3 (.tmp 2)),Of 16 14 (.load false 1 (.tmp 15)),Of 17 14 (.call (.func 72) [(.tmp 16)]),Of 18 14 (.un .not (.tmp 17)),Oo 19 (.pick (.tmp 14) (.const (.bool true)) (.tmp 18))]) (.cond (.tmp 19) (.seq (.reg [Oo 4 (.mv (Ci 1))]) .ret) .skip)) (.seq (.seq (.reg [Fa 20 0 2,Ld 21 20,Oo 22 (.call (.func 68) [(.tmp 21),(.const (.int .i64 (-64800))),(Ci 64800)]),Oo 23 (.un .not (.tmp 22)),Mv 24 23,Of 25 24 (.fa 2 (.tmp 2)),Of 26 24 (.load false 1 (.tmp 25)),Of 27 24 (.call (.func 68) [(.tmp 26),(Ci 0),(Ci 10800)]),Of 28 24 (.un .not (.tmp 27)),Oo 29 (.pick (.tmp 24) (.const (.bool true)) (.tmp 28))]) (.cond (.tmp 29) (.seq (.reg [Oo 4 (.mv (Ci 3))]) .ret) .skip)) (.seq (.seq (.reg [Fa 30 1 2,Ld 31 30,Oo 32 (.bin .neq (.tmp 31) (.const (.string ⟨#[]⟩))),Mv 33 32,Ot 34 33 (.fa 2 (.tmp 2)),Ot 35 33 (.load false 1 (.tmp 34)),Ot 36 33 (.bin .neq (.tmp 35) (Ci 0)),Oo 37 (.pick (.tmp 33) (.tmp 36) (.const (.bool false)))]) (.cond (.tmp 37) (.seq (.reg [Oo 4 (.mv (Ci 1))]) .ret) .skip)) (.seq (.seq (.reg [Fa 38 4 2,Ld 39 38,Mv 40 1,Oo 41 (.eqb true (.tmp 39) (.tmp 40))]) (.cond (.tmp 41) (.seq (.reg [Oo 4 (.mv (Ci 4))]) .ret) .skip)) (.seq (.seq (.reg [Fa 42 4 2,Ld 43 42]) (.cond (.tmp 43) (.seq (.seq (.reg [Fa 44 5 2,Oo 45 (.load true 5 (.tmp 44)),Oo 46 (.build [(iv 0),(iv 0),(iv 0),(iv 0),(iv 0)] []),Oo 47 (.call (.func 73) [(.tmp 45),(.tmp 46)]),Oo 48 (.un .not (.tmp 47))]) (.cond (.tmp 48) (.seq (.reg [Oo 4 (.mv (Ci 1))]) .ret) .skip)) (.seq (.reg [Oo 4 (.mv (Ci 0))]) .ret)) .skip)) (.seq (.seq (.reg [Fa 49 5 2,Fa 50 0 49,Oo 51 (.load true 3 (.tmp 50)),Oo 52 (.call (.func 74) [(.tmp 51)]),Oo 53 (.un .not (.tmp 52)),Mv 54 53,Of 55 54 (.fa 5 (.tmp 2)),Of 56 54 (.fa 3 (.tmp 55)),Of 57 54 (.load false 1 (.tmp 56)),Of 58 54 (.call (.func 68) [(.tmp 57),(Ci 0),(Ci 172800)]),Of 59 54 (.un .not (.tmp 58)),Oo 60 (.pick (.tmp 54) (.const (.bool true)) (.tmp 59))]) (.cond (.tmp 60) (.seq (.reg [Oo 4 (.mv (Ci 3))]) .ret) .skip)) (.seq (.seq (.reg [Fa 61 5 2,Fa 62 4 61,Ld 63 62,Oo 64 (.bin .neq (.tmp 63) (Ci 2)),Mv 65 64,Ot 66 65 (.fa 5 (.tmp 2)),Ot 67 65 (.fa 4 (.tmp 66)),Ot 68 65 (.load false 1 (.tmp 67)),Ot 69 65 (.bin .neq (.tmp 68) (Ci 3)),Oo 70 (.pick (.tmp 65) (.tmp 69) (.const (.bool false)))]) (.cond (.tmp 70) (.seq (.reg [Oo 4 (.mv (Ci 7))]) .ret) .skip)) (.seq (.reg [Oo 4 (.mv (Ci 0))]) .ret)))))))))
theorem k26:compF Tryz.prog 26=some ⟨c26,[(.tmp 4)],71⟩:=by kernel_rfl
def c9:AC:=(.seq (.reg [Oo 1 (.box 26 3 (.tmp 0)),Oo 2 (.mv (Ci 0))]) (.seq (.seq (.reg [Fa 11 0 1,Ld 12 11,Oo 13 (.len false (.tmp 12)),Oo 14 (.bin .gtr (.tmp 13) (Ci 40)),Mv 15 14,Of 16 15 (.fa 1 (.tmp 1)),Of 17 15 (.load false 1 (.tmp 16)),Of 18 15 (.len false (.tmp 17)),Of 19 15 (.bin .gtr (.tmp 18) (Ci 20)),Oo 20 (.pick (.tmp 15) (.const (.bool true)) (.tmp 19)),Mv 21 20,Of 22 21 (.fa 2 (.tmp 1)),Of 23 21 (.load false 1 (.tmp 22)),Of 24 21 (.len false (.tmp 23)),Of 25 21 (.bin .gtr (.tmp 24) (Ci 20)),Oo 26 (.pick (.tmp 21) (.const (.bool true)) (.tmp 25))]) (.cond (.tmp 26) (.seq (.reg [Oo 2 (.mv (Ci 2))]) .ret) .skip)) (.seq (.seq (.reg [Oo 3 (.mv (Ci 0))]) (.block 0 (.loop (.seq (.seq (.reg [Mv 27 3,Fa 28 1 1,Ld 29 28,Oo 30 (.len false (.tmp 29)),Oo 31 (.bin .lss (.tmp 27) (.tmp 30))]) (.cond (.tmp 31) .skip (.exit 0))) (.seq (.block 1 (.seq (.reg [Fa 34 1 1,Ld 35 34,Mv 36 3,Oo 37 (.ia 2 (.tmp 35) (.tmp 36)),Fa 38 1 37,Ld 39 38,Oo 40 (.len false (.tmp 39)),Oo 41 (.bin .gtr (.tmp 40) (Ci 8))]) (.cond (.tmp 41) (.seq (.reg [Oo 2 (.mv (Ci 2))]) .ret) .skip))) (.reg [Mv 32 3,Oo 33 (.bin .add (.tmp 32) (Ci 1)),Mv 3 33])))))) (.seq (.seq (.reg [Oo 4 (.mv (Ci 0))]) (.block 2 (.loop (.seq (.seq (.reg [Mv 42 4,Fa 43 0 1,Ld 44 43,Oo 45 (.len false (.tmp 44)),Oo 46 (.bin .lss (.tmp 42) (.tmp 45))]) (.cond (.tmp 46) .skip (.exit 2))) (.seq (.block 3 (.seq (.reg [Fa 49 0 1,Ld 50 49,Mv 51 4,Oo 52 (.ia 11 (.tmp 50) (.tmp 51)),Oo 53 (.load true 11 (.tmp 52)),Oo 54 (.call (.func 24) [(.tmp 53)]),Mv 5 54]) (.seq (.reg [Mv 55 5,Oo 56 (.bin .neq (.tmp 55) (Ci 0))]) (.cond (.tmp 56) (.seq (.reg [Mv 57 5,Mv 2 57]) .ret) .skip)))) (.reg [Mv 47 4,Oo 48 (.bin .add (.tmp 47) (Ci 1)),Mv 4 48])))))) (.seq (.seq (.reg [Oo 6 (.mv (Ci 0))]) (.block 4 (.loop (.seq (.seq (.reg [Mv 58 6,Fa 59 1 1,Ld 60 59,Oo 61 (.len false (.tmp 60)),Oo 62 (.bin .lss (.tmp 58) (.tmp 61))]) (.cond (.tmp 62) .skip (.exit 4))) (.seq (.block 5 (.seq (.reg [Fa 65 1 1,Ld 66 65,Mv 67 6,Oo 68 (.ia 2 (.tmp 66) (.tmp 67)),Fa 69 1 68,Ld 70 69,Mv 7 70]) (.seq (.seq (.reg [Fa 71 1 1,Ld 72 71,Mv 73 6,Oo 74 (.ia 2 (.tmp 72) (.tmp 73)),Fa 75 0 74,Ld 76 75,Oo 77 (.call (.func 25) [(.tmp 76)]),Oo 78 (.un .not (.tmp 77)),Mv 79 78,Of 80 79 (.mv (.tmp 7)),Of 81 79 (.len false (.tmp 80)),Of 82 79 (.bin .eql (.tmp 81) (Ci 0)),Oo 83 (.pick (.tmp 79) (.const (.bool true)) (.tmp 82))]) (.cond (.tmp 83) (.seq (.reg [Oo 2 (.mv (Ci 1))]) .ret) .skip)) (.seq (.reg [Oo 8 (.mv (Ci 0))]) (.block 6 (.loop (.seq (.seq (.reg [Mv 84 8,Mv 85 7,Oo 86 (.len false (.tmp 85)),Oo 87 (.bin .lss (.tmp 84) (.tmp 86))]) (.cond (.tmp 87) .skip (.exit 6))) (.seq (.block 7 (.seq (.reg [Mv 90 7,Mv 91 8,Oo 92 (.ia 10 (.tmp 90) (.tmp 91)),Oo 93 (.load true 10 (.tmp 92)),Mv 94 8,Mv 95 7,Oo 96 (.len false (.tmp 95)),Oo 97 (.bin .sub (.tmp 96) (Ci 1)),Oo 98 (.bin .eql (.tmp 94) (.tmp 97)),Oo 99 (.call (.func 26) [(.tmp 93),(.tmp 98)]),Mv 9 99]) (.seq (.reg [Mv 100 9,Oo 101 (.bin .neq (.tmp 100) (Ci 0))]) (.cond (.tmp 101) (.seq (.reg [Mv 102 9,Mv 2 102]) .ret) .skip)))) (.reg [Mv 88 8,Oo 89 (.bin .add (.tmp 88) (Ci 1)),Mv 8 89]))))))))) (.reg [Mv 63 6,Oo 64 (.bin .add (.tmp 63) (Ci 1)),Mv 6 64])))))) (.seq (.seq (.reg [Oo 10 (.mv (Ci 0))]) (.block 8 (.loop (.seq (.seq (.reg [Mv 103 10,Fa 104 2 1,Ld 105 104,Oo 106 (.len false (.tmp 105)),Oo 107 (.bin .lss (.tmp 103) (.tmp 106))]) (.cond (.tmp 107) .skip (.exit 8))) (.seq (.block 9 (.seq (.reg [Fa 110 2 1,Ld 111 110,Mv 112 10,Oo 113 (.ia 2 (.tmp 111) (.tmp 112)),Fa 114 0 113,Ld 115 114,Oo 116 (.call (.func 25) [(.tmp 115)]),Oo 117 (.un .not (.tmp 116)),Mv 118 117,Of 119 118 (.fa 2 (.tmp 1)),Of 120 118 (.load false 1 (.tmp 119)),Of 121 118 (.mv (.tmp 10)),Of 122 118 (.ia 2 (.tmp 120) (.tmp 121)),Of 123 118 (.fa 1 (.tmp 122)),Of 124 118 (.load false 1 (.tmp 123)),Of 125 118 (.call (.func 25) [(.tmp 124)]),Of 126 118 (.un .not (.tmp 125)),Oo 127 (.pick (.tmp 118) (.const (.bool true)) (.tmp 126))]) (.cond (.tmp 127) (.seq (.reg [Oo 2 (.mv (Ci 1))]) .ret) .skip))) (.reg [Mv 108 10,Oo 109 (.bin .add (.tmp 108) (Ci 1)),Mv 10 109])))))) (.seq (.reg [Oo 2 (.mv (Ci 0))]) .ret)))))))
theorem k9:compF Tryz.prog 9=some ⟨c9,[(.tmp 2)],128⟩:=by kernel_rfl
set_option maxHeartbeats 1000000 in
theorem rcheckRule_b {nm lt:ByteArray}{f t m k w n a c s:Int}{h:AH}(hnm:nm.size≤maxLen) (hlt':lt.size≤maxLen):ACalls Tryz.prog 24 [.agg [sv nm,iv f,iv t,iv m,iv k,iv w,iv n,iv a,iv c,iv s,sv lt]] h fun x h'=>h'=h∧x = .ret (iv (ruleE (nm,f,t,m,(k,w,n),a,c,s,lt))):=by
 refine tI' k24 fun N hn hlt hlA hbd=>?_
 simp only [tA',AV.bdL,AV.bd,and_true,true_and] at hbd ⊢
 refine wr'<|E' (e_box (cvl lk0 rfl) rfl (hl0 hn) ha0) pt1<|mv' lki pt2<|sn'<|w_seq<|wr'<|V' (v_fap0 lk1) pt5<|V' (v_loadp lk5 (hga hn rfl) gt0) pt6<|s_callp (mp1 lk6 mp0) (risName_a hnm) pt7<|V' (v_notB lk7) pt8<|mv' lk8 pt9<|?_
 refine s_splitB gt9 pt9 pt9 (fun hg9=>?_) (fun hg9=>?_)
 ·refine s_no gt9 pt10<|s_no gt9 pt11<|s_no gt9 pt12<|s_no gt9 pt13<|V' (v_pickT lk9 lkb) pt14<|sn'<|w_condT lk14<|wr'<|mv' lki pt2<|sn'<|w_rets<|?_
  refine r_thn<|w_ret (rs1 (rr_t gt2))<|rT'<|?_
  rw [show ruleE (nm,f,t,m,(k,w,n),a,c,s,lt)=1 by unfold ruleE;simp_all]
 refine s_do gt9<|V' (v_fap0 lk1) pt10<|s_do gt9<|V' (v_loadp lk10 (hga hn rfl) gt10) pt11<|s_do gt9<|s_callp (mp1 lk11 mp0) (risLetters_a hlt') pt12<|s_do gt9<|V' (v_notB lk12) pt13<|V' (v_pickF lk9 lk13) pt14<|sn'<|?_
 refine w_condB lk14 (fun hc1=>?_) (fun hc1=>?_)
 ·refine wr'<|mv' lki pt2<|sn'<|w_rets<|r_thn<|w_ret (rs1 (rr_t gt2))<|rT'<|?_
  rw [show ruleE (nm,f,t,m,(k,w,n),a,c,s,lt)=1 by unfold ruleE;simp_all]
 have h1:nameB nm=true∧lettersB lt=true:=by simp_all
 have hR:ruleE (nm,f,t,m,(k,w,n),a,c,s,lt)=if f<1900∨f>t∨t>2100∨¬wi m 1 12=true then 3 else if (onV 2001 m k w n).2≠0 then (onV 2001 m k w n).2 else if ¬wi a 0 172800=true then 3 else if ¬clkB c true=true then 7 else if ¬wi s 0 10800=true then 3 else 0:=if_neg (by simp [h1])
 have hC:clkB c true=wi c 1 3:=by unfold clkB;simp
 rw [hC] at hR
 refine w_skip<|n_seq<|w_seq<|wr'<|V' (v_fap0 lk1) pt15<|V' (v_loadp lk15 (hga hn rfl) gt1) pt16<|V' (v_fap0 lk1) pt17<|V' (v_loadp lk17 (hga hn rfl) gt2) pt18<|s_callp (mp1 lk16 (mp1 lki (mp1 lk18 mp0))) (rlbetween_a) pt19<|V' (v_notB lk19) pt20<|mv' lk20 pt21<|?_
 refine s_splitB gt21 pt21 pt21 (fun hg21=>?_) (fun hg21=>?_)
 ·have hw:¬wi f 1900 t=true:=by simpa using hg21
  have hw':¬(1900≤f∧f≤t):=by unfold wi at hw;simpa using hw
  rw [if_pos (by omega)] at hR
  refine s_no gt21 pt22<|s_no gt21 pt23<|s_no gt21 pt24<|V' (v_pickT lk21 lkb) pt25<|mv' lk25 pt26<|s_no gt26 pt27<|s_no gt26 pt28<|s_no gt26 pt29<|s_no gt26 pt30<|V' (v_pickT lk26 lkb) pt31<|sn'<|w_condT lk31<|w_seq<|?_
  refine w_reg<|mv' lki pt2<|sn'<|w_rets<|r_thn<|w_ret (rs1 (rr_t gt2))<|rT'<|?_
  rw [hR]
 have hw:wi f 1900 t=true:=by simpa using hg21
 have hw':1900≤f∧f≤t:=by unfold wi at hw;simpa using hw
 refine s_do gt21<|V' (v_fap0 lk1) pt22<|s_do gt21<|V' (v_loadp lk22 (hga hn rfl) gt2) pt23<|s_do gt21<|V' (v_gtr lk23 lki) pt24<|V' (v_pickF lk21 lk24) pt25<|mv' lk25 pt26<|?_
 refine sp' gt26 pt26 pt26 (fun hg26=>?_) (fun hg26=>?_)
 ·rw [if_pos (.inr (.inr (.inl (by omega))))] at hR
  refine s_no gt26 pt27<|s_no gt26 pt28<|s_no gt26 pt29<|s_no gt26 pt30<|V' (v_pickT lk26 lkb) pt31<|sn'<|w_condT lk31<|wr'<|mv' lki pt2<|sn'<|w_rets<|?_
  refine r_thn<|w_ret (rs1 (rr_t gt2))<|rT'<|?_
  rw [hR]
 refine s_do gt26<|V' (v_fap0 lk1) pt27<|s_do gt26<|V' (v_loadp lk27 (hga hn rfl) gt3) pt28<|s_do gt26<|s_callp (mp1 lk28 (mp1 lki (mp1 lki mp0))) (rlbetween_a) pt29<|s_do gt26<|V' (v_notB lk29) pt30<|V' (v_pickF lk26 lk30) pt31<|sn'<|?_
 refine w_condB lk31 (fun hc2=>?_) (fun hc2=>?_)
 ·rw [if_pos (.inr (.inr (.inr (by simpa using hc2))))] at hR
  refine wr'<|mv' lki pt2<|sn'<|w_rets<|r_thn<|w_ret (rs1 (rr_t gt2))<|rT'<|?_
  rw [hR]
 have hw2:wi m 1 12=true:=by simpa using hc2
 have h2:¬(f<1900∨f>t∨t>2100∨¬wi m 1 12=true):=by rw [hw2];simp;omega
 rw [if_neg h2] at hR
 refine w_skip<|n_seq<|wr'<|V' (v_fap0 lk1) pt33<|V' (v_loadp lk33 (hga hn rfl) gt3) pt34<|V' (v_fap0 lk1) pt35<|V' (v_loadpA lk35 (hga hn rfl) SrcE_tk4_3 rfl) pt36<|s_callp (mp1 lki (mp1 lk34 (mp1 lk36 mp0))) (ron_a) pt37<|mv' lk37 pt32<|V' (v_ext lk32 gt0) pt38<|V' (v_ext lk32 gt1) pt39<|E' (e_new (hl1 hn) ha1) pt3<|E' (e_store lk3 (cvl lk38 rfl) (hga hn rfl) rfl (nb' rfl) rfl SrcE_sc0_3 (hs1 hn)) ptn<|?_
 refine mv' lk39 pt4<|sn'<|w_seq<|wr'<|mv' lk4 pt40<|V' (v_neq lk40 lki) pt41<|sn'<|?_
 refine cd' lk41 (fun hc3=>?_) (fun hc3=>?_)
 ·rw [if_pos hc3] at hR
  refine wr'<|mv' lk4 pt42<|mv' lk42 pt2<|sn'<|w_rets<|r_thn<|w_ret (rs1 (rr_t gt2))<|rT'<|?_
  rw [hR]
 rw [if_neg hc3] at hR
 refine w_skip<|n_seq<|w_seq<|wr'<|V' (v_fap0 lk1) pt43<|V' (v_loadp lk43 (hga hn rfl) gt7) pt44<|s_callp (mp1 lk44 (mp1 lki (mp1 lki mp0))) (rlbetween_a) pt45<|V' (v_notB lk45) pt46<|sn'<|?_
 refine w_condB lk46 (fun hc4=>?_) (fun hc4=>?_)
 ·rw [if_pos (by simpa using hc4)] at hR
  refine wr'<|mv' lki pt2<|sn'<|w_rets<|r_thn<|w_ret (rs1 (rr_t gt2))<|rT'<|?_
  rw [hR]
 rw [if_neg (by simpa using hc4)] at hR
 refine w_skip<|n_seq<|w_seq<|wr'<|V' (v_fap0 lk1) pt47<|V' (v_loadp lk47 (hga hn rfl) gt8) pt48<|s_callp (mp1 lk48 (mp1 lki (mp1 lki mp0))) (rlbetween_a) pt49<|V' (v_notB lk49) pt50<|sn'<|?_
 refine w_condB lk50 (fun hc5=>?_) (fun hc5=>?_)
 ·rw [if_pos (by simpa using hc5)] at hR
  refine wr'<|mv' lki pt2<|sn'<|w_rets<|r_thn<|w_ret (rs1 (rr_t gt2))<|rT'<|?_
  rw [hR]
 rw [if_neg (by simpa using hc5)] at hR
 refine w_skip<|n_seq<|w_seq<|wr'<|V' (v_fap0 lk1) pt51<|V' (v_loadp lk51 (hga hn rfl) gt9) pt52<|s_callp (mp1 lk52 (mp1 lki (mp1 lki mp0))) (rlbetween_a) pt53<|V' (v_notB lk53) pt54<|sn'<|?_
 refine w_condB lk54 (fun hc6=>?_) (fun hc6=>?_)
 ·rw [if_pos (by simpa using hc6)] at hR
  refine wr'<|mv' lki pt2<|sn'<|w_rets<|r_thn<|w_ret (rs1 (rr_t gt2))<|rT'<|?_
  rw [hR]
 rw [if_neg (by simpa using hc6)] at hR
 refine w_skip<|n_seq<|wr'<|mv' lki pt2<|sn'<|w_rets<|w_ret (rs1 (rr_t gt2))<|rT'<|?_
 rw [hR]
theorem clk_f (c:Int):clkB c false=decide (c=2∨c=3):=by unfold clkB wi;rw [Bool.eq_iff_iff];simp;omega
set_option maxHeartbeats 2000000 in
theorem rcheckEra_b {rl fm:ByteArray}{sh sa y m d a c:Int}{op last:Bool}{h:AH}(hrl:rl.size≤maxLen) (hfm:fm.size≤maxLen):ACalls Tryz.prog 26 [.agg [iv sh,sv rl,iv sa,sv fm,bv op,iv y,iv m,iv d,iv a,iv c],bv last] h fun x h'=>h'=h∧x = .ret (iv (eraE sh rl sa fm op y m d a c last)):=by
 refine tI' k26 fun N hn hlt hlA hbd=>?_
 simp only [tA',AV.bdL,AV.bd,and_true,true_and] at hbd ⊢
 refine wr'<|E' (e_box (cvl lk0 rfl) rfl (hl0 hn) ha0) pt2<|mv' lki pt4<|sn'<|w_seq<|wr'<|V' (v_fap0 lk2) pt5<|V' (v_loadp lk5 (hga hn rfl) gt1) pt6<|V' (v_neqS lk6 lks) pt7<|mv' lk7 pt8<|?_
 refine sp' gt8 pt8 pt8 (fun hg8=>?_) (fun hg8=>?_)
 ·refine s_do gt8<|V' (v_fap0 lk2) pt9<|s_do gt8<|V' (v_loadp lk9 (hga hn rfl) gt1) pt10<|s_do gt8<|s_callp (mp1 lk10 mp0) (risName_a hrl) pt11<|s_do gt8<|V' (v_notB lk11) pt12<|V' (v_pickT lk8 lk12) pt13<|mv' lk13 pt14<|?_
  refine s_splitB gt14 pt14 pt14 (fun hg14=>?_) (fun hg14=>?_)
  ·refine s_no gt14 pt15<|s_no gt14 pt16<|s_no gt14 pt17<|s_no gt14 pt18<|V' (v_pickT lk14 lkb) pt19<|sn'<|w_condT lk19<|wr'<|mv' lki pt4<|sn'<|w_rets<|?_
   refine r_thn<|w_ret (rs1 (rr_t gt4))<|rT'<|?_
   refine ivx ?_;unfold eraE;simp_all
  refine s_do gt14<|V' (v_fap0 lk2) pt15<|s_do gt14<|V' (v_loadp lk15 (hga hn rfl) gt3) pt16<|s_do gt14<|s_callp (mp1 lk16 mp0) (risFormat_a hfm) pt17<|s_do gt14<|V' (v_notB lk17) pt18<|V' (v_pickF lk14 lk18) pt19<|sn'<|?_
  refine w_condB lk19 (fun hc1=>?_) (fun hc1=>?_)
  ·refine wr'<|mv' lki pt4<|sn'<|w_rets<|r_thn<|w_ret (rs1 (rr_t gt4))<|rT'<|?_
   refine ivx ?_;unfold eraE;simp_all
  refine w_skip<|n_seq<|w_seq<|wr'<|V' (v_fap0 lk2) pt20<|V' (v_loadp lk20 (hga hn rfl) gt0) pt21<|s_callp (mp1 lk21 (mp1 lki (mp1 lki mp0))) (rlbetween_a) pt22<|V' (v_notB lk22) pt23<|mv' lk23 pt24<|?_
  refine s_splitB gt24 pt24 pt24 (fun hg24=>?_) (fun hg24=>?_)
  ·refine s_no gt24 pt25<|s_no gt24 pt26<|s_no gt24 pt27<|s_no gt24 pt28<|V' (v_pickT lk24 lkb) pt29<|sn'<|w_condT lk29<|wr'<|mv' lki pt4<|sn'<|w_rets<|?_
   refine r_thn<|w_ret (rs1 (rr_t gt4))<|rT'<|?_
   refine ivx ?_;unfold eraE;simp_all
  refine s_do gt24<|V' (v_fap0 lk2) pt25<|s_do gt24<|V' (v_loadp lk25 (hga hn rfl) gt2) pt26<|s_do gt24<|s_callp (mp1 lk26 (mp1 lki (mp1 lki mp0))) (rlbetween_a) pt27<|s_do gt24<|V' (v_notB lk27) pt28<|V' (v_pickF lk24 lk28) pt29<|sn'<|?_
  refine w_condB lk29 (fun hc2=>?_) (fun hc2=>?_)
  ·refine wr'<|mv' lki pt4<|sn'<|w_rets<|r_thn<|w_ret (rs1 (rr_t gt4))<|rT'<|?_
   refine ivx ?_;unfold eraE;simp_all
  refine w_skip<|n_seq<|w_seq<|wr'<|V' (v_fap0 lk2) pt30<|V' (v_loadp lk30 (hga hn rfl) gt1) pt31<|V' (v_neqS lk31 lks) pt32<|mv' lk32 pt33<|?_
  refine sp' gt33 pt33 pt33 (fun hg33=>?_) (fun hg33=>?_)
  ·refine s_do gt33<|V' (v_fap0 lk2) pt34<|s_do gt33<|V' (v_loadp lk34 (hga hn rfl) gt2) pt35<|s_do gt33<|V' (v_neq lk35 lki) pt36<|V' (v_pickT lk33 lk36) pt37<|sn'<|?_
   refine cd' lk37 (fun hc3=>?_) (fun hc3=>?_)
   ·refine wr'<|mv' lki pt4<|sn'<|w_rets<|r_thn<|w_ret (rs1 (rr_t gt4))<|rT'<|?_
    refine ivx ?_;unfold eraE;simp_all
   refine w_skip<|n_seq<|w_seq<|wr'<|V' (v_fap0 lk2) pt38<|V' (v_loadp lk38 (hga hn rfl) gt4) pt39<|mv' lk1 pt40<|V' (v_eqbN lk39 lk40) pt41<|sn'<|?_
   refine cd' lk41 (fun hc4=>?_) (fun hc4=>?_)
   ·refine wr'<|mv' lki pt4<|sn'<|w_rets<|r_thn<|w_ret (rs1 (rr_t gt4))<|rT'<|?_
    refine ivx ?_;unfold eraE;simp_all
   refine w_skip<|n_seq<|w_seq<|wr'<|V' (v_fap0 lk2) pt42<|V' (v_loadp lk42 (hga hn rfl) gt4) pt43<|sn'<|?_
   refine w_condB lk43 (fun hc5=>?_) (fun hc5=>?_)
   ·refine w_seq<|wr'<|V' (v_fap0 lk2) pt44<|V' (v_loadpA lk44 (hga hn rfl) SrcE_tk5_5 rfl) pt45<|V' (v_build SrcE_checkEra_48) pt46<|s_callp (mp1 lk45 (mp1 lk46 mp0)) (rsameUntil_a (u:=((y,m,d),a,c)) (v:=((0,0,0),0,0))) pt47<|V' (v_notB lk47) pt48<|sn'<|?_
    refine w_condB lk48 (fun hc6=>?_) (fun hc6=>?_)
    ·refine wr'<|mv' lki pt4<|sn'<|w_rets<|r_thn<|r_thn<|w_ret (rs1 (rr_t gt4))<|rT'<|?_
     refine ivx ?_;unfold eraE;simp_all <;> (try intros) <;> omega
    refine w_skip<|n_seq<|wr'<|mv' lki pt4<|sn'<|w_rets<|r_thn<|w_ret (rs1 (rr_t gt4))<|rT'<|?_
    refine ivx ?_;unfold eraE;simp_all
   refine w_skip<|n_seq<|w_seq<|wr'<|V' (v_fap0 lk2) pt49<|V' (v_fap lk49) pt50<|V' (v_loadpA lk50 (hga hn rfl) SrcE_tk5_3 rfl) pt51<|s_callp (mp1 lk51 mp0) (rsIsDate_a) pt52<|V' (v_notB lk52) pt53<|mv' lk53 pt54<|?_
   refine s_splitB gt54 pt54 pt54 (fun hg54=>?_) (fun hg54=>?_)
   ·refine s_no gt54 pt55<|s_no gt54 pt56<|s_no gt54 pt57<|s_no gt54 pt58<|s_no gt54 pt59<|V' (v_pickT lk54 lkb) pt60<|sn'<|w_condT lk60<|wr'<|mv' lki pt4<|sn'<|?_
    refine w_rets<|r_thn<|w_ret (rs1 (rr_t gt4))<|rT'<|?_
    refine ivx ?_;unfold eraE;simp_all
   refine s_do gt54<|V' (v_fap0 lk2) pt55<|s_do gt54<|V' (v_fap lk55) pt56<|s_do gt54<|V' (v_loadp lk56 (hga hn rfl) gt8) pt57<|s_do gt54<|s_callp (mp1 lk57 (mp1 lki (mp1 lki mp0))) (rlbetween_a) pt58<|s_do gt54<|V' (v_notB lk58) pt59<|V' (v_pickF lk54 lk59) pt60<|sn'<|?_
   refine w_condB lk60 (fun hc7=>?_) (fun hc7=>?_)
   ·refine wr'<|mv' lki pt4<|sn'<|w_rets<|r_thn<|w_ret (rs1 (rr_t gt4))<|rT'<|?_
    refine ivx ?_;unfold eraE;simp_all
   refine w_skip<|n_seq<|w_seq<|wr'<|V' (v_fap0 lk2) pt61<|V' (v_fap lk61) pt62<|V' (v_loadp lk62 (hga hn rfl) gt9) pt63<|V' (v_neq lk63 lki) pt64<|mv' lk64 pt65<|?_
   refine sp' gt65 pt65 pt65 (fun hg65=>?_) (fun hg65=>?_)
   ·refine s_do gt65<|V' (v_fap0 lk2) pt66<|s_do gt65<|V' (v_fap lk66) pt67<|s_do gt65<|V' (v_loadp lk67 (hga hn rfl) gt9) pt68<|s_do gt65<|V' (v_neq lk68 lki) pt69<|V' (v_pickT lk65 lk69) (ptS pt0)<|sn'<|?_
    refine cd' (lkS lk0) (fun hc8=>?_) (fun hc8=>?_)
    ·refine wr'<|mv' lki pt4<|sn'<|w_rets<|r_thn<|w_ret (rs1 (rr_t gt4))<|rT'<|?_
     refine ivx ?_;unfold eraE;rw [clk_f];simp_all
    refine w_skip<|n_seq<|wr'<|mv' lki pt4<|sn'<|w_rets<|w_ret (rs1 (rr_t gt4))<|rT'<|?_
    refine ivx ?_;unfold eraE;rw [clk_f];simp_all
   refine s_no gt65 pt66<|s_no gt65 pt67<|s_no gt65 pt68<|s_no gt65 pt69<|V' (v_pickF lk65 lkb) (ptS pt0)<|sn'<|w_condF (lkS lk0)<|w_skip<|n_seq<|wr'<|mv' lki pt4<|s_nil<|?_
   refine n_seq<|w_rets<|w_ret (rs1 (rr_t gt4))<|rT'<|?_
   refine ivx ?_;unfold eraE;rw [clk_f];simp_all
  refine s_no gt33 pt34<|s_no gt33 pt35<|s_no gt33 pt36<|V' (v_pickF lk33 lkb) pt37<|sn'<|w_condF lk37<|w_skip<|n_seq<|w_seq<|wr'<|V' (v_fap0 lk2) pt38<|V' (v_loadp lk38 (hga hn rfl) gt4) pt39<|?_
  refine mv' lk1 pt40<|V' (v_eqbN lk39 lk40) pt41<|sn'<|?_
  refine cd' lk41 (fun hc4=>?_) (fun hc4=>?_)
  ·refine wr'<|mv' lki pt4<|sn'<|w_rets<|r_thn<|w_ret (rs1 (rr_t gt4))<|rT'<|?_
   refine ivx ?_;unfold eraE;simp_all
  refine w_skip<|n_seq<|w_seq<|wr'<|V' (v_fap0 lk2) pt42<|V' (v_loadp lk42 (hga hn rfl) gt4) pt43<|sn'<|?_
  refine w_condB lk43 (fun hc5=>?_) (fun hc5=>?_)
  ·refine w_seq<|wr'<|V' (v_fap0 lk2) pt44<|V' (v_loadpA lk44 (hga hn rfl) SrcE_tk5_5 rfl) pt45<|V' (v_build SrcE_checkEra_48) pt46<|s_callp (mp1 lk45 (mp1 lk46 mp0)) (rsameUntil_a (u:=((y,m,d),a,c)) (v:=((0,0,0),0,0))) pt47<|V' (v_notB lk47) pt48<|sn'<|?_
   refine w_condB lk48 (fun hc6=>?_) (fun hc6=>?_)
   ·refine wr'<|mv' lki pt4<|sn'<|w_rets<|r_thn<|r_thn<|w_ret (rs1 (rr_t gt4))<|rT'<|?_
    refine ivx ?_;unfold eraE;simp_all <;> (try intros) <;> omega
   refine w_skip<|n_seq<|wr'<|mv' lki pt4<|sn'<|w_rets<|r_thn<|w_ret (rs1 (rr_t gt4))<|rT'<|?_
   refine ivx ?_;unfold eraE;simp_all
  refine w_skip<|n_seq<|w_seq<|wr'<|V' (v_fap0 lk2) pt49<|V' (v_fap lk49) pt50<|V' (v_loadpA lk50 (hga hn rfl) SrcE_tk5_3 rfl) pt51<|s_callp (mp1 lk51 mp0) (rsIsDate_a) pt52<|V' (v_notB lk52) pt53<|mv' lk53 pt54<|?_
  refine s_splitB gt54 pt54 pt54 (fun hg54=>?_) (fun hg54=>?_)
  ·refine s_no gt54 pt55<|s_no gt54 pt56<|s_no gt54 pt57<|s_no gt54 pt58<|s_no gt54 pt59<|V' (v_pickT lk54 lkb) pt60<|sn'<|w_condT lk60<|wr'<|mv' lki pt4<|sn'<|?_
   refine w_rets<|r_thn<|w_ret (rs1 (rr_t gt4))<|rT'<|?_
   refine ivx ?_;unfold eraE;simp_all
  refine s_do gt54<|V' (v_fap0 lk2) pt55<|s_do gt54<|V' (v_fap lk55) pt56<|s_do gt54<|V' (v_loadp lk56 (hga hn rfl) gt8) pt57<|s_do gt54<|s_callp (mp1 lk57 (mp1 lki (mp1 lki mp0))) (rlbetween_a) pt58<|s_do gt54<|V' (v_notB lk58) pt59<|V' (v_pickF lk54 lk59) pt60<|sn'<|?_
  refine w_condB lk60 (fun hc7=>?_) (fun hc7=>?_)
  ·refine wr'<|mv' lki pt4<|sn'<|w_rets<|r_thn<|w_ret (rs1 (rr_t gt4))<|rT'<|?_
   refine ivx ?_;unfold eraE;simp_all
  refine w_skip<|n_seq<|w_seq<|wr'<|V' (v_fap0 lk2) pt61<|V' (v_fap lk61) pt62<|V' (v_loadp lk62 (hga hn rfl) gt9) pt63<|V' (v_neq lk63 lki) pt64<|mv' lk64 pt65<|?_
  refine sp' gt65 pt65 pt65 (fun hg65=>?_) (fun hg65=>?_)
  ·refine s_do gt65<|V' (v_fap0 lk2) pt66<|s_do gt65<|V' (v_fap lk66) pt67<|s_do gt65<|V' (v_loadp lk67 (hga hn rfl) gt9) pt68<|s_do gt65<|V' (v_neq lk68 lki) pt69<|V' (v_pickT lk65 lk69) (ptS pt0)<|sn'<|?_
   refine cd' (lkS lk0) (fun hc8=>?_) (fun hc8=>?_)
   ·refine wr'<|mv' lki pt4<|sn'<|w_rets<|r_thn<|w_ret (rs1 (rr_t gt4))<|rT'<|?_
    refine ivx ?_;unfold eraE;rw [clk_f];simp_all
   refine w_skip<|n_seq<|wr'<|mv' lki pt4<|sn'<|w_rets<|w_ret (rs1 (rr_t gt4))<|rT'<|?_
   refine ivx ?_;unfold eraE;rw [clk_f];simp_all
  refine s_no gt65 pt66<|s_no gt65 pt67<|s_no gt65 pt68<|s_no gt65 pt69<|V' (v_pickF lk65 lkb) (ptS pt0)<|sn'<|w_condF (lkS lk0)<|w_skip<|n_seq<|wr'<|mv' lki pt4<|s_nil<|?_
  refine n_seq<|w_rets<|w_ret (rs1 (rr_t gt4))<|rT'<|?_
  refine ivx ?_;unfold eraE;rw [clk_f];simp_all
 refine s_no gt8 pt9<|s_no gt8 pt10<|s_no gt8 pt11<|s_no gt8 pt12<|V' (v_pickF lk8 lkb) pt13<|mv' lk13 pt14<|s_do gt14<|V' (v_fap0 lk2) pt15<|s_do gt14<|V' (v_loadp lk15 (hga hn rfl) gt3) pt16<|s_do gt14<|s_callp (mp1 lk16 mp0) (risFormat_a hfm) pt17<|s_do gt14<|V' (v_notB lk17) pt18<|?_
 refine V' (v_pickF lk14 lk18) pt19<|sn'<|?_
 refine w_condB lk19 (fun hc1=>?_) (fun hc1=>?_)
 ·refine wr'<|mv' lki pt4<|sn'<|w_rets<|r_thn<|w_ret (rs1 (rr_t gt4))<|rT'<|?_
  refine ivx ?_;unfold eraE;simp_all
 refine w_skip<|n_seq<|w_seq<|wr'<|V' (v_fap0 lk2) pt20<|V' (v_loadp lk20 (hga hn rfl) gt0) pt21<|s_callp (mp1 lk21 (mp1 lki (mp1 lki mp0))) (rlbetween_a) pt22<|V' (v_notB lk22) pt23<|mv' lk23 pt24<|?_
 refine s_splitB gt24 pt24 pt24 (fun hg24=>?_) (fun hg24=>?_)
 ·refine s_no gt24 pt25<|s_no gt24 pt26<|s_no gt24 pt27<|s_no gt24 pt28<|V' (v_pickT lk24 lkb) pt29<|sn'<|w_condT lk29<|wr'<|mv' lki pt4<|sn'<|w_rets<|?_
  refine r_thn<|w_ret (rs1 (rr_t gt4))<|rT'<|?_
  refine ivx ?_;unfold eraE;simp_all
 refine s_do gt24<|V' (v_fap0 lk2) pt25<|s_do gt24<|V' (v_loadp lk25 (hga hn rfl) gt2) pt26<|s_do gt24<|s_callp (mp1 lk26 (mp1 lki (mp1 lki mp0))) (rlbetween_a) pt27<|s_do gt24<|V' (v_notB lk27) pt28<|V' (v_pickF lk24 lk28) pt29<|sn'<|?_
 refine w_condB lk29 (fun hc2=>?_) (fun hc2=>?_)
 ·refine wr'<|mv' lki pt4<|sn'<|w_rets<|r_thn<|w_ret (rs1 (rr_t gt4))<|rT'<|?_
  refine ivx ?_;unfold eraE;simp_all
 refine w_skip<|n_seq<|w_seq<|wr'<|V' (v_fap0 lk2) pt30<|V' (v_loadp lk30 (hga hn rfl) gt1) pt31<|V' (v_neqS lk31 lks) pt32<|mv' lk32 pt33<|?_
 refine sp' gt33 pt33 pt33 (fun hg33=>?_) (fun hg33=>?_)
 ·refine s_do gt33<|V' (v_fap0 lk2) pt34<|s_do gt33<|V' (v_loadp lk34 (hga hn rfl) gt2) pt35<|s_do gt33<|V' (v_neq lk35 lki) pt36<|V' (v_pickT lk33 lk36) pt37<|sn'<|?_
  refine cd' lk37 (fun hc3=>?_) (fun hc3=>?_)
  ·refine wr'<|mv' lki pt4<|sn'<|w_rets<|r_thn<|w_ret (rs1 (rr_t gt4))<|rT'<|?_
   refine ivx ?_;unfold eraE;simp_all
  refine w_skip<|n_seq<|w_seq<|wr'<|V' (v_fap0 lk2) pt38<|V' (v_loadp lk38 (hga hn rfl) gt4) pt39<|mv' lk1 pt40<|V' (v_eqbN lk39 lk40) pt41<|sn'<|?_
  refine cd' lk41 (fun hc4=>?_) (fun hc4=>?_)
  ·refine wr'<|mv' lki pt4<|sn'<|w_rets<|r_thn<|w_ret (rs1 (rr_t gt4))<|rT'<|?_
   refine ivx ?_;unfold eraE;simp_all
  refine w_skip<|n_seq<|w_seq<|wr'<|V' (v_fap0 lk2) pt42<|V' (v_loadp lk42 (hga hn rfl) gt4) pt43<|sn'<|?_
  refine w_condB lk43 (fun hc5=>?_) (fun hc5=>?_)
  ·refine w_seq<|wr'<|V' (v_fap0 lk2) pt44<|V' (v_loadpA lk44 (hga hn rfl) SrcE_tk5_5 rfl) pt45<|V' (v_build SrcE_checkEra_48) pt46<|s_callp (mp1 lk45 (mp1 lk46 mp0)) (rsameUntil_a (u:=((y,m,d),a,c)) (v:=((0,0,0),0,0))) pt47<|V' (v_notB lk47) pt48<|sn'<|?_
   refine w_condB lk48 (fun hc6=>?_) (fun hc6=>?_)
   ·refine wr'<|mv' lki pt4<|sn'<|w_rets<|r_thn<|r_thn<|w_ret (rs1 (rr_t gt4))<|rT'<|?_
    refine ivx ?_;unfold eraE;simp_all <;> (try intros) <;> omega
   refine w_skip<|n_seq<|wr'<|mv' lki pt4<|sn'<|w_rets<|r_thn<|w_ret (rs1 (rr_t gt4))<|rT'<|?_
   refine ivx ?_;unfold eraE;simp_all
  refine w_skip<|n_seq<|w_seq<|wr'<|V' (v_fap0 lk2) pt49<|V' (v_fap lk49) pt50<|V' (v_loadpA lk50 (hga hn rfl) SrcE_tk5_3 rfl) pt51<|s_callp (mp1 lk51 mp0) (rsIsDate_a) pt52<|V' (v_notB lk52) pt53<|mv' lk53 pt54<|?_
  refine s_splitB gt54 pt54 pt54 (fun hg54=>?_) (fun hg54=>?_)
  ·refine s_no gt54 pt55<|s_no gt54 pt56<|s_no gt54 pt57<|s_no gt54 pt58<|s_no gt54 pt59<|V' (v_pickT lk54 lkb) pt60<|sn'<|w_condT lk60<|wr'<|mv' lki pt4<|sn'<|?_
   refine w_rets<|r_thn<|w_ret (rs1 (rr_t gt4))<|rT'<|?_
   refine ivx ?_;unfold eraE;simp_all
  refine s_do gt54<|V' (v_fap0 lk2) pt55<|s_do gt54<|V' (v_fap lk55) pt56<|s_do gt54<|V' (v_loadp lk56 (hga hn rfl) gt8) pt57<|s_do gt54<|s_callp (mp1 lk57 (mp1 lki (mp1 lki mp0))) (rlbetween_a) pt58<|s_do gt54<|V' (v_notB lk58) pt59<|V' (v_pickF lk54 lk59) pt60<|sn'<|?_
  refine w_condB lk60 (fun hc7=>?_) (fun hc7=>?_)
  ·refine wr'<|mv' lki pt4<|sn'<|w_rets<|r_thn<|w_ret (rs1 (rr_t gt4))<|rT'<|?_
   refine ivx ?_;unfold eraE;simp_all
  refine w_skip<|n_seq<|w_seq<|wr'<|V' (v_fap0 lk2) pt61<|V' (v_fap lk61) pt62<|V' (v_loadp lk62 (hga hn rfl) gt9) pt63<|V' (v_neq lk63 lki) pt64<|mv' lk64 pt65<|?_
  refine sp' gt65 pt65 pt65 (fun hg65=>?_) (fun hg65=>?_)
  ·refine s_do gt65<|V' (v_fap0 lk2) pt66<|s_do gt65<|V' (v_fap lk66) pt67<|s_do gt65<|V' (v_loadp lk67 (hga hn rfl) gt9) pt68<|s_do gt65<|V' (v_neq lk68 lki) pt69<|V' (v_pickT lk65 lk69) (ptS pt0)<|sn'<|?_
   refine cd' (lkS lk0) (fun hc8=>?_) (fun hc8=>?_)
   ·refine wr'<|mv' lki pt4<|sn'<|w_rets<|r_thn<|w_ret (rs1 (rr_t gt4))<|rT'<|?_
    refine ivx ?_;unfold eraE;rw [clk_f];simp_all
   refine w_skip<|n_seq<|wr'<|mv' lki pt4<|sn'<|w_rets<|w_ret (rs1 (rr_t gt4))<|rT'<|?_
   refine ivx ?_;unfold eraE;rw [clk_f];simp_all
  refine s_no gt65 pt66<|s_no gt65 pt67<|s_no gt65 pt68<|s_no gt65 pt69<|V' (v_pickF lk65 lkb) (ptS pt0)<|sn'<|w_condF (lkS lk0)<|w_skip<|n_seq<|wr'<|mv' lki pt4<|s_nil<|?_
  refine n_seq<|w_rets<|w_ret (rs1 (rr_t gt4))<|rT'<|?_
  refine ivx ?_;unfold eraE;rw [clk_f];simp_all
 refine s_no gt33 pt34<|s_no gt33 pt35<|s_no gt33 pt36<|V' (v_pickF lk33 lkb) pt37<|sn'<|w_condF lk37<|w_skip<|n_seq<|w_seq<|wr'<|V' (v_fap0 lk2) pt38<|V' (v_loadp lk38 (hga hn rfl) gt4) pt39<|?_
 refine mv' lk1 pt40<|V' (v_eqbN lk39 lk40) pt41<|sn'<|?_
 refine cd' lk41 (fun hc4=>?_) (fun hc4=>?_)
 ·refine wr'<|mv' lki pt4<|sn'<|w_rets<|r_thn<|w_ret (rs1 (rr_t gt4))<|rT'<|?_
  refine ivx ?_;unfold eraE;simp_all
 refine w_skip<|n_seq<|w_seq<|wr'<|V' (v_fap0 lk2) pt42<|V' (v_loadp lk42 (hga hn rfl) gt4) pt43<|sn'<|?_
 refine w_condB lk43 (fun hc5=>?_) (fun hc5=>?_)
 ·refine w_seq<|wr'<|V' (v_fap0 lk2) pt44<|V' (v_loadpA lk44 (hga hn rfl) SrcE_tk5_5 rfl) pt45<|V' (v_build SrcE_checkEra_48) pt46<|s_callp (mp1 lk45 (mp1 lk46 mp0)) (rsameUntil_a (u:=((y,m,d),a,c)) (v:=((0,0,0),0,0))) pt47<|V' (v_notB lk47) pt48<|sn'<|?_
  refine w_condB lk48 (fun hc6=>?_) (fun hc6=>?_)
  ·refine wr'<|mv' lki pt4<|sn'<|w_rets<|r_thn<|r_thn<|w_ret (rs1 (rr_t gt4))<|rT'<|?_
   refine ivx ?_;unfold eraE;simp_all <;> (try intros) <;> omega
  refine w_skip<|n_seq<|wr'<|mv' lki pt4<|sn'<|w_rets<|r_thn<|w_ret (rs1 (rr_t gt4))<|rT'<|?_
  refine ivx ?_;unfold eraE;simp_all
 refine w_skip<|n_seq<|w_seq<|wr'<|V' (v_fap0 lk2) pt49<|V' (v_fap lk49) pt50<|V' (v_loadpA lk50 (hga hn rfl) SrcE_tk5_3 rfl) pt51<|s_callp (mp1 lk51 mp0) (rsIsDate_a) pt52<|V' (v_notB lk52) pt53<|mv' lk53 pt54<|?_
 refine s_splitB gt54 pt54 pt54 (fun hg54=>?_) (fun hg54=>?_)
 ·refine s_no gt54 pt55<|s_no gt54 pt56<|s_no gt54 pt57<|s_no gt54 pt58<|s_no gt54 pt59<|V' (v_pickT lk54 lkb) pt60<|sn'<|w_condT lk60<|wr'<|mv' lki pt4<|sn'<|?_
  refine w_rets<|r_thn<|w_ret (rs1 (rr_t gt4))<|rT'<|?_
  refine ivx ?_;unfold eraE;simp_all
 refine s_do gt54<|V' (v_fap0 lk2) pt55<|s_do gt54<|V' (v_fap lk55) pt56<|s_do gt54<|V' (v_loadp lk56 (hga hn rfl) gt8) pt57<|s_do gt54<|s_callp (mp1 lk57 (mp1 lki (mp1 lki mp0))) (rlbetween_a) pt58<|s_do gt54<|V' (v_notB lk58) pt59<|V' (v_pickF lk54 lk59) pt60<|sn'<|?_
 refine w_condB lk60 (fun hc7=>?_) (fun hc7=>?_)
 ·refine wr'<|mv' lki pt4<|sn'<|w_rets<|r_thn<|w_ret (rs1 (rr_t gt4))<|rT'<|?_
  refine ivx ?_;unfold eraE;simp_all
 refine w_skip<|n_seq<|w_seq<|wr'<|V' (v_fap0 lk2) pt61<|V' (v_fap lk61) pt62<|V' (v_loadp lk62 (hga hn rfl) gt9) pt63<|V' (v_neq lk63 lki) pt64<|mv' lk64 pt65<|?_
 refine sp' gt65 pt65 pt65 (fun hg65=>?_) (fun hg65=>?_)
 ·refine s_do gt65<|V' (v_fap0 lk2) pt66<|s_do gt65<|V' (v_fap lk66) pt67<|s_do gt65<|V' (v_loadp lk67 (hga hn rfl) gt9) pt68<|s_do gt65<|V' (v_neq lk68 lki) pt69<|V' (v_pickT lk65 lk69) (ptS pt0)<|sn'<|?_
  refine cd' (lkS lk0) (fun hc8=>?_) (fun hc8=>?_)
  ·refine wr'<|mv' lki pt4<|sn'<|w_rets<|r_thn<|w_ret (rs1 (rr_t gt4))<|rT'<|?_
   refine ivx ?_;unfold eraE;rw [clk_f];simp_all
  refine w_skip<|n_seq<|wr'<|mv' lki pt4<|sn'<|w_rets<|w_ret (rs1 (rr_t gt4))<|rT'<|?_
  refine ivx ?_;unfold eraE;rw [clk_f];simp_all
 refine s_no gt65 pt66<|s_no gt65 pt67<|s_no gt65 pt68<|s_no gt65 pt69<|V' (v_pickF lk65 lkb) (ptS pt0)<|sn'<|w_condF (lkS lk0)<|w_skip<|n_seq<|wr'<|mv' lki pt4<|s_nil<|?_
 refine n_seq<|w_rets<|w_ret (rs1 (rr_t gt4))<|rT'<|?_
 refine ivx ?_;unfold eraE;rw [clk_f];simp_all
theorem rcheckRule_a {r:Rul}{h:AH}(h1:r.1.size≤maxLen) (h2:r.2.2.2.2.2.2.2.2.size≤maxLen):ACalls Tryz.prog 24 [.agg (rulC r)] h fun x h'=>h'=h∧x = .ret (iv (ruleE r)):=rcheckRule_b h1 h2
theorem rcheckEra_a {x:Era}{last:Bool}{h:AH}(ho:okEra x):ACalls Tryz.prog 26 [.agg (eraC x),bv last] h fun y h'=>h'=h∧y = .ret (iv (eraX x last)):=rcheckEra_b ho.1 ho.2
end Go.Proofs.YtgjchdhdopgkkaaGreatDoor
end
