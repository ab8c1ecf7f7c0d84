/- Made from wip. -/
import Derived.Test.YtciohfkjabeooaaGreatDoorProg
import Derived.Test.YtciohfkjabeooaaGreatDoorSpClox
import Derived.Test.YtciohfkjabeooaaGreatDoorBaACode
import Derived.Test.YtciohfkjabeooaaGreatDoorBaAPux

set_option maxRecDepth 100000
namespace Go.Proofs.YtciohfkjabeooaaGreatDoor.BaA
open Go Go.Sp Go.BaA
theorem b3:(match Tryz.f3.body with | some c=>BF c c3 | none=>none)=some c3:=by kernel_rfl
theorem p3:(match Tryz.f3.body with | some c=>AU [0] c | none=>false)=true:=by kernel_rfl
theorem AdI:Ar Tryz.prog [0] 3 ⟨31,c3,[.tmp 2]⟩:=Ar.by Tryz.func3 b3 p3 Tryz.ntmps3 (by rw[Tryz.results3]) (by kernel_rfl)
theorem b4:(match Tryz.f4.body with | some c=>BF c c4 | none=>none)=some c4:=by kernel_rfl
theorem p4:(match Tryz.f4.body with | some c=>AU [0] c | none=>false)=true:=by kernel_rfl
theorem AdJ:Ar Tryz.prog [0] 4 ⟨21,c4,[.tmp 6]⟩:=Ar.by Tryz.func4 b4 p4 Tryz.ntmps4 (by rw[Tryz.results4]) (by kernel_rfl)
theorem b5:(match Tryz.f5.body with | some c=>BF c c5 | none=>none)=some c5:=by kernel_rfl
theorem p5:(match Tryz.f5.body with | some c=>AU [0] c | none=>false)=true:=by kernel_rfl
theorem AdK:Ar Tryz.prog [0] 5 ⟨209,c5,[.tmp 0]⟩:=Ar.by Tryz.func5 b5 p5 Tryz.ntmps5 (by rw[Tryz.results5]) (by kernel_rfl)
theorem b6:(match Tryz.f6.body with | some c=>BF c c6 | none=>none)=some c6:=by kernel_rfl
theorem p6:(match Tryz.f6.body with | some c=>AU [0] c | none=>false)=true:=by kernel_rfl
theorem AdL:Ar Tryz.prog [0] 6 ⟨44,c6,[.tmp 2,.tmp 3]⟩:=Ar.by Tryz.func6 b6 p6 Tryz.ntmps6 (by rw[Tryz.results6]) (by kernel_rfl)
theorem b7:(match Tryz.f7.body with | some c=>BF c c7 | none=>none)=some c7:=by kernel_rfl
theorem p7:(match Tryz.f7.body with | some c=>AU [0] c | none=>false)=true:=by kernel_rfl
theorem AdM:Ar Tryz.prog [0] 7 ⟨72,c7,[.tmp 2,.tmp 3]⟩:=Ar.by Tryz.func7 b7 p7 Tryz.ntmps7 (by rw[Tryz.results7]) (by kernel_rfl)
theorem b8:(match Tryz.f8.body with | some c=>BF c c8 | none=>none)=some c8:=by kernel_rfl
theorem p8:(match Tryz.f8.body with | some c=>AU [0] c | none=>false)=true:=by kernel_rfl
theorem AdN:Ar Tryz.prog [0] 8 ⟨27,c8,[.tmp 4]⟩:=Ar.by Tryz.func8 b8 p8 Tryz.ntmps8 (by rw[Tryz.results8]) (by kernel_rfl)
theorem b9:(match Tryz.f9.body with | some c=>BF c c9 | none=>none)=some c9:=by kernel_rfl
theorem p9:(match Tryz.f9.body with | some c=>AU [0] c | none=>false)=true:=by kernel_rfl
theorem Ahw:Ar Tryz.prog [0] 9 ⟨20,c9,[.tmp 4,.tmp 5]⟩:=Ar.by Tryz.func9 b9 p9 Tryz.ntmps9 (by rw[Tryz.results9]) (by kernel_rfl)
theorem b10:(match Tryz.f10.body with | some c=>BF c c10 | none=>none)=some c10:=by kernel_rfl
theorem p10:(match Tryz.f10.body with | some c=>AU [0] c | none=>false)=true:=by kernel_rfl
theorem AdO:Ar Tryz.prog [0] 10 ⟨39,c10,[.tmp 2,.tmp 3]⟩:=Ar.by Tryz.func10 b10 p10 Tryz.ntmps10 (by rw[Tryz.results10]) (by kernel_rfl)
theorem b11:(match Tryz.f11.body with | some c=>BF c c11 | none=>none)=some c11:=by kernel_rfl
theorem p11:(match Tryz.f11.body with | some c=>AU [0] c | none=>false)=true:=by kernel_rfl
theorem AdP:Ar Tryz.prog [0] 11 ⟨4,c11,[.cell 0 24]⟩:=Ar.by Tryz.func11 b11 p11 Tryz.ntmps11 (by rw[Tryz.results11]) (by kernel_rfl)
theorem b12:(match Tryz.f12.body with | some c=>BF c c12 | none=>none)=some c12:=by kernel_rfl
theorem p12:(match Tryz.f12.body with | some c=>AU [0] c | none=>false)=true:=by kernel_rfl
theorem AdQ:Ar Tryz.prog [0] 12 ⟨93,c12,[.tmp 4,.tmp 5]⟩:=Ar.by Tryz.func12 b12 p12 Tryz.ntmps12 (by rw[Tryz.results12]) (by kernel_rfl)
theorem b13:(match Tryz.f13.body with | some c=>BF c c13 | none=>none)=some c13:=by kernel_rfl
theorem p13:(match Tryz.f13.body with | some c=>AU [0] c | none=>false)=true:=by kernel_rfl
theorem AdR:Ar Tryz.prog [0] 13 ⟨4,c13,[.tmp 2]⟩:=Ar.by Tryz.func13 b13 p13 Tryz.ntmps13 (by rw[Tryz.results13]) (by kernel_rfl)
theorem b14:(match Tryz.f14.body with | some c=>BF c c14 | none=>none)=some c14:=by kernel_rfl
theorem p14:(match Tryz.f14.body with | some c=>AU [0] c | none=>false)=true:=by kernel_rfl
theorem AdS:Ar Tryz.prog [0] 14 ⟨29,c14,[.tmp 4,.tmp 5]⟩:=Ar.by Tryz.func14 b14 p14 Tryz.ntmps14 (by rw[Tryz.results14]) (by kernel_rfl)
theorem b15:(match Tryz.f15.body with | some c=>BF c c15 | none=>none)=some c15:=by kernel_rfl
theorem p15:(match Tryz.f15.body with | some c=>AU [0] c | none=>false)=true:=by kernel_rfl
theorem AdT:Ar Tryz.prog [0] 15 ⟨4,c15,[.cell 0 24]⟩:=Ar.by Tryz.func15 b15 p15 Tryz.ntmps15 (by rw[Tryz.results15]) (by kernel_rfl)
theorem b16:(match Tryz.f16.body with | some c=>BF c c16 | none=>none)=some c16:=by kernel_rfl
theorem p16:(match Tryz.f16.body with | some c=>AU [0] c | none=>false)=true:=by kernel_rfl
theorem AdU:Ar Tryz.prog [0] 16 ⟨34,c16,[.tmp 6,.tmp 7]⟩:=Ar.by Tryz.func16 b16 p16 Tryz.ntmps16 (by rw[Tryz.results16]) (by kernel_rfl)
theorem b17:(match Tryz.f17.body with | some c=>BF c c17 | none=>none)=some c17:=by kernel_rfl
theorem p17:(match Tryz.f17.body with | some c=>AU [0] c | none=>false)=true:=by kernel_rfl
theorem AdV:Ar Tryz.prog [0] 17 ⟨21,c17,[.tmp 4,.tmp 5]⟩:=Ar.by Tryz.func17 b17 p17 Tryz.ntmps17 (by rw[Tryz.results17]) (by kernel_rfl)
theorem b18:(match Tryz.f18.body with | some c=>BF c c18 | none=>none)=some c18:=by kernel_rfl
theorem p18:(match Tryz.f18.body with | some c=>AU [0] c | none=>false)=true:=by kernel_rfl
theorem AdW:Ar Tryz.prog [0] 18 ⟨23,c18,[.tmp 4,.tmp 5]⟩:=Ar.by Tryz.func18 b18 p18 Tryz.ntmps18 (by rw[Tryz.results18]) (by kernel_rfl)
theorem b19:(match Tryz.f19.body with | some c=>BF c c19 | none=>none)=some c19:=by kernel_rfl
theorem p19:(match Tryz.f19.body with | some c=>AU [0] c | none=>false)=true:=by kernel_rfl
theorem AdX:Ar Tryz.prog [0] 19 ⟨43,c19,[.tmp 4,.tmp 5]⟩:=Ar.by Tryz.func19 b19 p19 Tryz.ntmps19 (by rw[Tryz.results19]) (by kernel_rfl)
theorem b20:(match Tryz.f20.body with | some c=>BF c c20 | none=>none)=some c20:=by kernel_rfl
theorem p20:(match Tryz.f20.body with | some c=>AU [0] c | none=>false)=true:=by kernel_rfl
theorem AdY:Ar Tryz.prog [0] 20 ⟨42,c20,[.tmp 6,.tmp 7]⟩:=Ar.by Tryz.func20 b20 p20 Tryz.ntmps20 (by rw[Tryz.results20]) (by kernel_rfl)
theorem b21:(match Tryz.f21.body with | some c=>BF c c21 | none=>none)=some c21:=by kernel_rfl
theorem p21:(match Tryz.f21.body with | some c=>AU [0] c | none=>false)=true:=by kernel_rfl
theorem AdZ:Ar Tryz.prog [0] 21 ⟨25,c21,[.tmp 4,.tmp 5]⟩:=Ar.by Tryz.func21 b21 p21 Tryz.ntmps21 (by rw[Tryz.results21]) (by kernel_rfl)
theorem b22:(match Tryz.f22.body with | some c=>BF c c22 | none=>none)=some c22:=by kernel_rfl
theorem p22:(match Tryz.f22.body with | some c=>AU [0] c | none=>false)=true:=by kernel_rfl
theorem mE:Ar Tryz.prog [0] 22 ⟨26,c22,[.tmp 4]⟩:=Ar.by Tryz.func22 b22 p22 Tryz.ntmps22 (by rw[Tryz.results22]) (by kernel_rfl)
theorem b23:(match Tryz.f23.body with | some c=>BF c c23 | none=>none)=some c23:=by kernel_rfl
theorem p23:(match Tryz.f23.body with | some c=>AU [0] c | none=>false)=true:=by kernel_rfl
theorem Ad0:Ar Tryz.prog [0] 23 ⟨4,c23,[.tmp 2]⟩:=Ar.by Tryz.func23 b23 p23 Tryz.ntmps23 (by rw[Tryz.results23]) (by kernel_rfl)
theorem b24:(match Tryz.f24.body with | some c=>BF c c24 | none=>none)=some c24:=by kernel_rfl
theorem p24:(match Tryz.f24.body with | some c=>AU [0] c | none=>false)=true:=by kernel_rfl
theorem Ad1:Ar Tryz.prog [0] 24 ⟨70,c24,[.tmp 6]⟩:=Ar.by Tryz.func24 b24 p24 Tryz.ntmps24 (by rw[Tryz.results24]) (by kernel_rfl)
theorem b25:(match Tryz.f25.body with | some c=>BF c c25 | none=>none)=some c25:=by kernel_rfl
theorem p25:(match Tryz.f25.body with | some c=>AU [0] c | none=>false)=true:=by kernel_rfl
theorem mK:Ar Tryz.prog [0] 25 ⟨110,c25,[.tmp 2,.tmp 3]⟩:=Ar.by Tryz.func25 b25 p25 Tryz.ntmps25 (by rw[Tryz.results25]) (by kernel_rfl)
theorem b26:(match Tryz.f26.body with | some c=>BF c c26 | none=>none)=some c26:=by kernel_rfl
theorem p26:(match Tryz.f26.body with | some c=>AU [0] c | none=>false)=true:=by kernel_rfl
theorem mM:Ar Tryz.prog [0] 26 ⟨58,c26,[]⟩:=Ar.by Tryz.func26 b26 p26 Tryz.ntmps26 (by rw[Tryz.results26]) (by kernel_rfl)
theorem b27:(match Tryz.f27.body with | some c=>BF c c27 | none=>none)=some c27:=by kernel_rfl
theorem p27:(match Tryz.f27.body with | some c=>AU [0] c | none=>false)=true:=by kernel_rfl
theorem mO:Ar Tryz.prog [0] 27 ⟨36,c27,[.tmp 4]⟩:=Ar.by Tryz.func27 b27 p27 Tryz.ntmps27 (by rw[Tryz.results27]) (by kernel_rfl)
end Go.Proofs.YtciohfkjabeooaaGreatDoor.BaA
set_option maxRecDepth 100000
namespace Go.Proofs.YtciohfkjabeooaaGreatDoor.BaA
open Go Go.Sp Go.BaA
theorem b28:(match Tryz.f28.body with | some c=>BF c c28 | none=>none)=some c28:=by kernel_rfl
theorem p28:(match Tryz.f28.body with | some c=>AU [0] c | none=>false)=true:=by kernel_rfl
theorem mP:Ar Tryz.prog [0] 28 ⟨35,c28,[.tmp 6]⟩:=Ar.by Tryz.func28 b28 p28 Tryz.ntmps28 (by rw[Tryz.results28]) (by kernel_rfl)
theorem iG:(match Tryz.f29.body with | some c=>BF c c29 | none=>none)=some c29:=by kernel_rfl
theorem p29:(match Tryz.f29.body with | some c=>AU [0] c | none=>false)=true:=by kernel_rfl
theorem mQ:Ar Tryz.prog [0] 29 ⟨8,c29,[.tmp 2]⟩:=Ar.by Tryz.func29 iG p29 Tryz.ntmps29 (by rw[Tryz.results29]) (by kernel_rfl)
theorem b30:(match Tryz.f30.body with | some c=>BF c c30 | none=>none)=some c30:=by kernel_rfl
theorem p30:(match Tryz.f30.body with | some c=>AU [0] c | none=>false)=true:=by kernel_rfl
theorem nD:Ar Tryz.prog [0] 30 ⟨106,c30,[.tmp 2]⟩:=Ar.by Tryz.func30 b30 p30 Tryz.ntmps30 (by rw[Tryz.results30]) (by kernel_rfl)
theorem b31:(match Tryz.f31.body with | some c=>BF c c31 | none=>none)=some c31:=by kernel_rfl
theorem p31:(match Tryz.f31.body with | some c=>AU [0] c | none=>false)=true:=by kernel_rfl
theorem nG:Ar Tryz.prog [0] 31 ⟨16,c31,[.tmp 4]⟩:=Ar.by Tryz.func31 b31 p31 Tryz.ntmps31 (by rw[Tryz.results31]) (by kernel_rfl)
theorem b32:(match Tryz.f32.body with | some c=>BF c c32 | none=>none)=some c32:=by kernel_rfl
theorem p32:(match Tryz.f32.body with | some c=>AU [0] c | none=>false)=true:=by kernel_rfl
theorem nH:Ar Tryz.prog [0] 32 ⟨21,c32,[.tmp 4]⟩:=Ar.by Tryz.func32 b32 p32 Tryz.ntmps32 (by rw[Tryz.results32]) (by kernel_rfl)
theorem b33:(match Tryz.f33.body with | some c=>BF c c33 | none=>none)=some c33:=by kernel_rfl
theorem p33:(match Tryz.f33.body with | some c=>AU [0] c | none=>false)=true:=by kernel_rfl
theorem nI:Ar Tryz.prog [0] 33 ⟨36,c33,[.tmp 4]⟩:=Ar.by Tryz.func33 b33 p33 Tryz.ntmps33 (by rw[Tryz.results33]) (by kernel_rfl)
theorem b34:(match Tryz.f34.body with | some c=>BF c c34 | none=>none)=some c34:=by kernel_rfl
theorem p34:(match Tryz.f34.body with | some c=>AU [0] c | none=>false)=true:=by kernel_rfl
theorem nJ:Ar Tryz.prog [0] 34 ⟨15,c34,[.tmp 6]⟩:=Ar.by Tryz.func34 b34 p34 Tryz.ntmps34 (by rw[Tryz.results34]) (by kernel_rfl)
theorem b35:(match Tryz.f35.body with | some c=>BF c c35 | none=>none)=some c35:=by kernel_rfl
theorem p35:(match Tryz.f35.body with | some c=>AU [0] c | none=>false)=true:=by kernel_rfl
theorem nK:Ar Tryz.prog [0] 35 ⟨18,c35,[.cell 2 64]⟩:=Ar.by Tryz.func35 b35 p35 Tryz.ntmps35 (by rw[Tryz.results35]) (by kernel_rfl)
theorem b36:(match Tryz.f36.body with | some c=>BF c c36 | none=>none)=some c36:=by kernel_rfl
theorem p36:(match Tryz.f36.body with | some c=>AU [0] c | none=>false)=true:=by kernel_rfl
theorem nL:Ar Tryz.prog [0] 36 ⟨22,c36,[.cell 4 64]⟩:=Ar.by Tryz.func36 b36 p36 Tryz.ntmps36 (by rw[Tryz.results36]) (by kernel_rfl)
theorem b37:(match Tryz.f37.body with | some c=>BF c c37 | none=>none)=some c37:=by kernel_rfl
theorem p37:(match Tryz.f37.body with | some c=>AU [0] c | none=>false)=true:=by kernel_rfl
theorem nM:Ar Tryz.prog [0] 37 ⟨22,c37,[.tmp 2]⟩:=Ar.by Tryz.func37 b37 p37 Tryz.ntmps37 (by rw[Tryz.results37]) (by kernel_rfl)
theorem b38:(match Tryz.f38.body with | some c=>BF c c38 | none=>none)=some c38:=by kernel_rfl
theorem p38:(match Tryz.f38.body with | some c=>AU [0] c | none=>false)=true:=by kernel_rfl
theorem Ad2:Ar Tryz.prog [0] 38 ⟨27,c38,[.tmp 4]⟩:=Ar.by Tryz.func38 b38 p38 Tryz.ntmps38 (by rw[Tryz.results38]) (by kernel_rfl)
theorem b39:(match Tryz.f39.body with | some c=>BF c c39 | none=>none)=some c39:=by kernel_rfl
theorem p39:(match Tryz.f39.body with | some c=>AU [0] c | none=>false)=true:=by kernel_rfl
theorem Ad3:Ar Tryz.prog [0] 39 ⟨15,c39,[.tmp 4]⟩:=Ar.by Tryz.func39 b39 p39 Tryz.ntmps39 (by rw[Tryz.results39]) (by kernel_rfl)
theorem b40:(match Tryz.f40.body with | some c=>BF c c40 | none=>none)=some c40:=by kernel_rfl
theorem p40:(match Tryz.f40.body with | some c=>AU [0] c | none=>false)=true:=by kernel_rfl
theorem Ad4:Ar Tryz.prog [0] 40 ⟨50,c40,[.cell 4 70]⟩:=Ar.by Tryz.func40 b40 p40 Tryz.ntmps40 (by rw[Tryz.results40]) (by kernel_rfl)
theorem b41:(match Tryz.f41.body with | some c=>BF c c41 | none=>none)=some c41:=by kernel_rfl
theorem p41:(match Tryz.f41.body with | some c=>AU [0] c | none=>false)=true:=by kernel_rfl
theorem Ad5:Ar Tryz.prog [0] 41 ⟨19,c41,[.tmp 4]⟩:=Ar.by Tryz.func41 b41 p41 Tryz.ntmps41 (by rw[Tryz.results41]) (by kernel_rfl)
theorem b42:(match Tryz.f42.body with | some c=>BF c c42 | none=>none)=some c42:=by kernel_rfl
theorem p42:(match Tryz.f42.body with | some c=>AU [0] c | none=>false)=true:=by kernel_rfl
theorem Ad6:Ar Tryz.prog [0] 42 ⟨33,c42,[.tmp 4,.tmp 5]⟩:=Ar.by Tryz.func42 b42 p42 Tryz.ntmps42 (by rw[Tryz.results42]) (by kernel_rfl)
theorem b43:(match Tryz.f43.body with | some c=>BF c c43 | none=>none)=some c43:=by kernel_rfl
theorem p43:(match Tryz.f43.body with | some c=>AU [0] c | none=>false)=true:=by kernel_rfl
theorem Ad7:Ar Tryz.prog [0] 43 ⟨28,c43,[.tmp 4]⟩:=Ar.by Tryz.func43 b43 p43 Tryz.ntmps43 (by rw[Tryz.results43]) (by kernel_rfl)
theorem b44:(match Tryz.f44.body with | some c=>BF c c44 | none=>none)=some c44:=by kernel_rfl
theorem p44:(match Tryz.f44.body with | some c=>AU [0] c | none=>false)=true:=by kernel_rfl
theorem Ad8:Ar Tryz.prog [0] 44 ⟨38,c44,[.tmp 6]⟩:=Ar.by Tryz.func44 b44 p44 Tryz.ntmps44 (by rw[Tryz.results44]) (by kernel_rfl)
theorem b45:(match Tryz.f45.body with | some c=>BF c c45 | none=>none)=some c45:=by kernel_rfl
theorem p45:(match Tryz.f45.body with | some c=>AU [0] c | none=>false)=true:=by kernel_rfl
theorem Ad9:Ar Tryz.prog [0] 45 ⟨26,c45,[.tmp 4]⟩:=Ar.by Tryz.func45 b45 p45 Tryz.ntmps45 (by rw[Tryz.results45]) (by kernel_rfl)
theorem b46:(match Tryz.f46.body with | some c=>BF c c46 | none=>none)=some c46:=by kernel_rfl
theorem p46:(match Tryz.f46.body with | some c=>AU [0] c | none=>false)=true:=by kernel_rfl
theorem Aea:Ar Tryz.prog [0] 46 ⟨88,c46,[]⟩:=Ar.by Tryz.func46 b46 p46 Tryz.ntmps46 (by rw[Tryz.results46]) (by kernel_rfl)
theorem b47:(match Tryz.f47.body with | some c=>BF c c47 | none=>none)=some c47:=by kernel_rfl
theorem p47:(match Tryz.f47.body with | some c=>AU [0] c | none=>false)=true:=by kernel_rfl
theorem Aeb:Ar Tryz.prog [0] 47 ⟨9,c47,[.tmp 4]⟩:=Ar.by Tryz.func47 b47 p47 Tryz.ntmps47 (by rw[Tryz.results47]) (by kernel_rfl)
theorem b48:(match Tryz.f48.body with | some c=>BF c c48 | none=>none)=some c48:=by kernel_rfl
theorem p48:(match Tryz.f48.body with | some c=>AU [0] c | none=>false)=true:=by kernel_rfl
theorem Aec:Ar Tryz.prog [0] 48 ⟨9,c48,[.tmp 3]⟩:=Ar.by Tryz.func48 b48 p48 Tryz.ntmps48 (by rw[Tryz.results48]) (by kernel_rfl)
theorem b49:(match Tryz.f49.body with | some c=>BF c c49 | none=>none)=some c49:=by kernel_rfl
theorem p49:(match Tryz.f49.body with | some c=>AU [0] c | none=>false)=true:=by kernel_rfl
theorem Aed:Ar Tryz.prog [0] 49 ⟨9,c49,[.tmp 2]⟩:=Ar.by Tryz.func49 b49 p49 Tryz.ntmps49 (by rw[Tryz.results49]) (by kernel_rfl)
theorem b50:(match Tryz.f50.body with | some c=>BF c c50 | none=>none)=some c50:=by kernel_rfl
theorem p50:(match Tryz.f50.body with | some c=>AU [0] c | none=>false)=true:=by kernel_rfl
theorem Aee:Ar Tryz.prog [0] 50 ⟨4,c50,[.tmp 2]⟩:=Ar.by Tryz.func50 b50 p50 Tryz.ntmps50 (by rw[Tryz.results50]) (by kernel_rfl)
theorem b51:(match Tryz.f51.body with | some c=>BF c c51 | none=>none)=some c51:=by kernel_rfl
theorem p51:(match Tryz.f51.body with | some c=>AU [0] c | none=>false)=true:=by kernel_rfl
theorem Aef:Ar Tryz.prog [0] 51 ⟨9,c51,[.tmp 2]⟩:=Ar.by Tryz.func51 b51 p51 Tryz.ntmps51 (by rw[Tryz.results51]) (by kernel_rfl)
theorem b52:(match Tryz.f52.body with | some c=>BF c c52 | none=>none)=some c52:=by kernel_rfl
theorem p52:(match Tryz.f52.body with | some c=>AU [0] c | none=>false)=true:=by kernel_rfl
theorem Aeg:Ar Tryz.prog [0] 52 ⟨15,c52,[.tmp 2]⟩:=Ar.by Tryz.func52 b52 p52 Tryz.ntmps52 (by rw[Tryz.results52]) (by kernel_rfl)
end Go.Proofs.YtciohfkjabeooaaGreatDoor.BaA
set_option maxRecDepth 100000
namespace Go.Proofs.YtciohfkjabeooaaGreatDoor.BaA
open Go Go.Sp Go.BaA
theorem b53:(match Tryz.f53.body with | some c=>BF c c53 | none=>none)=some c53:=by kernel_rfl
theorem p53:(match Tryz.f53.body with | some c=>AU [0] c | none=>false)=true:=by kernel_rfl
theorem nN:Ar Tryz.prog [0] 53 ⟨47,c53,[.tmp 4]⟩:=Ar.by Tryz.func53 b53 p53 Tryz.ntmps53 (by rw[Tryz.results53]) (by kernel_rfl)
theorem b54:(match Tryz.f54.body with | some c=>BF c c54 | none=>none)=some c54:=by kernel_rfl
theorem p54:(match Tryz.f54.body with | some c=>AU [0] c | none=>false)=true:=by kernel_rfl
theorem nO:Ar Tryz.prog [0] 54 ⟨20,c54,[.tmp 4]⟩:=Ar.by Tryz.func54 b54 p54 Tryz.ntmps54 (by rw[Tryz.results54]) (by kernel_rfl)
theorem b55:(match Tryz.f55.body with | some c=>BF c c55 | none=>none)=some c55:=by kernel_rfl
theorem p55:(match Tryz.f55.body with | some c=>AU [0] c | none=>false)=true:=by kernel_rfl
theorem nP:Ar Tryz.prog [0] 55 ⟨15,c55,[.tmp 6]⟩:=Ar.by Tryz.func55 b55 p55 Tryz.ntmps55 (by rw[Tryz.results55]) (by kernel_rfl)
theorem b56:(match Tryz.f56.body with | some c=>BF c c56 | none=>none)=some c56:=by kernel_rfl
theorem p56:(match Tryz.f56.body with | some c=>AU [0] c | none=>false)=true:=by kernel_rfl
theorem nQ:Ar Tryz.prog [0] 56 ⟨18,c56,[.tmp 4]⟩:=Ar.by Tryz.func56 b56 p56 Tryz.ntmps56 (by rw[Tryz.results56]) (by kernel_rfl)
theorem b57:(match Tryz.f57.body with | some c=>BF c c57 | none=>none)=some c57:=by kernel_rfl
theorem p57:(match Tryz.f57.body with | some c=>AU [0] c | none=>false)=true:=by kernel_rfl
theorem nR:Ar Tryz.prog [0] 57 ⟨37,c57,[.tmp 4,.tmp 5]⟩:=Ar.by Tryz.func57 b57 p57 Tryz.ntmps57 (by rw[Tryz.results57]) (by kernel_rfl)
theorem b58:(match Tryz.f58.body with | some c=>BF c c58 | none=>none)=some c58:=by kernel_rfl
theorem p58:(match Tryz.f58.body with | some c=>AU [0] c | none=>false)=true:=by kernel_rfl
theorem nS:Ar Tryz.prog [0] 58 ⟨30,c58,[.tmp 4]⟩:=Ar.by Tryz.func58 b58 p58 Tryz.ntmps58 (by rw[Tryz.results58]) (by kernel_rfl)
theorem b59:(match Tryz.f59.body with | some c=>BF c c59 | none=>none)=some c59:=by kernel_rfl
theorem p59:(match Tryz.f59.body with | some c=>AU [0] c | none=>false)=true:=by kernel_rfl
theorem nT:Ar Tryz.prog [0] 59 ⟨26,c59,[.tmp 6]⟩:=Ar.by Tryz.func59 b59 p59 Tryz.ntmps59 (by rw[Tryz.results59]) (by kernel_rfl)
theorem b60:(match Tryz.f60.body with | some c=>BF c c60 | none=>none)=some c60:=by kernel_rfl
theorem p60:(match Tryz.f60.body with | some c=>AU [0] c | none=>false)=true:=by kernel_rfl
theorem Aeh:Ar Tryz.prog [0] 60 ⟨70,c60,[.tmp 9]⟩:=Ar.by Tryz.func60 b60 p60 Tryz.ntmps60 (by rw[Tryz.results60]) (by kernel_rfl)
theorem b61:(match Tryz.f61.body with | some c=>BF c c61 | none=>none)=some c61:=by kernel_rfl
theorem p61:(match Tryz.f61.body with | some c=>AU [0] c | none=>false)=true:=by kernel_rfl
theorem Aei:Ar Tryz.prog [0] 61 ⟨34,c61,[.tmp 4]⟩:=Ar.by Tryz.func61 b61 p61 Tryz.ntmps61 (by rw[Tryz.results61]) (by kernel_rfl)
theorem b62:(match Tryz.f62.body with | some c=>BF c c62 | none=>none)=some c62:=by kernel_rfl
theorem p62:(match Tryz.f62.body with | some c=>AU [0] c | none=>false)=true:=by kernel_rfl
theorem Aej:Ar Tryz.prog [0] 62 ⟨14,c62,[]⟩:=Ar.by Tryz.func62 b62 p62 Tryz.ntmps62 (by rw[Tryz.results62]) (by kernel_rfl)
theorem b63:(match Tryz.f63.body with | some c=>BF c c63 | none=>none)=some c63:=by kernel_rfl
theorem p63:(match Tryz.f63.body with | some c=>AU [0] c | none=>false)=true:=by kernel_rfl
theorem Aek:Ar Tryz.prog [0] 63 ⟨66,c63,[.tmp 4]⟩:=Ar.by Tryz.func63 b63 p63 Tryz.ntmps63 (by rw[Tryz.results63]) (by kernel_rfl)
theorem b64:(match Tryz.f64.body with | some c=>BF c c64 | none=>none)=some c64:=by kernel_rfl
theorem p64:(match Tryz.f64.body with | some c=>AU [0] c | none=>false)=true:=by kernel_rfl
theorem Ael:Ar Tryz.prog [0] 64 ⟨19,c64,[.tmp 4]⟩:=Ar.by Tryz.func64 b64 p64 Tryz.ntmps64 (by rw[Tryz.results64]) (by kernel_rfl)
theorem b65:(match Tryz.f65.body with | some c=>BF c c65 | none=>none)=some c65:=by kernel_rfl
theorem p65:(match Tryz.f65.body with | some c=>AU [0] c | none=>false)=true:=by kernel_rfl
theorem Aem:Ar Tryz.prog [0] 65 ⟨5,c65,[.tmp 2]⟩:=Ar.by Tryz.func65 b65 p65 Tryz.ntmps65 (by rw[Tryz.results65]) (by kernel_rfl)
theorem b66:(match Tryz.f66.body with | some c=>BF c c66 | none=>none)=some c66:=by kernel_rfl
theorem p66:(match Tryz.f66.body with | some c=>AU [0] c | none=>false)=true:=by kernel_rfl
theorem Aen:Ar Tryz.prog [0] 66 ⟨11,c66,[]⟩:=Ar.by Tryz.func66 b66 p66 Tryz.ntmps66 (by rw[Tryz.results66]) (by kernel_rfl)
theorem b67:(match Tryz.f67.body with | some c=>BF c c67 | none=>none)=some c67:=by kernel_rfl
theorem p67:(match Tryz.f67.body with | some c=>AU [0] c | none=>false)=true:=by kernel_rfl
theorem Aeo:Ar Tryz.prog [0] 67 ⟨16,c67,[]⟩:=Ar.by Tryz.func67 b67 p67 Tryz.ntmps67 (by rw[Tryz.results67]) (by kernel_rfl)
theorem b68:(match Tryz.f68.body with | some c=>BF c c68 | none=>none)=some c68:=by kernel_rfl
theorem p68:(match Tryz.f68.body with | some c=>AU [0] c | none=>false)=true:=by kernel_rfl
theorem Aep:Ar Tryz.prog [0] 68 ⟨28,c68,[]⟩:=Ar.by Tryz.func68 b68 p68 Tryz.ntmps68 (by rw[Tryz.results68]) (by kernel_rfl)
theorem b69:(match Tryz.f69.body with | some c=>BF c c69 | none=>none)=some c69:=by kernel_rfl
theorem p69:(match Tryz.f69.body with | some c=>AU [0] c | none=>false)=true:=by kernel_rfl
theorem Aeq:Ar Tryz.prog [0] 69 ⟨34,c69,[.tmp 4]⟩:=Ar.by Tryz.func69 b69 p69 Tryz.ntmps69 (by rw[Tryz.results69]) (by kernel_rfl)
theorem jK:(match Tryz.f71.body with | some c=>BF c c71 | none=>none)=some c71:=by kernel_rfl
theorem p71:(match Tryz.f71.body with | some c=>AU [0] c | none=>false)=true:=by kernel_rfl
theorem nU:Ar Tryz.prog [0] 71 ⟨6,c71,[.tmp 2]⟩:=Ar.by Tryz.func71 jK p71 Tryz.ntmps71 (by rw[Tryz.results71]) (by kernel_rfl)
theorem b72:(match Tryz.f72.body with | some c=>BF c c72 | none=>none)=some c72:=by kernel_rfl
theorem p72:(match Tryz.f72.body with | some c=>AU [0] c | none=>false)=true:=by kernel_rfl
theorem nV:Ar Tryz.prog [0] 72 ⟨32,c72,[.tmp 6]⟩:=Ar.by Tryz.func72 b72 p72 Tryz.ntmps72 (by rw[Tryz.results72]) (by kernel_rfl)
theorem b73:(match Tryz.f73.body with | some c=>BF c c73 | none=>none)=some c73:=by kernel_rfl
theorem p73:(match Tryz.f73.body with | some c=>AU [0] c | none=>false)=true:=by kernel_rfl
theorem Aer:Ar Tryz.prog [0] 73 ⟨25,c73,[.tmp 2]⟩:=Ar.by Tryz.func73 b73 p73 Tryz.ntmps73 (by rw[Tryz.results73]) (by kernel_rfl)
theorem b74:(match Tryz.f74.body with | some c=>BF c c74 | none=>none)=some c74:=by kernel_rfl
theorem p74:(match Tryz.f74.body with | some c=>AU [0] c | none=>false)=true:=by kernel_rfl
theorem Aes:Ar Tryz.prog [0] 74 ⟨25,c74,[.tmp 2]⟩:=Ar.by Tryz.func74 b74 p74 Tryz.ntmps74 (by rw[Tryz.results74]) (by kernel_rfl)
theorem b75:(match Tryz.f75.body with | some c=>BF c c75 | none=>none)=some c75:=by kernel_rfl
theorem p75:(match Tryz.f75.body with | some c=>AU [0] c | none=>false)=true:=by kernel_rfl
theorem Aet:Ar Tryz.prog [0] 75 ⟨148,c75,[]⟩:=Ar.by Tryz.func75 b75 p75 Tryz.ntmps75 (by rw[Tryz.results75]) (by kernel_rfl)
theorem b76:(match Tryz.f76.body with | some c=>BF c c76 | none=>none)=some c76:=by kernel_rfl
theorem p76:(match Tryz.f76.body with | some c=>AU [0] c | none=>false)=true:=by kernel_rfl
theorem Aeu:Ar Tryz.prog [0] 76 ⟨8,c76,[.tmp 2]⟩:=Ar.by Tryz.func76 b76 p76 Tryz.ntmps76 (by rw[Tryz.results76]) (by kernel_rfl)
theorem b78:(match Tryz.f78.body with | some c=>BF c c78 | none=>none)=some c78:=by kernel_rfl
theorem p78:(match Tryz.f78.body with | some c=>AU [0] c | none=>false)=true:=by kernel_rfl
theorem Aev:Ar Tryz.prog [0] 78 ⟨134,c78,[]⟩:=Ar.by Tryz.func78 b78 p78 Tryz.ntmps78 (by rw[Tryz.results78]) (by kernel_rfl)
theorem zJ:(match Tryz.f80.body with | some c=>BF c c80 | none=>none)=some c80:=by kernel_rfl
theorem p80:(match Tryz.f80.body with | some c=>AU [0] c | none=>false)=true:=by kernel_rfl
theorem nW:Ar Tryz.prog [0] 80 ⟨67,c80,[.tmp 10,.tmp 11]⟩:=Ar.by Tryz.func80 zJ p80 Tryz.ntmps80 (by rw[Tryz.results80]) (by kernel_rfl)
end Go.Proofs.YtciohfkjabeooaaGreatDoor.BaA
set_option maxRecDepth 100000
namespace Go.Proofs.YtciohfkjabeooaaGreatDoor.BaA
open Go Go.Sp Go.BaA
theorem b81:(match Tryz.f81.body with | some c=>BF c c81 | none=>none)=some c81:=by kernel_rfl
theorem p81:(match Tryz.f81.body with | some c=>AU [0] c | none=>false)=true:=by kernel_rfl
theorem Aew:Ar Tryz.prog [0] 81 ⟨53,c81,[]⟩:=Ar.by Tryz.func81 b81 p81 Tryz.ntmps81 (by rw[Tryz.results81]) (by kernel_rfl)
theorem b82:(match Tryz.f82.body with | some c=>BF c c82 | none=>none)=some c82:=by kernel_rfl
theorem p82:(match Tryz.f82.body with | some c=>AU [0] c | none=>false)=true:=by kernel_rfl
theorem Aey:Ar Tryz.prog [0] 82 ⟨60,c82,[]⟩:=Ar.by Tryz.func82 b82 p82 Tryz.ntmps82 (by rw[Tryz.results82]) (by kernel_rfl)
theorem b83:(match Tryz.f83.body with | some c=>BF c c83 | none=>none)=some c83:=by kernel_rfl
theorem p83:(match Tryz.f83.body with | some c=>AU [0] c | none=>false)=true:=by kernel_rfl
theorem Aez:Ar Tryz.prog [0] 83 ⟨67,c83,[]⟩:=Ar.by Tryz.func83 b83 p83 Tryz.ntmps83 (by rw[Tryz.results83]) (by kernel_rfl)
theorem b84:(match Tryz.f84.body with | some c=>BF c c84 | none=>none)=some c84:=by kernel_rfl
theorem p84:(match Tryz.f84.body with | some c=>AU [0] c | none=>false)=true:=by kernel_rfl
theorem AeA:Ar Tryz.prog [0] 84 ⟨63,c84,[.tmp 8,.tmp 9]⟩:=Ar.by Tryz.func84 b84 p84 Tryz.ntmps84 (by rw[Tryz.results84]) (by kernel_rfl)
theorem b85:(match Tryz.f85.body with | some c=>BF c c85 | none=>none)=some c85:=by kernel_rfl
theorem p85:(match Tryz.f85.body with | some c=>AU [0] c | none=>false)=true:=by kernel_rfl
theorem AeB:Ar Tryz.prog [0] 85 ⟨34,c85,[]⟩:=Ar.by Tryz.func85 b85 p85 Tryz.ntmps85 (by rw[Tryz.results85]) (by kernel_rfl)
theorem b86:(match Tryz.f86.body with | some c=>BF c c86 | none=>none)=some c86:=by kernel_rfl
theorem p86:(match Tryz.f86.body with | some c=>AU [0] c | none=>false)=true:=by kernel_rfl
theorem AeC:Ar Tryz.prog [0] 86 ⟨141,c86,[.tmp 8]⟩:=Ar.by Tryz.func86 b86 p86 Tryz.ntmps86 (by rw[Tryz.results86]) (by kernel_rfl)
theorem b87:(match Tryz.f87.body with | some c=>BF c c87 | none=>none)=some c87:=by kernel_rfl
theorem p87:(match Tryz.f87.body with | some c=>AU [0] c | none=>false)=true:=by kernel_rfl
theorem AeD:Ar Tryz.prog [0] 87 ⟨90,c87,[.tmp 10]⟩:=Ar.by Tryz.func87 b87 p87 Tryz.ntmps87 (by rw[Tryz.results87]) (by kernel_rfl)
theorem b88:(match Tryz.f88.body with | some c=>BF c c88 | none=>none)=some c88:=by kernel_rfl
theorem p88:(match Tryz.f88.body with | some c=>AU [0] c | none=>false)=true:=by kernel_rfl
theorem AeE:Ar Tryz.prog [0] 88 ⟨178,c88,[.tmp 10,.tmp 11]⟩:=Ar.by Tryz.func88 b88 p88 Tryz.ntmps88 (by rw[Tryz.results88]) (by kernel_rfl)
theorem b89:(match Tryz.f89.body with | some c=>BF c c89 | none=>none)=some c89:=by kernel_rfl
theorem p89:(match Tryz.f89.body with | some c=>AU [0] c | none=>false)=true:=by kernel_rfl
theorem AeF:Ar Tryz.prog [0] 89 ⟨19,c89,[.tmp 2]⟩:=Ar.by Tryz.func89 b89 p89 Tryz.ntmps89 (by rw[Tryz.results89]) (by kernel_rfl)
theorem b90:(match Tryz.f90.body with | some c=>BF c c90 | none=>none)=some c90:=by kernel_rfl
theorem p90:(match Tryz.f90.body with | some c=>AU [0] c | none=>false)=true:=by kernel_rfl
theorem AeG:Ar Tryz.prog [0] 90 ⟨25,c90,[.tmp 2]⟩:=Ar.by Tryz.func90 b90 p90 Tryz.ntmps90 (by rw[Tryz.results90]) (by kernel_rfl)
theorem b91:(match Tryz.f91.body with | some c=>BF c c91 | none=>none)=some c91:=by kernel_rfl
theorem p91:(match Tryz.f91.body with | some c=>AU [0] c | none=>false)=true:=by kernel_rfl
theorem AeH:Ar Tryz.prog [0] 91 ⟨49,c91,[]⟩:=Ar.by Tryz.func91 b91 p91 Tryz.ntmps91 (by rw[Tryz.results91]) (by kernel_rfl)
theorem b92:(match Tryz.f92.body with | some c=>BF c c92 | none=>none)=some c92:=by kernel_rfl
theorem p92:(match Tryz.f92.body with | some c=>AU [0] c | none=>false)=true:=by kernel_rfl
theorem AeI:Ar Tryz.prog [0] 92 ⟨56,c92,[]⟩:=Ar.by Tryz.func92 b92 p92 Tryz.ntmps92 (by rw[Tryz.results92]) (by kernel_rfl)
theorem b93:(match Tryz.f93.body with | some c=>BF c c93 | none=>none)=some c93:=by kernel_rfl
theorem p93:(match Tryz.f93.body with | some c=>AU [0] c | none=>false)=true:=by kernel_rfl
theorem AeJ:Ar Tryz.prog [0] 93 ⟨65,c93,[]⟩:=Ar.by Tryz.func93 b93 p93 Tryz.ntmps93 (by rw[Tryz.results93]) (by kernel_rfl)
theorem b94:(match Tryz.f94.body with | some c=>BF c c94 | none=>none)=some c94:=by kernel_rfl
theorem p94:(match Tryz.f94.body with | some c=>AU [0] c | none=>false)=true:=by kernel_rfl
theorem AeK:Ar Tryz.prog [0] 94 ⟨57,c94,[.tmp 6,.tmp 7]⟩:=Ar.by Tryz.func94 b94 p94 Tryz.ntmps94 (by rw[Tryz.results94]) (by kernel_rfl)
theorem b95:(match Tryz.f95.body with | some c=>BF c c95 | none=>none)=some c95:=by kernel_rfl
theorem p95:(match Tryz.f95.body with | some c=>AU [0] c | none=>false)=true:=by kernel_rfl
theorem AeL:Ar Tryz.prog [0] 95 ⟨32,c95,[]⟩:=Ar.by Tryz.func95 b95 p95 Tryz.ntmps95 (by rw[Tryz.results95]) (by kernel_rfl)
theorem b96:(match Tryz.f96.body with | some c=>BF c c96 | none=>none)=some c96:=by kernel_rfl
theorem p96:(match Tryz.f96.body with | some c=>AU [0] c | none=>false)=true:=by kernel_rfl
theorem AeM:Ar Tryz.prog [0] 96 ⟨133,c96,[.tmp 6]⟩:=Ar.by Tryz.func96 b96 p96 Tryz.ntmps96 (by rw[Tryz.results96]) (by kernel_rfl)
theorem b97:(match Tryz.f97.body with | some c=>BF c c97 | none=>none)=some c97:=by kernel_rfl
theorem p97:(match Tryz.f97.body with | some c=>AU [0] c | none=>false)=true:=by kernel_rfl
theorem AeN:Ar Tryz.prog [0] 97 ⟨17,c97,[.tmp 4]⟩:=Ar.by Tryz.func97 b97 p97 Tryz.ntmps97 (by rw[Tryz.results97]) (by kernel_rfl)
theorem b98:(match Tryz.f98.body with | some c=>BF c c98 | none=>none)=some c98:=by kernel_rfl
theorem p98:(match Tryz.f98.body with | some c=>AU [0] c | none=>false)=true:=by kernel_rfl
theorem AeO:Ar Tryz.prog [0] 98 ⟨84,c98,[.tmp 8]⟩:=Ar.by Tryz.func98 b98 p98 Tryz.ntmps98 (by rw[Tryz.results98]) (by kernel_rfl)
theorem b99:(match Tryz.f99.body with | some c=>BF c c99 | none=>none)=some c99:=by kernel_rfl
theorem p99:(match Tryz.f99.body with | some c=>AU [0] c | none=>false)=true:=by kernel_rfl
theorem AeP:Ar Tryz.prog [0] 99 ⟨168,c99,[.tmp 8,.tmp 9]⟩:=Ar.by Tryz.func99 b99 p99 Tryz.ntmps99 (by rw[Tryz.results99]) (by kernel_rfl)
theorem AhB:(match Tryz.f101.body with | some c=>BF c iH | none=>none)=some iH:=by kernel_rfl
theorem xI:(match Tryz.f101.body with | some c=>AU [0] c | none=>false)=true:=by kernel_rfl
theorem xJ:Ar Tryz.prog [0] 101 ⟨82,iH,[]⟩:=Ar.by Tryz.func101 AhB xI Tryz.ntmps101 (by rw[Tryz.results101]) (by kernel_rfl)
theorem AhC:(match Tryz.f102.body with | some c=>BF c iI | none=>none)=some iI:=by kernel_rfl
theorem AhD:(match Tryz.f102.body with | some c=>AU [0] c | none=>false)=true:=by kernel_rfl
theorem xK:Ar Tryz.prog [0] 102 ⟨7,iI,[.tmp 2]⟩:=Ar.by Tryz.func102 AhC AhD Tryz.ntmps102 (by rw[Tryz.results102]) (by kernel_rfl)
theorem AhE:(match Tryz.f103.body with | some c=>BF c iJ | none=>none)=some iJ:=by kernel_rfl
theorem AhF:(match Tryz.f103.body with | some c=>AU [0] c | none=>false)=true:=by kernel_rfl
theorem xL:Ar Tryz.prog [0] 103 ⟨33,iJ,[.tmp 2]⟩:=Ar.by Tryz.func103 AhE AhF Tryz.ntmps103 (by rw[Tryz.results103]) (by kernel_rfl)
theorem AhG:(match Tryz.f104.body with | some c=>BF c iK | none=>none)=some iK:=by kernel_rfl
theorem AhH:(match Tryz.f104.body with | some c=>AU [0] c | none=>false)=true:=by kernel_rfl
theorem xM:Ar Tryz.prog [0] 104 ⟨18,iK,[.tmp 8]⟩:=Ar.by Tryz.func104 AhG AhH Tryz.ntmps104 (by rw[Tryz.results104]) (by kernel_rfl)
theorem AhI:(match Tryz.f105.body with | some c=>BF c iL | none=>none)=some iL:=by kernel_rfl
theorem AhJ:(match Tryz.f105.body with | some c=>AU [0] c | none=>false)=true:=by kernel_rfl
theorem xN:Ar Tryz.prog [0] 105 ⟨41,iL,[.tmp 12]⟩:=Ar.by Tryz.func105 AhI AhJ Tryz.ntmps105 (by rw[Tryz.results105]) (by kernel_rfl)
theorem AhK:(match Tryz.f106.body with | some c=>BF c iM | none=>none)=some iM:=by kernel_rfl
theorem AhL:(match Tryz.f106.body with | some c=>AU [0] c | none=>false)=true:=by kernel_rfl
theorem xO:Ar Tryz.prog [0] 106 ⟨76,iM,[]⟩:=Ar.by Tryz.func106 AhK AhL Tryz.ntmps106 (by rw[Tryz.results106]) (by kernel_rfl)
end Go.Proofs.YtciohfkjabeooaaGreatDoor.BaA
set_option maxRecDepth 100000
namespace Go.Proofs.YtciohfkjabeooaaGreatDoor.BaA
open Go Go.Sp Go.BaA
theorem AhM:(match Tryz.f107.body with | some c=>BF c iN | none=>none)=some iN:=by kernel_rfl
theorem AhN:(match Tryz.f107.body with | some c=>AU [0] c | none=>false)=true:=by kernel_rfl
theorem xP:Ar Tryz.prog [0] 107 ⟨15,iN,[.tmp 6]⟩:=Ar.by Tryz.func107 AhM AhN Tryz.ntmps107 (by rw[Tryz.results107]) (by kernel_rfl)
theorem AhO:(match Tryz.f108.body with | some c=>BF c iO | none=>none)=some iO:=by kernel_rfl
theorem AhP:(match Tryz.f108.body with | some c=>AU [0] c | none=>false)=true:=by kernel_rfl
theorem xQ:Ar Tryz.prog [0] 108 ⟨36,iO,[.tmp 10]⟩:=Ar.by Tryz.func108 AhO AhP Tryz.ntmps108 (by rw[Tryz.results108]) (by kernel_rfl)
theorem AhQ:(match Tryz.f109.body with | some c=>BF c iR | none=>none)=some iR:=by kernel_rfl
theorem AhR:(match Tryz.f109.body with | some c=>AU [0] c | none=>false)=true:=by kernel_rfl
theorem xR:Ar Tryz.prog [0] 109 ⟨32,iR,[.tmp 10,.tmp 11]⟩:=Ar.by Tryz.func109 AhQ AhR Tryz.ntmps109 (by rw[Tryz.results109]) (by kernel_rfl)
theorem AhS:(match Tryz.f110.body with | some c=>BF c iT | none=>none)=some iT:=by kernel_rfl
theorem AhT:(match Tryz.f110.body with | some c=>AU [0] c | none=>false)=true:=by kernel_rfl
theorem xS:Ar Tryz.prog [0] 110 ⟨28,iT,[.tmp 8,.tmp 9]⟩:=Ar.by Tryz.func110 AhS AhT Tryz.ntmps110 (by rw[Tryz.results110]) (by kernel_rfl)
end Go.Proofs.YtciohfkjabeooaaGreatDoor.BaA
set_option maxRecDepth 100000
namespace Go.Proofs.YtciohfkjabeooaaGreatDoor.BaA
open Go Go.Sp Go.BaA
theorem AhU:Cu Tryz.prog 3 ti3:=Cu.by Tryz.underlying3 (inf:=Tryz.t3) (by kernel_rfl) (by kernel_rfl) (by kernel_rfl) (by kernel_rfl) (by kernel_rfl) (fun h=>by cases h)
theorem AhV:Cu Tryz.prog 4 ti4:=Cu.by Tryz.underlying4 (inf:=Tryz.t4) (by kernel_rfl) (by kernel_rfl) (by kernel_rfl) (by kernel_rfl) (by kernel_rfl) (fun h=>by cases h)
theorem AhW:Cu Tryz.prog 5 ti5:=Cu.by Tryz.underlying5 (inf:=Tryz.t5) (by kernel_rfl) (by kernel_rfl) (by kernel_rfl) (by kernel_rfl) (by kernel_rfl) (fun h=>by cases h)
theorem AhX:Cu Tryz.prog 9 ti9:=Cu.by Tryz.underlying9 (inf:=Tryz.t9) (by kernel_rfl) (by kernel_rfl) (by kernel_rfl) (by kernel_rfl) (by kernel_rfl) (fun h=>by cases h)
theorem AeQ:Cu Tryz.prog 22 Acz:=Cu.by Tryz.underlying22 (inf:=Tryz.t22) (by kernel_rfl) (by kernel_rfl) (by kernel_rfl) (by kernel_rfl) (by kernel_rfl) (fun h=>by cases h)
theorem AeR:Cu Tryz.prog 24 AcA:=Cu.by Tryz.underlying24 (inf:=Tryz.t24) (by kernel_rfl) (by kernel_rfl) (by kernel_rfl) (by kernel_rfl) (by kernel_rfl) (fun h=>by cases h)
theorem AeS:Cu Tryz.prog 27 AcB:=Cu.by Tryz.underlying27 (inf:=Tryz.t27) (by kernel_rfl) (by kernel_rfl) (by kernel_rfl) (by kernel_rfl) (by kernel_rfl) (fun h=>by cases h)
theorem AeT:Cu Tryz.prog 28 AcC:=Cu.by Tryz.underlying28 (inf:=Tryz.t28) (by kernel_rfl) (by kernel_rfl) (by kernel_rfl) (by kernel_rfl) (by kernel_rfl) (fun h=>by cases h)
theorem AeU:Cu Tryz.prog 32 AcD:=Cu.by Tryz.underlying32 (inf:=Tryz.t32) (by kernel_rfl) (by kernel_rfl) (by kernel_rfl) (by kernel_rfl) (by kernel_rfl) (fun h=>by cases h)
theorem AeV:Cu Tryz.prog 47 AcE:=Cu.by Tryz.underlying47 (inf:=Tryz.t47) (by kernel_rfl) (by kernel_rfl) (by kernel_rfl) (by kernel_rfl) (by kernel_rfl) (fun h=>by cases h)
theorem AeW:Cu Tryz.prog 50 AcF:=Cu.by Tryz.underlying50 (inf:=Tryz.t50) (by kernel_rfl) (by kernel_rfl) (by kernel_rfl) (by kernel_rfl) (by kernel_rfl) (fun h=>by cases h)
theorem AeX:Cu Tryz.prog 54 AcG:=Cu.by Tryz.underlying54 (inf:=Tryz.t54) (by kernel_rfl) (by kernel_rfl) (by kernel_rfl) (by kernel_rfl) (by kernel_rfl) (fun h=>by cases h)
theorem AeY:Cu Tryz.prog 55 AcH:=Cu.by Tryz.underlying55 (inf:=Tryz.t55) (by kernel_rfl) (by kernel_rfl) (by kernel_rfl) (by kernel_rfl) (by kernel_rfl) (fun h=>by cases h)
theorem AeZ:Cu Tryz.prog 56 AcI:=Cu.by Tryz.underlying56 (inf:=Tryz.t56) (by kernel_rfl) (by kernel_rfl) (by kernel_rfl) (by kernel_rfl) (by kernel_rfl) (fun h=>by cases h)
theorem Ae0:Cu Tryz.prog 64 AcJ:=Cu.by Tryz.underlying64 (inf:=Tryz.t64) (by kernel_rfl) (by kernel_rfl) (by kernel_rfl) (by kernel_rfl) (by kernel_rfl) (fun _=>⟨_,rfl,Fl.ok (d:=8) (⟨by kernel_rfl,.inr (.inr (.inr (.inr ⟨_,Tryz.underlying64,by kernel_rfl,⟨by decide,rfl,[(.int .i64 0)],[(.bool false)],rfl,⟨by kernel_rfl,.inl ⟨⟨_,Tryz.underlying3⟩,_,_,rfl⟩⟩,⟨by decide,rfl,[(.bool false)],[],rfl,⟨by kernel_rfl,.inr (.inl ⟨Tryz.underlying4,_,rfl⟩)⟩,rfl⟩⟩⟩)))⟩) (by decide) ⟨_,Tryz.underlying64,rfl⟩ (by kernel_rfl)⟩)
theorem Ae1:Cu Tryz.prog 70 AcK:=Cu.by Tryz.underlying70 (inf:=Tryz.t70) (by kernel_rfl) (by kernel_rfl) (by kernel_rfl) (by kernel_rfl) (by kernel_rfl) (fun _=>⟨_,rfl,Fl.ok (d:=8) (⟨by kernel_rfl,.inr (.inr (.inr (.inl ⟨17,3,[(.int .i64 0)],Tryz.underlying70,⟨by kernel_rfl,.inl ⟨⟨_,Tryz.underlying3⟩,_,_,rfl⟩⟩,by kernel_rfl⟩)))⟩) (by decide) ⟨_,Tryz.underlying70,rfl⟩ (by kernel_rfl)⟩)
theorem Ae2:Cu Tryz.prog 75 AcL:=Cu.by Tryz.underlying75 (inf:=Tryz.t75) (by kernel_rfl) (by kernel_rfl) (by kernel_rfl) (by kernel_rfl) (by kernel_rfl) (fun h=>by cases h)
theorem Ae3:Cu Tryz.prog 77 AcM:=Cu.by Tryz.underlying77 (inf:=Tryz.t77) (by kernel_rfl) (by kernel_rfl) (by kernel_rfl) (by kernel_rfl) (by kernel_rfl) (fun h=>by cases h)
theorem Ae4:Cu Tryz.prog 79 AcN:=Cu.by Tryz.underlying79 (inf:=Tryz.t79) (by kernel_rfl) (by kernel_rfl) (by kernel_rfl) (by kernel_rfl) (by kernel_rfl) (fun h=>by cases h)
theorem Ae5:Cu Tryz.prog 82 AcO:=Cu.by Tryz.underlying82 (inf:=Tryz.t82) (by kernel_rfl) (by kernel_rfl) (by kernel_rfl) (by kernel_rfl) (by kernel_rfl) (fun h=>by cases h)
theorem Ae6:Cu Tryz.prog 88 AcP:=Cu.by Tryz.underlying88 (inf:=Tryz.t88) (by kernel_rfl) (by kernel_rfl) (by kernel_rfl) (by kernel_rfl) (by kernel_rfl) (fun h=>by cases h)
theorem Ae7:Cu Tryz.prog 93 AcQ:=Cu.by Tryz.underlying93 (inf:=Tryz.t93) (by kernel_rfl) (by kernel_rfl) (by kernel_rfl) (by kernel_rfl) (by kernel_rfl) (fun _=>⟨_,rfl,Fl.ok (d:=8) (⟨by kernel_rfl,.inr (.inr (.inr (.inl ⟨32,5,[(.int .u8 0)],Tryz.underlying93,⟨by kernel_rfl,.inl ⟨⟨_,Tryz.underlying5⟩,_,_,rfl⟩⟩,by kernel_rfl⟩)))⟩) (by decide) ⟨_,Tryz.underlying93,rfl⟩ (by kernel_rfl)⟩)
theorem Ae8:Cu Tryz.prog 94 AcR:=Cu.by Tryz.underlying94 (inf:=Tryz.t94) (by kernel_rfl) (by kernel_rfl) (by kernel_rfl) (by kernel_rfl) (by kernel_rfl) (fun h=>by cases h)
theorem Ae9:Cu Tryz.prog 95 AcS:=Cu.by Tryz.underlying95 (inf:=Tryz.t95) (by kernel_rfl) (by kernel_rfl) (by kernel_rfl) (by kernel_rfl) (by kernel_rfl) (fun h=>by cases h)
theorem xU:Cu Tryz.prog 108 lX:=Cu.by Tryz.underlying108 (inf:=Tryz.t108) (by kernel_rfl) (by kernel_rfl) (by kernel_rfl) (by kernel_rfl) (by kernel_rfl) (fun h=>by cases h)
theorem xV:Cu Tryz.prog 117 lY:=Cu.by Tryz.underlying117 (inf:=Tryz.t117) (by kernel_rfl) (by kernel_rfl) (by kernel_rfl) (by kernel_rfl) (by kernel_rfl) (fun h=>by cases h)
theorem xW:Cu Tryz.prog 125 lZ:=Cu.by Tryz.underlying125 (inf:=Tryz.t125) (by kernel_rfl) (by kernel_rfl) (by kernel_rfl) (by kernel_rfl) (by kernel_rfl) (fun h=>by cases h)
theorem xX:Cu Tryz.prog 129 mD:=Cu.by Tryz.underlying129 (inf:=Tryz.t129) (by kernel_rfl) (by kernel_rfl) (by kernel_rfl) (by kernel_rfl) (by kernel_rfl) (fun h=>by cases h)
theorem Gm:Jm Tryz.prog tt:=Jm.of_all (t:=AcT) ⟨trivial,⟨trivial,⟨AhU,⟨trivial,⟨trivial,⟨trivial,trivial,⟨Ae9,trivial,trivial⟩⟩,⟨AeV,⟨Ae4,trivial,trivial⟩,trivial⟩⟩,⟨trivial,trivial,⟨AeY,trivial,trivial⟩⟩⟩,⟨trivial,trivial,⟨AeS,⟨trivial,⟨Ae2,trivial,trivial⟩,trivial⟩,trivial⟩⟩⟩,⟨AhW,⟨AhX,⟨trivial,⟨trivial,⟨trivial,⟨xX,trivial,trivial⟩,trivial⟩,trivial⟩,trivial⟩,trivial⟩,⟨trivial,⟨trivial,trivial,⟨trivial,trivial,⟨xV,trivial,trivial⟩⟩⟩,⟨trivial,⟨trivial,⟨Ae3,trivial,trivial⟩,trivial⟩,⟨trivial,⟨Ae7,trivial,trivial⟩,⟨xW,trivial,trivial⟩⟩⟩⟩⟩⟩,⟨trivial,⟨AhV,⟨trivial,⟨trivial,⟨AeU,⟨Ae0,trivial,trivial⟩,trivial⟩,trivial⟩,⟨AeR,trivial,⟨AeZ,⟨Ae6,trivial,trivial⟩,trivial⟩⟩⟩,⟨trivial,trivial,⟨AeT,⟨trivial,trivial,⟨xU,trivial,trivial⟩⟩,trivial⟩⟩⟩,⟨trivial,⟨trivial,⟨trivial,trivial,⟨AeW,⟨Ae5,trivial,trivial⟩,trivial⟩⟩,trivial⟩,⟨trivial,⟨AeQ,⟨trivial,⟨Ae1,trivial,trivial⟩,trivial⟩,⟨AeX,trivial,trivial⟩⟩,⟨trivial,trivial,⟨trivial,⟨Ae8,trivial,trivial⟩,trivial⟩⟩⟩⟩⟩⟩
theorem Afa:AcU.All (Ar Tryz.prog [0]):=⟨trivial,⟨trivial,⟨AdI,⟨AdM,⟨AdT,⟨nG,⟨Aek,trivial,trivial⟩,⟨AeL,trivial,trivial⟩⟩,⟨Aeb,trivial,trivial⟩⟩,⟨Ad0,⟨Ad3,⟨nU,trivial,trivial⟩,⟨xL,trivial,trivial⟩⟩,⟨nP,⟨AeD,trivial,trivial⟩,trivial⟩⟩⟩,⟨AdP,⟨AdX,⟨nK,⟨Aeo,trivial,trivial⟩,⟨AeP,trivial,trivial⟩⟩,⟨Aef,⟨Aez,trivial,trivial⟩,trivial⟩⟩,⟨mO,⟨Ad7,⟨Aet,trivial,trivial⟩,⟨xP,trivial,trivial⟩⟩,⟨nT,⟨AeH,trivial,trivial⟩,trivial⟩⟩⟩⟩,⟨AdK,⟨Ahw,⟨AdV,⟨nI,⟨Aem,trivial,trivial⟩,⟨AeN,trivial,trivial⟩⟩,⟨Aed,⟨Aew,trivial,trivial⟩,trivial⟩⟩,⟨mK,⟨Ad5,⟨Aer,trivial,trivial⟩,⟨xN,trivial,trivial⟩⟩,⟨nR,⟨AeF,trivial,trivial⟩,trivial⟩⟩⟩,⟨AdR,⟨AdZ,⟨nM,⟨Aeq,trivial,trivial⟩,⟨xJ,trivial,trivial⟩⟩,⟨nN,⟨AeB,trivial,trivial⟩,trivial⟩⟩,⟨mQ,⟨Ad9,trivial,⟨xR,trivial,trivial⟩⟩,⟨Aei,⟨AeJ,trivial,trivial⟩,trivial⟩⟩⟩⟩⟩,⟨trivial,⟨AdJ,⟨AdN,⟨AdU,⟨nH,⟨Ael,trivial,trivial⟩,⟨AeM,trivial,trivial⟩⟩,⟨Aec,⟨nW,trivial,trivial⟩,trivial⟩⟩,⟨Ad1,⟨Ad4,⟨nV,trivial,trivial⟩,⟨xM,trivial,trivial⟩⟩,⟨nQ,⟨AeE,trivial,trivial⟩,trivial⟩⟩⟩,⟨AdQ,⟨AdY,⟨nL,⟨Aep,trivial,trivial⟩,trivial⟩,⟨Aeg,⟨AeA,trivial,trivial⟩,trivial⟩⟩,⟨mP,⟨Ad8,⟨Aeu,trivial,trivial⟩,⟨xQ,trivial,trivial⟩⟩,⟨Aeh,⟨AeI,trivial,trivial⟩,trivial⟩⟩⟩⟩,⟨AdL,⟨AdO,⟨AdW,⟨nJ,⟨Aen,trivial,trivial⟩,⟨AeO,trivial,trivial⟩⟩,⟨Aee,⟨Aey,trivial,trivial⟩,trivial⟩⟩,⟨mM,⟨Ad6,⟨Aes,trivial,trivial⟩,⟨xO,trivial,trivial⟩⟩,⟨nS,⟨AeG,trivial,trivial⟩,trivial⟩⟩⟩,⟨AdS,⟨mE,⟨Ad2,trivial,⟨xK,trivial,trivial⟩⟩,⟨nO,⟨AeC,trivial,trivial⟩,trivial⟩⟩,⟨nD,⟨Aea,⟨Aev,trivial,trivial⟩,⟨xS,trivial,trivial⟩⟩,⟨Aej,⟨AeK,trivial,trivial⟩,trivial⟩⟩⟩⟩⟩⟩
theorem UQ (f:FuncId) (r:Xq) (h:K7 f=some r):Ar Tryz.prog [0] f r:=Afa.get h
end Go.Proofs.YtciohfkjabeooaaGreatDoor.BaA
set_option maxRecDepth 100000
namespace Go.Proofs.YtciohfkjabeooaaGreatDoor.BaA
open Go Go.Sp Go.BaAM Go.BaA
noncomputable section
theorem fk3:Ar Tryz.prog (List.range tabs.length) 3 ⟨31,WO,[.tmp 2]⟩:=by
 have h:c3=WO:=by kernel_rfl
 rw[←h];exact AdI
theorem fk6:Ar Tryz.prog (List.range tabs.length) 6 ⟨44,WP,[.tmp 2,.tmp 3]⟩:=by
 have h:c6=WP:=by kernel_rfl
 rw[←h];exact AdL
theorem fk7:Ar Tryz.prog (List.range tabs.length) 7 ⟨72,WQ,[.tmp 2,.tmp 3]⟩:=by
 have h:c7=WQ:=by kernel_rfl
 rw[←h];exact AdM
theorem fk8:Ar Tryz.prog (List.range tabs.length) 8 ⟨27,WR,[.tmp 4]⟩:=by
 have h:c8=WR:=by kernel_rfl
 rw[←h];exact AdN
theorem Afb:Ar Tryz.prog (List.range tabs.length) 22 ⟨26,Sc,[.tmp 4]⟩:=by
 have h:c22=Sc:=by kernel_rfl
 rw[←h];exact mE
theorem Afc:Ar Tryz.prog (List.range tabs.length) 25 ⟨110,Sd,[.tmp 2,.tmp 3]⟩:=by
 have h:c25=Sd:=by kernel_rfl
 rw[←h];exact mK
theorem Afd:Ar Tryz.prog (List.range tabs.length) 27 ⟨36,Sg,[.tmp 4]⟩:=by
 have h:c27=Sg:=by kernel_rfl
 rw[←h];exact mO
theorem Afe:Ar Tryz.prog (List.range tabs.length) 28 ⟨35,Si,[.tmp 6]⟩:=by
 have h:c28=Si:=by kernel_rfl
 rw[←h];exact mP
theorem Aff:Ar Tryz.prog (List.range tabs.length) 29 ⟨8,WS,[.tmp 2]⟩:=by
 have h:c29=WS:=by kernel_rfl
 rw[←h];exact mQ
theorem Afg:Ar Tryz.prog (List.range tabs.length) 30 ⟨106,Sj,[.tmp 2]⟩:=by
 have h:c30=Sj:=by kernel_rfl
 rw[←h];exact nD
theorem Afh:Ar Tryz.prog (List.range tabs.length) 31 ⟨16,Sk,[.tmp 4]⟩:=by
 have h:c31=Sk:=by kernel_rfl
 rw[←h];exact nG
theorem Afi:Ar Tryz.prog (List.range tabs.length) 32 ⟨21,Sm,[.tmp 4]⟩:=by
 have h:c32=Sm:=by kernel_rfl
 rw[←h];exact nH
theorem Afj:Ar Tryz.prog (List.range tabs.length) 33 ⟨36,Sn,[.tmp 4]⟩:=by
 have h:c33=Sn:=by kernel_rfl
 rw[←h];exact nI
theorem Afk:Ar Tryz.prog (List.range tabs.length) 34 ⟨15,WT,[.tmp 6]⟩:=by
 have h:c34=WT:=by kernel_rfl
 rw[←h];exact nJ
theorem Afl:Ar Tryz.prog (List.range tabs.length) 35 ⟨18,Sq,[.cell 2 64]⟩:=by
 have h:c35=Sq:=by kernel_rfl
 rw[←h];exact nK
theorem Afm:Ar Tryz.prog (List.range tabs.length) 36 ⟨22,WV,[.cell 4 64]⟩:=by
 have h:c36=WV:=by kernel_rfl
 rw[←h];exact nL
theorem Afn:Ar Tryz.prog (List.range tabs.length) 37 ⟨22,Sz,[.tmp 2]⟩:=by
 have h:c37=Sz:=by kernel_rfl
 rw[←h];exact nM
theorem Afo:Ar Tryz.prog (List.range tabs.length) 54 ⟨20,SA,[.tmp 4]⟩:=by
 have h:c54=SA:=by kernel_rfl
 rw[←h];exact nO
theorem Afp:Ar Tryz.prog (List.range tabs.length) 55 ⟨15,WW,[.tmp 6]⟩:=by
 have h:c55=WW:=by kernel_rfl
 rw[←h];exact nP
theorem Afq:Ar Tryz.prog (List.range tabs.length) 56 ⟨18,SB,[.tmp 4]⟩:=by
 have h:c56=SB:=by kernel_rfl
 rw[←h];exact nQ
theorem Afr:Ar Tryz.prog (List.range tabs.length) 57 ⟨37,SE,[.tmp 4,.tmp 5]⟩:=by
 have h:c57=SE:=by kernel_rfl
 rw[←h];exact nR
theorem Afs:Ar Tryz.prog (List.range tabs.length) 58 ⟨30,SF,[.tmp 4]⟩:=by
 have h:c58=SF:=by kernel_rfl
 rw[←h];exact nS
theorem Afu:Ar Tryz.prog (List.range tabs.length) 71 ⟨6,WX,[.tmp 2]⟩:=by
 have h:c71=WX:=by kernel_rfl
 rw[←h];exact nU
theorem Afv:Ar Tryz.prog (List.range tabs.length) 72 ⟨32,WY,[.tmp 6]⟩:=by
 have h:c72=WY:=by kernel_rfl
 rw[←h];exact nV
theorem Afw:Ar Tryz.prog (List.range tabs.length) 80 ⟨67,SG,[.tmp 10,.tmp 11]⟩:=by
 have h:c80=SG:=by kernel_rfl
 rw[←h];exact nW
theorem fk4:Ar Tryz.prog (List.range tabs.length) 4 ⟨21,ZR,[.tmp 6]⟩:=by
 have h:c4=ZR:=by kernel_rfl
 rw[←h];exact AdJ
theorem jL:Ar Tryz.prog (List.range tabs.length) 26 ⟨58,MR,[]⟩:=by
 have h:c26=MR:=by kernel_rfl
 rw[←h];exact mM
theorem Afx:Ar Tryz.prog (List.range tabs.length) 59 ⟨26,Ph,[.tmp 6]⟩:=by
 have h:c59=Ph:=by kernel_rfl
 rw[←h];exact nT
theorem Iz:∀ t∈tabs,t=t:=fun _ _=>rfl
theorem dY:tabs.all (fun t=>t.all BR)=true:=by kernel_rfl
theorem IB:∀ t∈tabs,∀ x∈t,BR x=true:=fun t ht x hx=>List.all_eq_true.1 (List.all_eq_true.1 dY t ht) x hx
theorem xY (hm:Tryz.prog.follows .mixedOrders=true) {pu:Af} (hl28:FN Tryz.prog tabs 28 1 (pu 28)) (hl29:FN Tryz.prog tabs 29 1 (pu 29)) (hl33:FN Tryz.prog tabs 33 1 (pu 33)) (hg70:BA Tryz.prog tabs 70 (pu 70)) (h0:Cn Tryz.prog tabs 3 0 4 (pu 10040)) (h1:Cn Tryz.prog tabs 4 4 26 (pu 10260)) (h2:Cn Tryz.prog tabs 4 5 26 (pu 10261)) (h3:Cn Tryz.prog tabs 3 0 59 (pu 10590)):CO Tryz.prog (List.range tabs.length) (inl pu):=fun g args H v H' h=>by
 replace h:bb (Nat.beq g 28) (frzP tabs 1 (pu 28) args H) (bb (Nat.beq g 29) (frzP tabs 1 (pu 29) args H) (bb (Nat.beq g 33) (frzP tabs 1 (pu 33) args H) (bb (Nat.beq g 70) (Hr tabs 1 (pu 70) args H) (bb (Nat.beq g 4) (Jg tabs [[none,none,none,some 1],[some 1],[some 1]] 3 [] [] (pu 10040) args H) (bb (Nat.beq g 26) (bb (an (oo (AL args 0) false (fun v=>nt (isS (IA v)))) true) (Jg tabs [[some 1],[none],[none],[none]] 4 [.tmp 1 false,.tmp 2 true,.tmp 3 true,.cell 2 0 false] [false,true,true,false,false] (pu 10260) args H) (Jg tabs [[none],[none],[none],[none]] 4 [.tmp 0 false,.tmp 1 false,.tmp 2 true,.tmp 3 true,.cell 3 0 false] [false,false,true,true,false,false] (pu 10261) args H)) (bb (Nat.beq g 59) (Jg tabs [[none,none,none,some 1],[some 1],[none]] 3 [] [] (pu 10590) args H) (none)))))))=some (v,H'):=h
 have hq:=Ag h;clear h;rcases hq with⟨e,h⟩ | ⟨_,h⟩
 ·obtain rfl:=Nat.eq_of_beq_eq_true e
  exact TW Iz IB hl28 h
 have hq:=Ag h;clear h;rcases hq with⟨e,h⟩ | ⟨_,h⟩
 ·obtain rfl:=Nat.eq_of_beq_eq_true e
  exact TW Iz IB hl29 h
 have hq:=Ag h;clear h;rcases hq with⟨e,h⟩ | ⟨_,h⟩
 ·obtain rfl:=Nat.eq_of_beq_eq_true e
  exact TW Iz IB hl33 h
 have hq:=Ag h;clear h;rcases hq with⟨e,h⟩ | ⟨_,h⟩
 ·obtain rfl:=Nat.eq_of_beq_eq_true e
  exact Og Iz IB hg70 h
 have hq:=Ag h;clear h;rcases hq with⟨e,h⟩ | ⟨_,h⟩
 ·obtain rfl:=Nat.eq_of_beq_eq_true e
  exact Pb (rs:=[]) Iz IB h0 h
 have hq:=Ag h;clear h;rcases hq with⟨e,h⟩ | ⟨_,h⟩
 ·obtain rfl:=Nat.eq_of_beq_eq_true e
  have hq:=wT h;clear h;rcases hq with h | h
  ·exact Pb (rs:=[.tmp 1 false,.tmp 2 true,.tmp 3 true,.cell 2 0 false]) Iz IB h1 h
  exact Pb (rs:=[.tmp 0 false,.tmp 1 false,.tmp 2 true,.tmp 3 true,.cell 3 0 false]) Iz IB h2 h
 have hq:=Ag h;clear h;rcases hq with⟨e,h⟩ | ⟨_,h⟩
 ·obtain rfl:=Nat.eq_of_beq_eq_true e
  exact Pb (rs:=[]) Iz IB h3 h
 cases h
theorem XP (hm:Tryz.prog.follows .mixedOrders=true) (hw:BA Tryz.prog tabs 5 bU∧BA Tryz.prog tabs 53 UB∧BA Tryz.prog tabs 70 UC) {pu:Af} (hall:(∀ g,isP g=true→BA Tryz.prog tabs g (pu g))∧FN Tryz.prog tabs 28 1 (pu 28)∧FN Tryz.prog tabs 29 1 (pu 29)∧FN Tryz.prog tabs 33 1 (pu 33)∧BA Tryz.prog tabs 70 (pu 70)∧Cn Tryz.prog tabs 3 0 4 (pu 10040)∧Cn Tryz.prog tabs 4 4 26 (pu 10260)∧Cn Tryz.prog tabs 4 5 26 (pu 10261)∧Cn Tryz.prog tabs 3 0 59 (pu 10590)):(∀ g,isP g=true→BA Tryz.prog tabs g (Oz pu g))∧FN Tryz.prog tabs 28 1 (Oz pu 28)∧FN Tryz.prog tabs 29 1 (Oz pu 29)∧FN Tryz.prog tabs 33 1 (Oz pu 33)∧BA Tryz.prog tabs 70 (Oz pu 70)∧Cn Tryz.prog tabs 3 0 4 (Oz pu 10040)∧Cn Tryz.prog tabs 4 4 26 (Oz pu 10260)∧Cn Tryz.prog tabs 4 5 26 (Oz pu 10261)∧Cn Tryz.prog tabs 3 0 59 (Oz pu 10590):=by
 obtain⟨hpu,hl28,hl29,hl33,hg70,h0,h4,h5,h6⟩:=hall
 have hcall:=TG (P:=Tryz.prog) (tabs:=tabs) Iz IB (xY hm hl28 hl29 hl33 hg70 h0 h4 h5 h6) hpu
 refine⟨fun g hg=>?_,?_,?_,?_,?_,?_,?_,?_,?_⟩
 ·have hg:g∈UD:=CS.1 hg
  simp only[UD,List.mem_cons,List.not_mem_nil,or_false] at hg
  rcases hg with rfl | rfl | rfl | rfl | rfl | rfl | rfl | rfl | rfl | rfl | rfl | rfl | rfl | rfl | rfl | rfl | rfl | rfl | rfl | rfl | rfl | rfl | rfl | rfl
  ·exact Aw (tabs:=tabs) (f:=m3 pu L) Gm hm hcall fk3 fun args v h hc=>r3 pu L rfl h hc
  ·exact hw.1
  ·exact Aw (tabs:=tabs) (f:=m6 pu L) Gm hm hcall fk6 fun args v h hc=>r6 pu L rfl h hc
  ·exact Aw (tabs:=tabs) (f:=m7 pu L) Gm hm hcall fk7 fun args v h hc=>r7 pu L rfl h hc
  ·exact Aw (tabs:=tabs) (f:=m8 pu L) Gm hm hcall fk8 fun args v h hc=>r8 pu L rfl h hc
  ·exact Aw (tabs:=tabs) (f:=zG pu L) Gm hm hcall Afb fun args v h hc=>r22 pu L rfl h hc
  ·exact Aw (tabs:=tabs) (f:=m25 pu L) Gm hm hcall Afc fun args v h hc=>r25 pu L rfl h hc
  ·exact Aw (tabs:=tabs) (f:=m27 pu L) Gm hm hcall Afd fun args v h hc=>r27 pu L rfl h hc
  ·exact Aw (tabs:=tabs) (f:=m30 pu L) Gm hm hcall Afg fun args v h hc=>r30 pu L rfl h hc
  ·exact Aw (tabs:=tabs) (f:=m31 pu L) Gm hm hcall Afh fun args v h hc=>r31 pu L rfl h hc
  ·exact Aw (tabs:=tabs) (f:=m32 pu L) Gm hm hcall Afi fun args v h hc=>r32 pu L rfl h hc
  ·exact Aw (tabs:=tabs) (f:=m34 pu L) Gm hm hcall Afk fun args v h hc=>r34 pu L rfl h hc
  ·exact Aw (tabs:=tabs) (f:=m35 pu L) Gm hm hcall Afl fun args v h hc=>r35 pu L rfl h hc
  ·exact Aw (tabs:=tabs) (f:=m36 pu L) Gm hm hcall Afm fun args v h hc=>r36 pu L rfl h hc
  ·exact Aw (tabs:=tabs) (f:=m37 pu L) Gm hm hcall Afn fun args v h hc=>r37 pu L rfl h hc
  ·exact hw.2.1
  ·exact Aw (tabs:=tabs) (f:=zH pu L) Gm hm hcall Afo fun args v h hc=>r54 pu L rfl h hc
  ·exact Aw (tabs:=tabs) (f:=wZ pu L) Gm hm hcall Afp fun args v h hc=>r55 pu L rfl h hc
  ·exact Aw (tabs:=tabs) (f:=m56 pu L) Gm hm hcall Afq fun args v h hc=>r56 pu L rfl h hc
  ·exact Aw (tabs:=tabs) (f:=m57 pu L) Gm hm hcall Afr fun args v h hc=>r57 pu L rfl h hc
  ·exact Aw (tabs:=tabs) (f:=m58 pu L) Gm hm hcall Afs fun args v h hc=>r58 pu L rfl h hc
  ·exact Aw (tabs:=tabs) (f:=m71 pu L) Gm hm hcall Afu fun args v h hc=>r71 pu L rfl h hc
  ·exact Aw (tabs:=tabs) (f:=m72 pu L) Gm hm hcall Afv fun args v h hc=>r72 pu L rfl h hc
  ·exact Aw (tabs:=tabs) (f:=m80 pu L) Gm hm hcall Afw fun args v h hc=>r80 pu L rfl h hc
 ·exact Jw (tabs:=tabs) (f:=m28 pu L) Gm hm hcall Afe fun args v h hc=>r28 pu L rfl h hc
 ·exact Jw (tabs:=tabs) (f:=m29 pu L) Gm hm hcall Aff fun args v h hc=>r29 pu L rfl h hc
 ·exact Jw (tabs:=tabs) (f:=m33 pu L) Gm hm hcall Afj fun args v h hc=>r33 pu L rfl h hc
 ·exact hw.2.2
 ·exact Dx (tabs:=tabs) (f:=OL pu L) Gm hm hcall fk4 fun args os z h1 h2 h3 h=>xB pu L rfl h1 h2 h3 h
 ·exact Dx (tabs:=tabs) (f:=OM pu L) Gm hm hcall jL fun args os z h1 h2 h3 h=>xC pu L rfl h1 h2 h3 h
 ·exact Dx (tabs:=tabs) (f:=OO pu L) Gm hm hcall jL fun args os z h1 h2 h3 h=>xD pu L rfl h1 h2 h3 h
 ·exact Dx (tabs:=tabs) (f:=OP pu L) Gm hm hcall Afx fun args os z h1 h2 h3 h=>xG pu L rfl h1 h2 h3 h
theorem dZ (hm:Tryz.prog.follows .mixedOrders=true) (hw:BA Tryz.prog tabs 5 bU∧BA Tryz.prog tabs 53 UB∧BA Tryz.prog tabs 70 UC):∀ n,(∀ g,isP g=true→BA Tryz.prog tabs g (QE n g))∧FN Tryz.prog tabs 28 1 (QE n 28)∧FN Tryz.prog tabs 29 1 (QE n 29)∧FN Tryz.prog tabs 33 1 (QE n 33)∧BA Tryz.prog tabs 70 (QE n 70)∧Cn Tryz.prog tabs 3 0 4 (QE n 10040)∧Cn Tryz.prog tabs 4 4 26 (QE n 10260)∧Cn Tryz.prog tabs 4 5 26 (QE n 10261)∧Cn Tryz.prog tabs 3 0 59 (QE n 10590):=fun n=>by
 induction n with
 | zero =>
  refine⟨fun g hg=>?_,?_,?_,?_,?_,?_,?_,?_,?_⟩
  ·have hg:g∈UD:=CS.1 hg
   simp only[UD,List.mem_cons,List.not_mem_nil,or_false] at hg
   rcases hg with rfl | rfl | rfl | rfl | rfl | rfl | rfl | rfl | rfl | rfl | rfl | rfl | rfl | rfl | rfl | rfl | rfl | rfl | rfl | rfl | rfl | rfl | rfl | rfl
   ·exact⟨A9 fk3,fun args v h=>by cases h⟩
   ·exact⟨(hw.1).1,fun args v h=>by cases h⟩
   ·exact⟨A9 fk6,fun args v h=>by cases h⟩
   ·exact⟨A9 fk7,fun args v h=>by cases h⟩
   ·exact⟨A9 fk8,fun args v h=>by cases h⟩
   ·exact⟨A9 Afb,fun args v h=>by cases h⟩
   ·exact⟨A9 Afc,fun args v h=>by cases h⟩
   ·exact⟨A9 Afd,fun args v h=>by cases h⟩
   ·exact⟨A9 Afg,fun args v h=>by cases h⟩
   ·exact⟨A9 Afh,fun args v h=>by cases h⟩
   ·exact⟨A9 Afi,fun args v h=>by cases h⟩
   ·exact⟨A9 Afk,fun args v h=>by cases h⟩
   ·exact⟨A9 Afl,fun args v h=>by cases h⟩
   ·exact⟨A9 Afm,fun args v h=>by cases h⟩
   ·exact⟨A9 Afn,fun args v h=>by cases h⟩
   ·exact⟨(hw.2.1).1,fun args v h=>by cases h⟩
   ·exact⟨A9 Afo,fun args v h=>by cases h⟩
   ·exact⟨A9 Afp,fun args v h=>by cases h⟩
   ·exact⟨A9 Afq,fun args v h=>by cases h⟩
   ·exact⟨A9 Afr,fun args v h=>by cases h⟩
   ·exact⟨A9 Afs,fun args v h=>by cases h⟩
   ·exact⟨A9 Afu,fun args v h=>by cases h⟩
   ·exact⟨A9 Afv,fun args v h=>by cases h⟩
   ·exact⟨A9 Afw,fun args v h=>by cases h⟩
  ·exact⟨A9 Afe,fun args v h=>by cases h⟩
  ·exact⟨A9 Aff,fun args v h=>by cases h⟩
  ·exact⟨A9 Afj,fun args v h=>by cases h⟩
  ·exact⟨(hw.2.2).1,fun args v h=>by cases h⟩
  ·exact⟨A9 fk4,fun args os z h1 h2 h3 h=>by cases h⟩
  ·exact⟨A9 jL,fun args os z h1 h2 h3 h=>by cases h⟩
  ·exact⟨A9 jL,fun args os z h1 h2 h3 h=>by cases h⟩
  ·exact⟨A9 Afx,fun args os z h1 h2 h3 h=>by cases h⟩
 | succ n ih=>exact XP hm hw ih
theorem Afy (hm:Tryz.prog.follows .mixedOrders=true) (hw:BA Tryz.prog tabs 5 bU∧BA Tryz.prog tabs 53 UB∧BA Tryz.prog tabs 70 UC):∀ n g,isP g=true→BA Tryz.prog tabs g (QE n g):=fun n=>(dZ hm hw n).1
end
end Go.Proofs.YtciohfkjabeooaaGreatDoor.BaA
