/- Made from wip. -/
import Derived.Test.YtokbaaeimejjlaaGreatDoorProg
import Derived.Test.YtokbaaeimejjlaaGreatDoorSpMorex
import Derived.Test.YtokbaaeimejjlaaGreatDoorBkVInlx
import Derived.Shelf.Sort.Plain
import Derived.Ground.Names2Prog
import Derived.Ground.SlgnProg

set_option maxRecDepth 100000
namespace Go.Proofs.YtokbaaeimejjlaaGreatDoor.BkV
open Go Go.Sp Go.BkV
theorem b6:(match Tryz.f6.body with | some c=>BF c c6 | none=>none)=some c6:=by kernel_rfl
theorem p6:(match Tryz.f6.body with | some c=>AU [0] c | none=>false)=true:=by kernel_rfl
theorem Ae6:Ar Tryz.prog [0] 6 ⟨52,c6,[.tmp 6]⟩:=Ar.by Tryz.func6 b6 p6 Tryz.ntmps6 (by rw[Tryz.results6]) (by kernel_rfl)
theorem b9:(match Tryz.f9.body with | some c=>BF c c9 | none=>none)=some c9:=by kernel_rfl
theorem p9:(match Tryz.f9.body with | some c=>AU [0] c | none=>false)=true:=by kernel_rfl
theorem Ae7:Ar Tryz.prog [0] 9 ⟨21,c9,[.tmp 6]⟩:=Ar.by Tryz.func9 b9 p9 Tryz.ntmps9 (by rw[Tryz.results9]) (by kernel_rfl)
theorem b10:(match Tryz.f10.body with | some c=>BF c c10 | none=>none)=some c10:=by kernel_rfl
theorem p10:(match Tryz.f10.body with | some c=>AU [0] c | none=>false)=true:=by kernel_rfl
theorem oG:Ar Tryz.prog [0] 10 ⟨209,c10,[.tmp 0]⟩:=Ar.by Tryz.func10 b10 p10 Tryz.ntmps10 (by rw[Tryz.results10]) (by kernel_rfl)
theorem b11:(match Tryz.f11.body with | some c=>BF c c11 | none=>none)=some c11:=by kernel_rfl
theorem p11:(match Tryz.f11.body with | some c=>AU [0] c | none=>false)=true:=by kernel_rfl
theorem Ae8:Ar Tryz.prog [0] 11 ⟨34,c11,[.tmp 6,.tmp 7]⟩:=Ar.by Tryz.func11 b11 p11 Tryz.ntmps11 (by rw[Tryz.results11]) (by kernel_rfl)
theorem b13:(match Tryz.f13.body with | some c=>BF c c13 | none=>none)=some c13:=by kernel_rfl
theorem p13:(match Tryz.f13.body with | some c=>AU [0] c | none=>false)=true:=by kernel_rfl
theorem Ae9:Ar Tryz.prog [0] 13 ⟨42,c13,[.tmp 6,.tmp 7]⟩:=Ar.by Tryz.func13 b13 p13 Tryz.ntmps13 (by rw[Tryz.results13]) (by kernel_rfl)
theorem b15:(match Tryz.f15.body with | some c=>BF c c15 | none=>none)=some c15:=by kernel_rfl
theorem p15:(match Tryz.f15.body with | some c=>AU [0] c | none=>false)=true:=by kernel_rfl
theorem Afa:Ar Tryz.prog [0] 15 ⟨43,c15,[.tmp 4,.tmp 5]⟩:=Ar.by Tryz.func15 b15 p15 Tryz.ntmps15 (by rw[Tryz.results15]) (by kernel_rfl)
theorem b17:(match Tryz.f17.body with | some c=>BF c c17 | none=>none)=some c17:=by kernel_rfl
theorem p17:(match Tryz.f17.body with | some c=>AU [0] c | none=>false)=true:=by kernel_rfl
theorem oH:Ar Tryz.prog [0] 17 ⟨26,c17,[.tmp 4]⟩:=Ar.by Tryz.func17 b17 p17 Tryz.ntmps17 (by rw[Tryz.results17]) (by kernel_rfl)
theorem b18:(match Tryz.f18.body with | some c=>BF c c18 | none=>none)=some c18:=by kernel_rfl
theorem p18:(match Tryz.f18.body with | some c=>AU [0] c | none=>false)=true:=by kernel_rfl
theorem Afb:Ar Tryz.prog [0] 18 ⟨23,c18,[.tmp 4,.tmp 5]⟩:=Ar.by Tryz.func18 b18 p18 Tryz.ntmps18 (by rw[Tryz.results18]) (by kernel_rfl)
theorem b20:(match Tryz.f20.body with | some c=>BF c c20 | none=>none)=some c20:=by kernel_rfl
theorem p20:(match Tryz.f20.body with | some c=>AU [0] c | none=>false)=true:=by kernel_rfl
theorem Afc:Ar Tryz.prog [0] 20 ⟨21,c20,[.tmp 4,.tmp 5]⟩:=Ar.by Tryz.func20 b20 p20 Tryz.ntmps20 (by rw[Tryz.results20]) (by kernel_rfl)
theorem b22:(match Tryz.f22.body with | some c=>BF c c22 | none=>none)=some c22:=by kernel_rfl
theorem p22:(match Tryz.f22.body with | some c=>AU [0] c | none=>false)=true:=by kernel_rfl
theorem Afd:Ar Tryz.prog [0] 22 ⟨27,c22,[.tmp 4]⟩:=Ar.by Tryz.func22 b22 p22 Tryz.ntmps22 (by rw[Tryz.results22]) (by kernel_rfl)
theorem b23:(match Tryz.f23.body with | some c=>BF c c23 | none=>none)=some c23:=by kernel_rfl
theorem p23:(match Tryz.f23.body with | some c=>AU [0] c | none=>false)=true:=by kernel_rfl
theorem Afe:Ar Tryz.prog [0] 23 ⟨29,c23,[.tmp 4,.tmp 5]⟩:=Ar.by Tryz.func23 b23 p23 Tryz.ntmps23 (by rw[Tryz.results23]) (by kernel_rfl)
theorem b25:(match Tryz.f25.body with | some c=>BF c c25 | none=>none)=some c25:=by kernel_rfl
theorem p25:(match Tryz.f25.body with | some c=>AU [0] c | none=>false)=true:=by kernel_rfl
theorem Aff:Ar Tryz.prog [0] 25 ⟨39,c25,[.tmp 2,.tmp 3]⟩:=Ar.by Tryz.func25 b25 p25 Tryz.ntmps25 (by rw[Tryz.results25]) (by kernel_rfl)
theorem b27:(match Tryz.f27.body with | some c=>BF c c27 | none=>none)=some c27:=by kernel_rfl
theorem p27:(match Tryz.f27.body with | some c=>AU [0] c | none=>false)=true:=by kernel_rfl
theorem Afg:Ar Tryz.prog [0] 27 ⟨93,c27,[.tmp 4,.tmp 5]⟩:=Ar.by Tryz.func27 b27 p27 Tryz.ntmps27 (by rw[Tryz.results27]) (by kernel_rfl)
theorem b29:(match Tryz.f29.body with | some c=>BF c c29 | none=>none)=some c29:=by kernel_rfl
theorem p29:(match Tryz.f29.body with | some c=>AU [0] c | none=>false)=true:=by kernel_rfl
theorem oI:Ar Tryz.prog [0] 29 ⟨25,c29,[.tmp 4,.tmp 5]⟩:=Ar.by Tryz.func29 b29 p29 Tryz.ntmps29 (by rw[Tryz.results29]) (by kernel_rfl)
theorem b30:(match Tryz.f30.body with | some c=>BF c c30 | none=>none)=some c30:=by kernel_rfl
theorem p30:(match Tryz.f30.body with | some c=>AU [0] c | none=>false)=true:=by kernel_rfl
theorem oJ:Ar Tryz.prog [0] 30 ⟨39,c30,[.tmp 4,.tmp 5]⟩:=Ar.by Tryz.func30 b30 p30 Tryz.ntmps30 (by rw[Tryz.results30]) (by kernel_rfl)
theorem b31:(match Tryz.f31.body with | some c=>BF c c31 | none=>none)=some c31:=by kernel_rfl
theorem p31:(match Tryz.f31.body with | some c=>AU [0] c | none=>false)=true:=by kernel_rfl
theorem oK:Ar Tryz.prog [0] 31 ⟨70,c31,[.tmp 6]⟩:=Ar.by Tryz.func31 b31 p31 Tryz.ntmps31 (by rw[Tryz.results31]) (by kernel_rfl)
theorem b32:(match Tryz.f32.body with | some c=>BF c c32 | none=>none)=some c32:=by kernel_rfl
theorem p32:(match Tryz.f32.body with | some c=>AU [0] c | none=>false)=true:=by kernel_rfl
theorem oL:Ar Tryz.prog [0] 32 ⟨55,c32,[.tmp 6]⟩:=Ar.by Tryz.func32 b32 p32 Tryz.ntmps32 (by rw[Tryz.results32]) (by kernel_rfl)
theorem b33:(match Tryz.f33.body with | some c=>BF c c33 | none=>none)=some c33:=by kernel_rfl
theorem p33:(match Tryz.f33.body with | some c=>AU [0] c | none=>false)=true:=by kernel_rfl
theorem Afh:Ar Tryz.prog [0] 33 ⟨20,c33,[.tmp 4,.tmp 5]⟩:=Ar.by Tryz.func33 b33 p33 Tryz.ntmps33 (by rw[Tryz.results33]) (by kernel_rfl)
theorem b34:(match Tryz.f34.body with | some c=>BF c c34 | none=>none)=some c34:=by kernel_rfl
theorem p34:(match Tryz.f34.body with | some c=>AU [0] c | none=>false)=true:=by kernel_rfl
theorem oM:Ar Tryz.prog [0] 34 ⟨37,c34,[.tmp 4,.tmp 5]⟩:=Ar.by Tryz.func34 b34 p34 Tryz.ntmps34 (by rw[Tryz.results34]) (by kernel_rfl)
theorem b36:(match Tryz.f36.body with | some c=>BF c c36 | none=>none)=some c36:=by kernel_rfl
theorem p36:(match Tryz.f36.body with | some c=>AU [0] c | none=>false)=true:=by kernel_rfl
theorem oN:Ar Tryz.prog [0] 36 ⟨106,c36,[.tmp 2]⟩:=Ar.by Tryz.func36 b36 p36 Tryz.ntmps36 (by rw[Tryz.results36]) (by kernel_rfl)
theorem b39:(match Tryz.f39.body with | some c=>BF c c39 | none=>none)=some c39:=by kernel_rfl
theorem p39:(match Tryz.f39.body with | some c=>AU [0] c | none=>false)=true:=by kernel_rfl
theorem Afi:Ar Tryz.prog [0] 39 ⟨4,c39,[.cell 0 24]⟩:=Ar.by Tryz.func39 b39 p39 Tryz.ntmps39 (by rw[Tryz.results39]) (by kernel_rfl)
theorem b40:(match Tryz.f40.body with | some c=>BF c c40 | none=>none)=some c40:=by kernel_rfl
theorem p40:(match Tryz.f40.body with | some c=>AU [0] c | none=>false)=true:=by kernel_rfl
theorem Afj:Ar Tryz.prog [0] 40 ⟨4,c40,[.tmp 2]⟩:=Ar.by Tryz.func40 b40 p40 Tryz.ntmps40 (by rw[Tryz.results40]) (by kernel_rfl)
theorem b41:(match Tryz.f41.body with | some c=>BF c c41 | none=>none)=some c41:=by kernel_rfl
theorem p41:(match Tryz.f41.body with | some c=>AU [0] c | none=>false)=true:=by kernel_rfl
theorem Afk:Ar Tryz.prog [0] 41 ⟨4,c41,[.cell 0 24]⟩:=Ar.by Tryz.func41 b41 p41 Tryz.ntmps41 (by rw[Tryz.results41]) (by kernel_rfl)
theorem b42:(match Tryz.f42.body with | some c=>BF c c42 | none=>none)=some c42:=by kernel_rfl
theorem p42:(match Tryz.f42.body with | some c=>AU [0] c | none=>false)=true:=by kernel_rfl
theorem Afl:Ar Tryz.prog [0] 42 ⟨4,c42,[.tmp 2]⟩:=Ar.by Tryz.func42 b42 p42 Tryz.ntmps42 (by rw[Tryz.results42]) (by kernel_rfl)
theorem b43:(match Tryz.f43.body with | some c=>BF c c43 | none=>none)=some c43:=by kernel_rfl
theorem p43:(match Tryz.f43.body with | some c=>AU [0] c | none=>false)=true:=by kernel_rfl
theorem oO:Ar Tryz.prog [0] 43 ⟨33,c43,[.tmp 4,.tmp 5]⟩:=Ar.by Tryz.func43 b43 p43 Tryz.ntmps43 (by rw[Tryz.results43]) (by kernel_rfl)
end Go.Proofs.YtokbaaeimejjlaaGreatDoor.BkV
set_option maxRecDepth 100000
namespace Go.Proofs.YtokbaaeimejjlaaGreatDoor.BkV
open Go Go.Sp Go.BkV
theorem b44:(match Tryz.f44.body with | some c=>BF c c44 | none=>none)=some c44:=by kernel_rfl
theorem p44:(match Tryz.f44.body with | some c=>AU [0] c | none=>false)=true:=by kernel_rfl
theorem Afm:Ar Tryz.prog [0] 44 ⟨19,c44,[.tmp 4]⟩:=Ar.by Tryz.func44 b44 p44 Tryz.ntmps44 (by rw[Tryz.results44]) (by kernel_rfl)
theorem b45:(match Tryz.f45.body with | some c=>BF c c45 | none=>none)=some c45:=by kernel_rfl
theorem p45:(match Tryz.f45.body with | some c=>AU [0] c | none=>false)=true:=by kernel_rfl
theorem Afn:Ar Tryz.prog [0] 45 ⟨35,c45,[.tmp 6]⟩:=Ar.by Tryz.func45 b45 p45 Tryz.ntmps45 (by rw[Tryz.results45]) (by kernel_rfl)
theorem b46:(match Tryz.f46.body with | some c=>BF c c46 | none=>none)=some c46:=by kernel_rfl
theorem p46:(match Tryz.f46.body with | some c=>AU [0] c | none=>false)=true:=by kernel_rfl
theorem oP:Ar Tryz.prog [0] 46 ⟨41,c46,[.tmp 4]⟩:=Ar.by Tryz.func46 b46 p46 Tryz.ntmps46 (by rw[Tryz.results46]) (by kernel_rfl)
theorem b47:(match Tryz.f47.body with | some c=>BF c c47 | none=>none)=some c47:=by kernel_rfl
theorem p47:(match Tryz.f47.body with | some c=>AU [0] c | none=>false)=true:=by kernel_rfl
theorem oQ:Ar Tryz.prog [0] 47 ⟨18,c47,[.tmp 4]⟩:=Ar.by Tryz.func47 b47 p47 Tryz.ntmps47 (by rw[Tryz.results47]) (by kernel_rfl)
theorem b48:(match Tryz.f48.body with | some c=>BF c c48 | none=>none)=some c48:=by kernel_rfl
theorem p48:(match Tryz.f48.body with | some c=>AU [0] c | none=>false)=true:=by kernel_rfl
theorem oU:Ar Tryz.prog [0] 48 ⟨26,c48,[.tmp 6]⟩:=Ar.by Tryz.func48 b48 p48 Tryz.ntmps48 (by rw[Tryz.results48]) (by kernel_rfl)
theorem b49:(match Tryz.f49.body with | some c=>BF c c49 | none=>none)=some c49:=by kernel_rfl
theorem p49:(match Tryz.f49.body with | some c=>AU [0] c | none=>false)=true:=by kernel_rfl
theorem Afo:Ar Tryz.prog [0] 49 ⟨26,c49,[.tmp 4]⟩:=Ar.by Tryz.func49 b49 p49 Tryz.ntmps49 (by rw[Tryz.results49]) (by kernel_rfl)
theorem b50:(match Tryz.f50.body with | some c=>BF c c50 | none=>none)=some c50:=by kernel_rfl
theorem p50:(match Tryz.f50.body with | some c=>AU [0] c | none=>false)=true:=by kernel_rfl
theorem oV:Ar Tryz.prog [0] 50 ⟨21,c50,[.tmp 4]⟩:=Ar.by Tryz.func50 b50 p50 Tryz.ntmps50 (by rw[Tryz.results50]) (by kernel_rfl)
theorem b51:(match Tryz.f51.body with | some c=>BF c c51 | none=>none)=some c51:=by kernel_rfl
theorem p51:(match Tryz.f51.body with | some c=>AU [0] c | none=>false)=true:=by kernel_rfl
theorem oW:Ar Tryz.prog [0] 51 ⟨38,c51,[.tmp 6]⟩:=Ar.by Tryz.func51 b51 p51 Tryz.ntmps51 (by rw[Tryz.results51]) (by kernel_rfl)
theorem b52:(match Tryz.f52.body with | some c=>BF c c52 | none=>none)=some c52:=by kernel_rfl
theorem p52:(match Tryz.f52.body with | some c=>AU [0] c | none=>false)=true:=by kernel_rfl
theorem Afp:Ar Tryz.prog [0] 52 ⟨28,c52,[.tmp 4]⟩:=Ar.by Tryz.func52 b52 p52 Tryz.ntmps52 (by rw[Tryz.results52]) (by kernel_rfl)
theorem b55:(match Tryz.f55.body with | some c=>BF c c55 | none=>none)=some c55:=by kernel_rfl
theorem p55:(match Tryz.f55.body with | some c=>AU [0] c | none=>false)=true:=by kernel_rfl
theorem oZ:Ar Tryz.prog [0] 55 ⟨110,c55,[.tmp 2,.tmp 3]⟩:=Ar.by Tryz.func55 b55 p55 Tryz.ntmps55 (by rw[Tryz.results55]) (by kernel_rfl)
theorem b56:(match Tryz.f56.body with | some c=>BF c c56 | none=>none)=some c56:=by kernel_rfl
theorem p56:(match Tryz.f56.body with | some c=>AU [0] c | none=>false)=true:=by kernel_rfl
theorem Afq:Ar Tryz.prog [0] 56 ⟨27,c56,[.tmp 4]⟩:=Ar.by Tryz.func56 b56 p56 Tryz.ntmps56 (by rw[Tryz.results56]) (by kernel_rfl)
theorem b59:(match Tryz.f59.body with | some c=>BF c c59 | none=>none)=some c59:=by kernel_rfl
theorem p59:(match Tryz.f59.body with | some c=>AU [0] c | none=>false)=true:=by kernel_rfl
theorem pE:Ar Tryz.prog [0] 59 ⟨15,c59,[.tmp 6]⟩:=Ar.by Tryz.func59 b59 p59 Tryz.ntmps59 (by rw[Tryz.results59]) (by kernel_rfl)
theorem b60:(match Tryz.f60.body with | some c=>BF c c60 | none=>none)=some c60:=by kernel_rfl
theorem p60:(match Tryz.f60.body with | some c=>AU [0] c | none=>false)=true:=by kernel_rfl
theorem Afr:Ar Tryz.prog [0] 60 ⟨15,c60,[.tmp 4]⟩:=Ar.by Tryz.func60 b60 p60 Tryz.ntmps60 (by rw[Tryz.results60]) (by kernel_rfl)
theorem b61:(match Tryz.f61.body with | some c=>BF c c61 | none=>none)=some c61:=by kernel_rfl
theorem p61:(match Tryz.f61.body with | some c=>AU [0] c | none=>false)=true:=by kernel_rfl
theorem Afs:Ar Tryz.prog [0] 61 ⟨50,c61,[.cell 4 84]⟩:=Ar.by Tryz.func61 b61 p61 Tryz.ntmps61 (by rw[Tryz.results61]) (by kernel_rfl)
theorem b62:(match Tryz.f62.body with | some c=>BF c c62 | none=>none)=some c62:=by kernel_rfl
theorem p62:(match Tryz.f62.body with | some c=>AU [0] c | none=>false)=true:=by kernel_rfl
theorem pF:Ar Tryz.prog [0] 62 ⟨15,c62,[.tmp 6]⟩:=Ar.by Tryz.func62 b62 p62 Tryz.ntmps62 (by rw[Tryz.results62]) (by kernel_rfl)
theorem b65:(match Tryz.f65.body with | some c=>BF c c65 | none=>none)=some c65:=by kernel_rfl
theorem p65:(match Tryz.f65.body with | some c=>AU [0] c | none=>false)=true:=by kernel_rfl
theorem pG:Ar Tryz.prog [0] 65 ⟨88,c65,[]⟩:=Ar.by Tryz.func65 b65 p65 Tryz.ntmps65 (by rw[Tryz.results65]) (by kernel_rfl)
theorem b66:(match Tryz.f66.body with | some c=>BF c c66 | none=>none)=some c66:=by kernel_rfl
theorem p66:(match Tryz.f66.body with | some c=>AU [0] c | none=>false)=true:=by kernel_rfl
theorem pI:Ar Tryz.prog [0] 66 ⟨9,c66,[.tmp 4]⟩:=Ar.by Tryz.func66 b66 p66 Tryz.ntmps66 (by rw[Tryz.results66]) (by kernel_rfl)
theorem b67:(match Tryz.f67.body with | some c=>BF c c67 | none=>none)=some c67:=by kernel_rfl
theorem p67:(match Tryz.f67.body with | some c=>AU [0] c | none=>false)=true:=by kernel_rfl
theorem pJ:Ar Tryz.prog [0] 67 ⟨9,c67,[.tmp 3]⟩:=Ar.by Tryz.func67 b67 p67 Tryz.ntmps67 (by rw[Tryz.results67]) (by kernel_rfl)
theorem b68:(match Tryz.f68.body with | some c=>BF c c68 | none=>none)=some c68:=by kernel_rfl
theorem p68:(match Tryz.f68.body with | some c=>AU [0] c | none=>false)=true:=by kernel_rfl
theorem Afu:Ar Tryz.prog [0] 68 ⟨9,c68,[.tmp 2]⟩:=Ar.by Tryz.func68 b68 p68 Tryz.ntmps68 (by rw[Tryz.results68]) (by kernel_rfl)
theorem b69:(match Tryz.f69.body with | some c=>BF c c69 | none=>none)=some c69:=by kernel_rfl
theorem p69:(match Tryz.f69.body with | some c=>AU [0] c | none=>false)=true:=by kernel_rfl
theorem pK:Ar Tryz.prog [0] 69 ⟨4,c69,[.tmp 2]⟩:=Ar.by Tryz.func69 b69 p69 Tryz.ntmps69 (by rw[Tryz.results69]) (by kernel_rfl)
theorem b70:(match Tryz.f70.body with | some c=>BF c c70 | none=>none)=some c70:=by kernel_rfl
theorem p70:(match Tryz.f70.body with | some c=>AU [0] c | none=>false)=true:=by kernel_rfl
theorem pM:Ar Tryz.prog [0] 70 ⟨36,c70,[.tmp 4]⟩:=Ar.by Tryz.func70 b70 p70 Tryz.ntmps70 (by rw[Tryz.results70]) (by kernel_rfl)
theorem b71:(match Tryz.f71.body with | some c=>BF c c71 | none=>none)=some c71:=by kernel_rfl
theorem p71:(match Tryz.f71.body with | some c=>AU [0] c | none=>false)=true:=by kernel_rfl
theorem pO:Ar Tryz.prog [0] 71 ⟨9,c71,[.tmp 2]⟩:=Ar.by Tryz.func71 b71 p71 Tryz.ntmps71 (by rw[Tryz.results71]) (by kernel_rfl)
theorem b72:(match Tryz.f72.body with | some c=>BF c c72 | none=>none)=some c72:=by kernel_rfl
theorem p72:(match Tryz.f72.body with | some c=>AU [0] c | none=>false)=true:=by kernel_rfl
theorem pQ:Ar Tryz.prog [0] 72 ⟨15,c72,[.tmp 2]⟩:=Ar.by Tryz.func72 b72 p72 Tryz.ntmps72 (by rw[Tryz.results72]) (by kernel_rfl)
theorem b73:(match Tryz.f73.body with | some c=>BF c c73 | none=>none)=some c73:=by kernel_rfl
theorem p73:(match Tryz.f73.body with | some c=>AU [0] c | none=>false)=true:=by kernel_rfl
theorem pR:Ar Tryz.prog [0] 73 ⟨44,c73,[.tmp 6]⟩:=Ar.by Tryz.func73 b73 p73 Tryz.ntmps73 (by rw[Tryz.results73]) (by kernel_rfl)
theorem b74:(match Tryz.f74.body with | some c=>BF c c74 | none=>none)=some c74:=by kernel_rfl
theorem p74:(match Tryz.f74.body with | some c=>AU [0] c | none=>false)=true:=by kernel_rfl
theorem pV:Ar Tryz.prog [0] 74 ⟨55,c74,[.tmp 6]⟩:=Ar.by Tryz.func74 b74 p74 Tryz.ntmps74 (by rw[Tryz.results74]) (by kernel_rfl)
end Go.Proofs.YtokbaaeimejjlaaGreatDoor.BkV
set_option maxRecDepth 100000
namespace Go.Proofs.YtokbaaeimejjlaaGreatDoor.BkV
open Go Go.Sp Go.BkV
theorem b75:(match Tryz.f75.body with | some c=>BF c c75 | none=>none)=some c75:=by kernel_rfl
theorem p75:(match Tryz.f75.body with | some c=>AU [0] c | none=>false)=true:=by kernel_rfl
theorem pW:Ar Tryz.prog [0] 75 ⟨18,c75,[.cell 2 99]⟩:=Ar.by Tryz.func75 b75 p75 Tryz.ntmps75 (by rw[Tryz.results75]) (by kernel_rfl)
theorem b76:(match Tryz.f76.body with | some c=>BF c c76 | none=>none)=some c76:=by kernel_rfl
theorem p76:(match Tryz.f76.body with | some c=>AU [0] c | none=>false)=true:=by kernel_rfl
theorem pX:Ar Tryz.prog [0] 76 ⟨22,c76,[.cell 4 99]⟩:=Ar.by Tryz.func76 b76 p76 Tryz.ntmps76 (by rw[Tryz.results76]) (by kernel_rfl)
theorem b77:(match Tryz.f77.body with | some c=>BF c c77 | none=>none)=some c77:=by kernel_rfl
theorem p77:(match Tryz.f77.body with | some c=>AU [0] c | none=>false)=true:=by kernel_rfl
theorem pY:Ar Tryz.prog [0] 77 ⟨22,c77,[.tmp 2]⟩:=Ar.by Tryz.func77 b77 p77 Tryz.ntmps77 (by rw[Tryz.results77]) (by kernel_rfl)
theorem b79:(match Tryz.f79.body with | some c=>BF c c79 | none=>none)=some c79:=by kernel_rfl
theorem p79:(match Tryz.f79.body with | some c=>AU [0] c | none=>false)=true:=by kernel_rfl
theorem Afv:Ar Tryz.prog [0] 79 ⟨8,c79,[.tmp 2]⟩:=Ar.by Tryz.func79 b79 p79 Tryz.ntmps79 (by rw[Tryz.results79]) (by kernel_rfl)
theorem b80:(match Tryz.f80.body with | some c=>BF c c80 | none=>none)=some c80:=by kernel_rfl
theorem p80:(match Tryz.f80.body with | some c=>AU [0] c | none=>false)=true:=by kernel_rfl
theorem qB:Ar Tryz.prog [0] 80 ⟨34,c80,[.tmp 4]⟩:=Ar.by Tryz.func80 b80 p80 Tryz.ntmps80 (by rw[Tryz.results80]) (by kernel_rfl)
theorem b81:(match Tryz.f81.body with | some c=>BF c c81 | none=>none)=some c81:=by kernel_rfl
theorem p81:(match Tryz.f81.body with | some c=>AU [0] c | none=>false)=true:=by kernel_rfl
theorem qC:Ar Tryz.prog [0] 81 ⟨32,c81,[.tmp 6]⟩:=Ar.by Tryz.func81 b81 p81 Tryz.ntmps81 (by rw[Tryz.results81]) (by kernel_rfl)
theorem b82:(match Tryz.f82.body with | some c=>BF c c82 | none=>none)=some c82:=by kernel_rfl
theorem p82:(match Tryz.f82.body with | some c=>AU [0] c | none=>false)=true:=by kernel_rfl
theorem Afw:Ar Tryz.prog [0] 82 ⟨14,c82,[]⟩:=Ar.by Tryz.func82 b82 p82 Tryz.ntmps82 (by rw[Tryz.results82]) (by kernel_rfl)
theorem b83:(match Tryz.f83.body with | some c=>BF c c83 | none=>none)=some c83:=by kernel_rfl
theorem p83:(match Tryz.f83.body with | some c=>AU [0] c | none=>false)=true:=by kernel_rfl
theorem Afx:Ar Tryz.prog [0] 83 ⟨66,c83,[.tmp 4]⟩:=Ar.by Tryz.func83 b83 p83 Tryz.ntmps83 (by rw[Tryz.results83]) (by kernel_rfl)
theorem b84:(match Tryz.f84.body with | some c=>BF c c84 | none=>none)=some c84:=by kernel_rfl
theorem p84:(match Tryz.f84.body with | some c=>AU [0] c | none=>false)=true:=by kernel_rfl
theorem qR:Ar Tryz.prog [0] 84 ⟨47,c84,[.tmp 4]⟩:=Ar.by Tryz.func84 b84 p84 Tryz.ntmps84 (by rw[Tryz.results84]) (by kernel_rfl)
theorem b85:(match Tryz.f85.body with | some c=>BF c c85 | none=>none)=some c85:=by kernel_rfl
theorem p85:(match Tryz.f85.body with | some c=>AU [0] c | none=>false)=true:=by kernel_rfl
theorem Afy:Ar Tryz.prog [0] 85 ⟨70,c85,[.tmp 9]⟩:=Ar.by Tryz.func85 b85 p85 Tryz.ntmps85 (by rw[Tryz.results85]) (by kernel_rfl)
theorem b86:(match Tryz.f86.body with | some c=>BF c c86 | none=>none)=some c86:=by kernel_rfl
theorem p86:(match Tryz.f86.body with | some c=>AU [0] c | none=>false)=true:=by kernel_rfl
theorem qU:Ar Tryz.prog [0] 86 ⟨19,c86,[.tmp 4]⟩:=Ar.by Tryz.func86 b86 p86 Tryz.ntmps86 (by rw[Tryz.results86]) (by kernel_rfl)
theorem b87:(match Tryz.f87.body with | some c=>BF c c87 | none=>none)=some c87:=by kernel_rfl
theorem p87:(match Tryz.f87.body with | some c=>AU [0] c | none=>false)=true:=by kernel_rfl
theorem Afz:Ar Tryz.prog [0] 87 ⟨5,c87,[.tmp 2]⟩:=Ar.by Tryz.func87 b87 p87 Tryz.ntmps87 (by rw[Tryz.results87]) (by kernel_rfl)
theorem b88:(match Tryz.f88.body with | some c=>BF c c88 | none=>none)=some c88:=by kernel_rfl
theorem p88:(match Tryz.f88.body with | some c=>AU [0] c | none=>false)=true:=by kernel_rfl
theorem AfA:Ar Tryz.prog [0] 88 ⟨11,c88,[]⟩:=Ar.by Tryz.func88 b88 p88 Tryz.ntmps88 (by rw[Tryz.results88]) (by kernel_rfl)
theorem b89:(match Tryz.f89.body with | some c=>BF c c89 | none=>none)=some c89:=by kernel_rfl
theorem p89:(match Tryz.f89.body with | some c=>AU [0] c | none=>false)=true:=by kernel_rfl
theorem AfB:Ar Tryz.prog [0] 89 ⟨16,c89,[]⟩:=Ar.by Tryz.func89 b89 p89 Tryz.ntmps89 (by rw[Tryz.results89]) (by kernel_rfl)
theorem b90:(match Tryz.f90.body with | some c=>BF c c90 | none=>none)=some c90:=by kernel_rfl
theorem p90:(match Tryz.f90.body with | some c=>AU [0] c | none=>false)=true:=by kernel_rfl
theorem qV:Ar Tryz.prog [0] 90 ⟨20,c90,[.tmp 4]⟩:=Ar.by Tryz.func90 b90 p90 Tryz.ntmps90 (by rw[Tryz.results90]) (by kernel_rfl)
theorem b91:(match Tryz.f91.body with | some c=>BF c c91 | none=>none)=some c91:=by kernel_rfl
theorem p91:(match Tryz.f91.body with | some c=>AU [0] c | none=>false)=true:=by kernel_rfl
theorem qW:Ar Tryz.prog [0] 91 ⟨25,c91,[.tmp 2]⟩:=Ar.by Tryz.func91 b91 p91 Tryz.ntmps91 (by rw[Tryz.results91]) (by kernel_rfl)
theorem b92:(match Tryz.f92.body with | some c=>BF c c92 | none=>none)=some c92:=by kernel_rfl
theorem p92:(match Tryz.f92.body with | some c=>AU [0] c | none=>false)=true:=by kernel_rfl
theorem qX:Ar Tryz.prog [0] 92 ⟨25,c92,[.tmp 2]⟩:=Ar.by Tryz.func92 b92 p92 Tryz.ntmps92 (by rw[Tryz.results92]) (by kernel_rfl)
theorem b93:(match Tryz.f93.body with | some c=>BF c c93 | none=>none)=some c93:=by kernel_rfl
theorem p93:(match Tryz.f93.body with | some c=>AU [0] c | none=>false)=true:=by kernel_rfl
theorem qY:Ar Tryz.prog [0] 93 ⟨67,c93,[.tmp 10,.tmp 11]⟩:=Ar.by Tryz.func93 b93 p93 Tryz.ntmps93 (by rw[Tryz.results93]) (by kernel_rfl)
theorem b94:(match Tryz.f94.body with | some c=>BF c c94 | none=>none)=some c94:=by kernel_rfl
theorem p94:(match Tryz.f94.body with | some c=>AU [0] c | none=>false)=true:=by kernel_rfl
theorem AfC:Ar Tryz.prog [0] 94 ⟨148,c94,[]⟩:=Ar.by Tryz.func94 b94 p94 Tryz.ntmps94 (by rw[Tryz.results94]) (by kernel_rfl)
theorem b95:(match Tryz.f95.body with | some c=>BF c c95 | none=>none)=some c95:=by kernel_rfl
theorem p95:(match Tryz.f95.body with | some c=>AU [0] c | none=>false)=true:=by kernel_rfl
theorem AfD:Ar Tryz.prog [0] 95 ⟨8,c95,[.tmp 2]⟩:=Ar.by Tryz.func95 b95 p95 Tryz.ntmps95 (by rw[Tryz.results95]) (by kernel_rfl)
theorem b96:(match Tryz.f96.body with | some c=>BF c c96 | none=>none)=some c96:=by kernel_rfl
theorem p96:(match Tryz.f96.body with | some c=>AU [0] c | none=>false)=true:=by kernel_rfl
theorem AfE:Ar Tryz.prog [0] 96 ⟨28,c96,[]⟩:=Ar.by Tryz.func96 b96 p96 Tryz.ntmps96 (by rw[Tryz.results96]) (by kernel_rfl)
theorem b97:(match Tryz.f97.body with | some c=>BF c c97 | none=>none)=some c97:=by kernel_rfl
theorem p97:(match Tryz.f97.body with | some c=>AU [0] c | none=>false)=true:=by kernel_rfl
theorem AfF:Ar Tryz.prog [0] 97 ⟨34,c97,[.tmp 4]⟩:=Ar.by Tryz.func97 b97 p97 Tryz.ntmps97 (by rw[Tryz.results97]) (by kernel_rfl)
theorem AiV:(match Tryz.f100.body with | some c=>BF c lU | none=>none)=some lU:=by kernel_rfl
theorem AiW:(match Tryz.f100.body with | some c=>AU [0] c | none=>false)=true:=by kernel_rfl
theorem AaN:Ar Tryz.prog [0] 100 ⟨134,lU,[]⟩:=Ar.by Tryz.func100 AiV AiW Tryz.ntmps100 (by rw[Tryz.results100]) (by kernel_rfl)
theorem AiX:(match Tryz.f101.body with | some c=>BF c fC | none=>none)=some fC:=by kernel_rfl
theorem AaO:(match Tryz.f101.body with | some c=>AU [0] c | none=>false)=true:=by kernel_rfl
theorem fD:Ar Tryz.prog [0] 101 ⟨6,fC,[.tmp 2]⟩:=Ar.by Tryz.func101 AiX AaO Tryz.ntmps101 (by rw[Tryz.results101]) (by kernel_rfl)
theorem AiY:(match Tryz.f102.body with | some c=>BF c lV | none=>none)=some lV:=by kernel_rfl
theorem AiZ:(match Tryz.f102.body with | some c=>AU [0] c | none=>false)=true:=by kernel_rfl
theorem AaP:Ar Tryz.prog [0] 102 ⟨53,lV,[]⟩:=Ar.by Tryz.func102 AiY AiZ Tryz.ntmps102 (by rw[Tryz.results102]) (by kernel_rfl)
end Go.Proofs.YtokbaaeimejjlaaGreatDoor.BkV
set_option maxRecDepth 100000
namespace Go.Proofs.YtokbaaeimejjlaaGreatDoor.BkV
open Go Go.Sp Go.BkV
theorem Ai0:(match Tryz.f110.body with | some c=>BF c lW | none=>none)=some lW:=by kernel_rfl
theorem Ai1:(match Tryz.f110.body with | some c=>AU [0] c | none=>false)=true:=by kernel_rfl
theorem AaQ:Ar Tryz.prog [0] 110 ⟨19,lW,[.tmp 2]⟩:=Ar.by Tryz.func110 Ai0 Ai1 Tryz.ntmps110 (by rw[Tryz.results110]) (by kernel_rfl)
theorem Ai2:(match Tryz.f111.body with | some c=>BF c lX | none=>none)=some lX:=by kernel_rfl
theorem Ai3:(match Tryz.f111.body with | some c=>AU [0] c | none=>false)=true:=by kernel_rfl
theorem AaR:Ar Tryz.prog [0] 111 ⟨25,lX,[.tmp 2]⟩:=Ar.by Tryz.func111 Ai2 Ai3 Tryz.ntmps111 (by rw[Tryz.results111]) (by kernel_rfl)
theorem Ai4:(match Tryz.f113.body with | some c=>BF c lY | none=>none)=some lY:=by kernel_rfl
theorem Ai5:(match Tryz.f113.body with | some c=>AU [0] c | none=>false)=true:=by kernel_rfl
theorem AaS:Ar Tryz.prog [0] 113 ⟨49,lY,[]⟩:=Ar.by Tryz.func113 Ai4 Ai5 Tryz.ntmps113 (by rw[Tryz.results113]) (by kernel_rfl)
theorem Ai7:(match Tryz.f119.body with | some c=>BF c lZ | none=>none)=some lZ:=by kernel_rfl
theorem Ajb:(match Tryz.f119.body with | some c=>AU [0] c | none=>false)=true:=by kernel_rfl
theorem AaT:Ar Tryz.prog [0] 119 ⟨17,lZ,[.tmp 4]⟩:=Ar.by Tryz.func119 Ai7 Ajb Tryz.ntmps119 (by rw[Tryz.results119]) (by kernel_rfl)
end Go.Proofs.YtokbaaeimejjlaaGreatDoor.BkV
set_option maxRecDepth 100000
namespace Go.Proofs.YtokbaaeimejjlaaGreatDoor.BkV
open Go Go.Sp Go.BkV
theorem Ajc:Cu Tryz.prog 3 ti3:=Cu.by Tryz.underlying3 (inf:=Tryz.t3) (by kernel_rfl) (by kernel_rfl) (by kernel_rfl) (by kernel_rfl) (by kernel_rfl) (fun h=>by cases h)
theorem Ajd:Cu Tryz.prog 4 ti4:=Cu.by Tryz.underlying4 (inf:=Tryz.t4) (by kernel_rfl) (by kernel_rfl) (by kernel_rfl) (by kernel_rfl) (by kernel_rfl) (fun h=>by cases h)
theorem Aje:Cu Tryz.prog 5 ti5:=Cu.by Tryz.underlying5 (inf:=Tryz.t5) (by kernel_rfl) (by kernel_rfl) (by kernel_rfl) (by kernel_rfl) (by kernel_rfl) (fun h=>by cases h)
theorem Ajf:Cu Tryz.prog 9 ti9:=Cu.by Tryz.underlying9 (inf:=Tryz.t9) (by kernel_rfl) (by kernel_rfl) (by kernel_rfl) (by kernel_rfl) (by kernel_rfl) (fun h=>by cases h)
theorem AfG:Cu Tryz.prog 22 AeP:=Cu.by Tryz.underlying22 (inf:=Tryz.t22) (by kernel_rfl) (by kernel_rfl) (by kernel_rfl) (by kernel_rfl) (by kernel_rfl) (fun h=>by cases h)
theorem AfH:Cu Tryz.prog 24 AeQ:=Cu.by Tryz.underlying24 (inf:=Tryz.t24) (by kernel_rfl) (by kernel_rfl) (by kernel_rfl) (by kernel_rfl) (by kernel_rfl) (fun h=>by cases h)
theorem AfI:Cu Tryz.prog 27 AeR:=Cu.by Tryz.underlying27 (inf:=Tryz.t27) (by kernel_rfl) (by kernel_rfl) (by kernel_rfl) (by kernel_rfl) (by kernel_rfl) (fun h=>by cases h)
theorem AfJ:Cu Tryz.prog 28 AeS:=Cu.by Tryz.underlying28 (inf:=Tryz.t28) (by kernel_rfl) (by kernel_rfl) (by kernel_rfl) (by kernel_rfl) (by kernel_rfl) (fun h=>by cases h)
theorem AfK:Cu Tryz.prog 37 AeT:=Cu.by Tryz.underlying37 (inf:=Tryz.t37) (by kernel_rfl) (by kernel_rfl) (by kernel_rfl) (by kernel_rfl) (by kernel_rfl) (fun h=>by cases h)
theorem AfL:Cu Tryz.prog 39 AeU:=Cu.by Tryz.underlying39 (inf:=Tryz.t39) (by kernel_rfl) (by kernel_rfl) (by kernel_rfl) (by kernel_rfl) (by kernel_rfl) (fun h=>by cases h)
theorem AfM:Cu Tryz.prog 64 AeV:=Cu.by Tryz.underlying64 (inf:=Tryz.t64) (by kernel_rfl) (by kernel_rfl) (by kernel_rfl) (by kernel_rfl) (by kernel_rfl) (fun h=>by cases h)
theorem AfN:Cu Tryz.prog 69 AeW:=Cu.by Tryz.underlying69 (inf:=Tryz.t69) (by kernel_rfl) (by kernel_rfl) (by kernel_rfl) (by kernel_rfl) (by kernel_rfl) (fun h=>by cases h)
theorem AfO:Cu Tryz.prog 74 AeX:=Cu.by Tryz.underlying74 (inf:=Tryz.t74) (by kernel_rfl) (by kernel_rfl) (by kernel_rfl) (by kernel_rfl) (by kernel_rfl) (fun h=>by cases h)
theorem AfP:Cu Tryz.prog 84 AeY:=Cu.by Tryz.underlying84 (inf:=Tryz.t84) (by kernel_rfl) (by kernel_rfl) (by kernel_rfl) (by kernel_rfl) (by kernel_rfl) (fun _=>⟨_,rfl,Fl.ok (d:=8) (⟨by kernel_rfl,.inr (.inr (.inr (.inl ⟨17,3,[(.int .i64 0)],Tryz.underlying84,⟨by kernel_rfl,.inl ⟨⟨_,Tryz.underlying3⟩,_,_,rfl⟩⟩,by kernel_rfl⟩)))⟩) (by decide) ⟨_,Tryz.underlying84,rfl⟩ (by kernel_rfl)⟩)
theorem AfQ:Cu Tryz.prog 86 AeZ:=Cu.by Tryz.underlying86 (inf:=Tryz.t86) (by kernel_rfl) (by kernel_rfl) (by kernel_rfl) (by kernel_rfl) (by kernel_rfl) (fun h=>by cases h)
theorem AfR:Cu Tryz.prog 87 Ae0:=Cu.by Tryz.underlying87 (inf:=Tryz.t87) (by kernel_rfl) (by kernel_rfl) (by kernel_rfl) (by kernel_rfl) (by kernel_rfl) (fun h=>by cases h)
theorem AfS:Cu Tryz.prog 89 Ae1:=Cu.by Tryz.underlying89 (inf:=Tryz.t89) (by kernel_rfl) (by kernel_rfl) (by kernel_rfl) (by kernel_rfl) (by kernel_rfl) (fun h=>by cases h)
theorem AfT:Cu Tryz.prog 92 Ae2:=Cu.by Tryz.underlying92 (inf:=Tryz.t92) (by kernel_rfl) (by kernel_rfl) (by kernel_rfl) (by kernel_rfl) (by kernel_rfl) (fun h=>by cases h)
theorem AfU:Cu Tryz.prog 99 Ae3:=Cu.by Tryz.underlying99 (inf:=Tryz.t99) (by kernel_rfl) (by kernel_rfl) (by kernel_rfl) (by kernel_rfl) (by kernel_rfl) (fun _=>⟨_,rfl,Fl.ok (d:=8) (⟨by kernel_rfl,.inr (.inr (.inr (.inr ⟨_,Tryz.underlying99,by kernel_rfl,⟨by decide,rfl,[(.int .i64 0)],[(.bool false)],rfl,⟨by kernel_rfl,.inl ⟨⟨_,Tryz.underlying3⟩,_,_,rfl⟩⟩,⟨by decide,rfl,[(.bool false)],[],rfl,⟨by kernel_rfl,.inr (.inl ⟨Tryz.underlying4,_,rfl⟩)⟩,rfl⟩⟩⟩)))⟩) (by decide) ⟨_,Tryz.underlying99,rfl⟩ (by kernel_rfl)⟩)
theorem AaZ:Cu Tryz.prog 110 nW:=Cu.by Tryz.underlying110 (inf:=Tryz.t110) (by kernel_rfl) (by kernel_rfl) (by kernel_rfl) (by kernel_rfl) (by kernel_rfl) (fun h=>by cases h)
theorem Aa0:Cu Tryz.prog 112 nX:=Cu.by Tryz.underlying112 (inf:=Tryz.t112) (by kernel_rfl) (by kernel_rfl) (by kernel_rfl) (by kernel_rfl) (by kernel_rfl) (fun _=>⟨_,rfl,Fl.ok (d:=8) (⟨by kernel_rfl,.inr (.inr (.inr (.inl ⟨32,5,[(.int .u8 0)],Tryz.underlying112,⟨by kernel_rfl,.inl ⟨⟨_,Tryz.underlying5⟩,_,_,rfl⟩⟩,by kernel_rfl⟩)))⟩) (by decide) ⟨_,Tryz.underlying112,rfl⟩ (by kernel_rfl)⟩)
theorem Aa1:Cu Tryz.prog 113 nY:=Cu.by Tryz.underlying113 (inf:=Tryz.t113) (by kernel_rfl) (by kernel_rfl) (by kernel_rfl) (by kernel_rfl) (by kernel_rfl) (fun h=>by cases h)
theorem Aa2:Cu Tryz.prog 114 nZ:=Cu.by Tryz.underlying114 (inf:=Tryz.t114) (by kernel_rfl) (by kernel_rfl) (by kernel_rfl) (by kernel_rfl) (by kernel_rfl) (fun h=>by cases h)
theorem Aa3:Cu Tryz.prog 123 oD:=Cu.by Tryz.underlying123 (inf:=Tryz.t123) (by kernel_rfl) (by kernel_rfl) (by kernel_rfl) (by kernel_rfl) (by kernel_rfl) (fun h=>by cases h)
theorem Aa4:Cu Tryz.prog 132 oF:=Cu.by Tryz.underlying132 (inf:=Tryz.t132) (by kernel_rfl) (by kernel_rfl) (by kernel_rfl) (by kernel_rfl) (by kernel_rfl) (fun h=>by cases h)
theorem Dn:Jm Tryz.prog tt:=Jm.of_all (t:=Ae4) ⟨trivial,⟨trivial,⟨Ajc,⟨trivial,trivial,⟨trivial,⟨AfL,trivial,trivial⟩,⟨trivial,⟨AfR,trivial,trivial⟩,trivial⟩⟩⟩,⟨trivial,⟨trivial,⟨trivial,trivial,⟨AfU,trivial,trivial⟩⟩,trivial⟩,⟨AfI,trivial,⟨trivial,trivial,⟨Aa3,trivial,trivial⟩⟩⟩⟩⟩,⟨Aje,⟨Ajf,⟨trivial,trivial,⟨trivial,trivial,⟨Aa1,trivial,trivial⟩⟩⟩,⟨trivial,trivial,⟨trivial,⟨AfS,trivial,trivial⟩,trivial⟩⟩⟩,⟨trivial,⟨trivial,⟨AfK,⟨AfN,trivial,trivial⟩,trivial⟩,trivial⟩,trivial⟩⟩⟩,⟨trivial,⟨Ajd,⟨trivial,⟨trivial,⟨trivial,⟨AfM,trivial,trivial⟩,trivial⟩,⟨trivial,trivial,⟨Aa0,trivial,trivial⟩⟩⟩,⟨AfH,trivial,trivial⟩⟩,⟨trivial,⟨trivial,⟨trivial,⟨trivial,⟨Aa4,trivial,trivial⟩,trivial⟩,trivial⟩,⟨trivial,⟨AfP,trivial,trivial⟩,trivial⟩⟩,⟨AfJ,trivial,⟨trivial,⟨AfT,trivial,trivial⟩,trivial⟩⟩⟩⟩,⟨trivial,⟨trivial,⟨trivial,trivial,⟨trivial,trivial,⟨Aa2,trivial,trivial⟩⟩⟩,⟨trivial,⟨trivial,⟨AfO,trivial,trivial⟩,trivial⟩,trivial⟩⟩,⟨trivial,⟨AfG,trivial,⟨trivial,⟨AfQ,trivial,trivial⟩,trivial⟩⟩,⟨trivial,⟨trivial,trivial,⟨AaZ,trivial,trivial⟩⟩,trivial⟩⟩⟩⟩⟩
theorem AfV:Ae5.All (Ar Tryz.prog [0]):=⟨trivial,⟨trivial,⟨trivial,⟨trivial,⟨Afa,⟨oK,trivial,⟨AfD,trivial,trivial⟩⟩,⟨oQ,⟨Afv,trivial,trivial⟩,⟨AaR,trivial,trivial⟩⟩⟩,⟨Afe,⟨Afi,⟨pO,trivial,trivial⟩,trivial⟩,⟨oZ,⟨Afz,trivial,trivial⟩,⟨AaT,trivial,trivial⟩⟩⟩⟩,⟨Ae8,⟨trivial,⟨trivial,⟨pJ,trivial,trivial⟩,trivial⟩,⟨oW,⟨Afx,trivial,trivial⟩,trivial⟩⟩,⟨Afg,⟨oO,⟨pW,trivial,trivial⟩,trivial⟩,⟨pE,⟨qW,trivial,trivial⟩,trivial⟩⟩⟩⟩,⟨trivial,⟨Ae7,⟨oH,⟨Afh,⟨pG,trivial,trivial⟩,⟨AfF,trivial,trivial⟩⟩,⟨Afo,⟨qC,trivial,trivial⟩,⟨AaS,trivial,trivial⟩⟩⟩,⟨Aff,⟨Afk,⟨pR,trivial,trivial⟩,trivial⟩,⟨trivial,⟨AfB,trivial,trivial⟩,trivial⟩⟩⟩,⟨Ae9,⟨trivial,⟨trivial,⟨pK,trivial,trivial⟩,⟨fD,trivial,trivial⟩⟩,⟨trivial,⟨Afy,trivial,trivial⟩,trivial⟩⟩,⟨oI,⟨Afn,⟨pY,trivial,trivial⟩,trivial⟩,⟨Afs,⟨qY,trivial,trivial⟩,trivial⟩⟩⟩⟩⟩,⟨trivial,⟨trivial,⟨trivial,⟨trivial,⟨oL,trivial,⟨AfE,trivial,trivial⟩⟩,⟨oU,⟨qB,trivial,trivial⟩,trivial⟩⟩,⟨trivial,⟨Afj,⟨pQ,trivial,trivial⟩,trivial⟩,⟨Afq,⟨AfA,trivial,trivial⟩,trivial⟩⟩⟩,⟨trivial,⟨Afc,⟨oN,⟨Afu,trivial,trivial⟩,⟨AaN,trivial,trivial⟩⟩,⟨Afp,⟨qR,trivial,trivial⟩,trivial⟩⟩,⟨trivial,⟨Afm,⟨pX,trivial,trivial⟩,trivial⟩,⟨Afr,⟨qX,trivial,trivial⟩,trivial⟩⟩⟩⟩,⟨Ae6,⟨oG,⟨Afb,⟨oM,⟨pI,trivial,trivial⟩,trivial⟩,⟨oV,⟨Afw,trivial,trivial⟩,trivial⟩⟩,⟨trivial,⟨Afl,⟨pV,trivial,trivial⟩,trivial⟩,⟨trivial,⟨qV,trivial,trivial⟩,trivial⟩⟩⟩,⟨trivial,⟨Afd,⟨trivial,⟨pM,trivial,trivial⟩,⟨AaP,trivial,trivial⟩⟩,⟨trivial,⟨qU,trivial,trivial⟩,trivial⟩⟩,⟨oJ,⟨oP,trivial,⟨AaQ,trivial,trivial⟩⟩,⟨pF,⟨AfC,trivial,trivial⟩,trivial⟩⟩⟩⟩⟩⟩
theorem VL (f:FuncId) (r:Xq) (h:KT f=some r):Ar Tryz.prog [0] f r:=AfV.get h
end Go.Proofs.YtokbaaeimejjlaaGreatDoor.BkV
namespace Go.Proofs
open Go.Shelf
def Tryz.lays189_ren:Go.Shelf.Ren:=⟨fun | 189=>88 | 125=>95 | 257=>100 | 128=>110 | 129=>111 | 294=>113 | 295=>114 | 296=>115 | 297=>116 | 298=>117 | 299=>118 | 216=>119 | 300=>120 | 301=>121 | 328=>128 | 329=>123 | 330=>124 | 331=>129 | 332=>130 | 215=>101 | 343=>132 | n=>n,fun | 28=>22 | 3=>3 | 46=>114 | 0=>0 | 51=>113 | 53=>132 | 4=>4 | 183=>124 | 182=>123 | 131=>128 | 5=>5 | 9=>9 | 218=>142 | 222=>146 | 228=>151 | 229=>116 | n=>n,fun | n=>n⟩
theorem Tryz.lays189:Go.Proofs.Lays.n189 Tryz.prog Tryz.lays189_ren:={
 mixed:=by kernel_rfl
 f125:=Tryz.func95.trans (congrArg some (by kernel_rfl))
 f128:=Tryz.func110.trans (congrArg some (by kernel_rfl))
 f129:=Tryz.func111.trans (congrArg some (by kernel_rfl))
 f189:=Tryz.func88.trans (congrArg some (by kernel_rfl))
 f215:=Tryz.func101.trans (congrArg some (by kernel_rfl))
 f216:=Tryz.func119.trans (congrArg some (by kernel_rfl))
 f257:=Tryz.func100.trans (congrArg some (by kernel_rfl))
 f294:=Tryz.func113.trans (congrArg some (by kernel_rfl))
 f295:=Tryz.func114.trans (congrArg some (by kernel_rfl))
 f296:=Tryz.func115.trans (congrArg some (by kernel_rfl))
 f297:=Tryz.func116.trans (congrArg some (by kernel_rfl))
 f298:=Tryz.func117.trans (congrArg some (by kernel_rfl))
 f299:=Tryz.func118.trans (congrArg some (by kernel_rfl))
 f300:=Tryz.func120.trans (congrArg some (by kernel_rfl))
 f301:=Tryz.func121.trans (congrArg some (by kernel_rfl))
 f328:=Tryz.func128.trans (congrArg some (by kernel_rfl))
 f329:=Tryz.func123.trans (congrArg some (by kernel_rfl))
 f330:=Tryz.func124.trans (congrArg some (by kernel_rfl))
 f331:=Tryz.func129.trans (congrArg some (by kernel_rfl))
 f332:=Tryz.func130.trans (congrArg some (by kernel_rfl))
 f343:=Tryz.func132.trans (congrArg some (by kernel_rfl))
 t0:=Tryz.underlying0
 a0:=Tryz.isAgg0
 z0:=Tryz.sizeOf0
 v0:=Tryz.zeroValue0
 t3:=Tryz.underlying3
 a3:=Tryz.isAgg3
 z3:=Tryz.sizeOf3
 v3:=Tryz.zeroValue3
 t4:=Tryz.underlying4
 a4:=Tryz.isAgg4
 z4:=Tryz.sizeOf4
 v4:=Tryz.zeroValue4
 t5:=Tryz.underlying5
 a5:=Tryz.isAgg5
 z5:=Tryz.sizeOf5
 v5:=Tryz.zeroValue5
 t9:=Tryz.underlying9
 a9:=Tryz.isAgg9
 z9:=Tryz.sizeOf9
 v9:=Tryz.zeroValue9
 t28:=Tryz.underlying22
 a28:=Tryz.isAgg22
 z28:=Tryz.sizeOf22
 v28:=Tryz.zeroValue22
 t46:=Tryz.underlying114
 a46:=Tryz.isAgg114
 z46:=Tryz.sizeOf114
 v46:=Tryz.zeroValue114
 t51:=Tryz.underlying113
 a51:=Tryz.isAgg113
 z51:=Tryz.sizeOf113
 v51:=Tryz.zeroValue113
 t53:=Tryz.underlying132
 a53:=Tryz.isAgg132
 z53:=Tryz.sizeOf132
 v53:=Tryz.zeroValue132
 t131:=Tryz.underlying128
 a131:=Tryz.isAgg128
 z131:=Tryz.sizeOf128
 v131:=Tryz.zeroValue128
 t182:=Tryz.underlying123
 a182:=Tryz.isAgg123
 z182:=Tryz.sizeOf123
 v182:=Tryz.zeroValue123
 t183:=Tryz.underlying124
 a183:=Tryz.isAgg124
 z183:=Tryz.sizeOf124
 v183:=Tryz.zeroValue124
 t218:=Tryz.underlying142
 a218:=Tryz.isAgg142
 z218:=Tryz.sizeOf142
 v218:=Tryz.zeroValue142
 t222:=Tryz.underlying146
 a222:=Tryz.isAgg146
 z222:=Tryz.sizeOf146
 v222:=Tryz.zeroValue146
 t228:=Tryz.underlying151
 a228:=Tryz.isAgg151
 z228:=Tryz.sizeOf151
 v228:=Tryz.zeroValue151
 t229:=Tryz.underlying116
 a229:=Tryz.isAgg116
 z229:=Tryz.sizeOf116
 v229:=Tryz.zeroValue116 }
open Go.Sort Go.RowKit in
theorem Tryz.slices_Sort_int (blk off cap:Nat) (zs:List Int) (w:World) (hH:Holds (Value.int .i64) w blk off zs.toArray) (hblk:blk < w.heap.size) (hsz:zs.length < 4611686018427387904) :
 Calls Tryz.prog 88 #[.slice (some ⟨blk,off,none⟩) zs.length cap] w fun e w'=>
  e = .returned (.tuple #[])∧∃ n os,w'=grow (putRow (Value.int .i64) (Sort.ahead w n) blk off (zs.mergeSort fun x y=>decide (x≤y)).toArray) os:=Any.slices_Sort_int Tryz.lays189 blk off cap zs w hH hblk hsz
end Go.Proofs
