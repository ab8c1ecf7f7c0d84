/- Made from wip. -/
import Derived.Test.YtflonlkiajhhjaaProg
import Derived.Test.YtflonlkiajhhjaaSpObjx
import Derived.Test.YtflonlkiajhhjaaTpMCode
import Derived.Test.YtflonlkiajhhjaaTpMPu

set_option maxRecDepth 100000
namespace Go.Proofs.Ytflonlkiajhhjaa.TpM
open Go Go.Sp Go.TpM
theorem b4:(match Try.f4.body with | some c=>BF c c4 | none=>none)=some c4:=by kernel_rfl
theorem p4:(match Try.f4.body with | some c=>AU [] c | none=>false)=true:=by kernel_rfl
theorem Ae9:Ar Try.prog [] 4 ⟨367,c4,[.tmp 10]⟩:=Ar.by Try.func4 b4 p4 Try.ntmps4 (by rw[Try.results4]) (by kernel_rfl)
theorem b5:(match Try.f5.body with | some c=>BF c c5 | none=>none)=some c5:=by kernel_rfl
theorem p5:(match Try.f5.body with | some c=>AU [] c | none=>false)=true:=by kernel_rfl
theorem Afa:Ar Try.prog [] 5 ⟨4,c5,[.tmp 2]⟩:=Ar.by Try.func5 b5 p5 Try.ntmps5 (by rw[Try.results5]) (by kernel_rfl)
theorem b10:(match Try.f10.body with | some c=>BF c c10 | none=>none)=some c10:=by kernel_rfl
theorem p10:(match Try.f10.body with | some c=>AU [] c | none=>false)=true:=by kernel_rfl
theorem Xf:Ar Try.prog [] 10 ⟨30,c10,[.tmp 2,.tmp 3]⟩:=Ar.by Try.func10 b10 p10 Try.ntmps10 (by rw[Try.results10]) (by kernel_rfl)
theorem b11:(match Try.f11.body with | some c=>BF c c11 | none=>none)=some c11:=by kernel_rfl
theorem p11:(match Try.f11.body with | some c=>AU [] c | none=>false)=true:=by kernel_rfl
theorem XL:Ar Try.prog [] 11 ⟨32,c11,[.tmp 2,.tmp 3]⟩:=Ar.by Try.func11 b11 p11 Try.ntmps11 (by rw[Try.results11]) (by kernel_rfl)
theorem b12:(match Try.f12.body with | some c=>BF c c12 | none=>none)=some c12:=by kernel_rfl
theorem p12:(match Try.f12.body with | some c=>AU [] c | none=>false)=true:=by kernel_rfl
theorem XM:Ar Try.prog [] 12 ⟨56,c12,[.tmp 0]⟩:=Ar.by Try.func12 b12 p12 Try.ntmps12 (by rw[Try.results12]) (by kernel_rfl)
theorem b13:(match Try.f13.body with | some c=>BF c c13 | none=>none)=some c13:=by kernel_rfl
theorem p13:(match Try.f13.body with | some c=>AU [] c | none=>false)=true:=by kernel_rfl
theorem ZM:Ar Try.prog [] 13 ⟨34,c13,[.tmp 6,.tmp 7]⟩:=Ar.by Try.func13 b13 p13 Try.ntmps13 (by rw[Try.results13]) (by kernel_rfl)
theorem b14:(match Try.f14.body with | some c=>BF c c14 | none=>none)=some c14:=by kernel_rfl
theorem p14:(match Try.f14.body with | some c=>AU [] c | none=>false)=true:=by kernel_rfl
theorem ZN:Ar Try.prog [] 14 ⟨76,c14,[.tmp 4]⟩:=Ar.by Try.func14 b14 p14 Try.ntmps14 (by rw[Try.results14]) (by kernel_rfl)
theorem b15:(match Try.f15.body with | some c=>BF c c15 | none=>none)=some c15:=by kernel_rfl
theorem p15:(match Try.f15.body with | some c=>AU [] c | none=>false)=true:=by kernel_rfl
theorem ZO:Ar Try.prog [] 15 ⟨23,c15,[.tmp 4,.tmp 5]⟩:=Ar.by Try.func15 b15 p15 Try.ntmps15 (by rw[Try.results15]) (by kernel_rfl)
theorem b16:(match Try.f16.body with | some c=>BF c c16 | none=>none)=some c16:=by kernel_rfl
theorem p16:(match Try.f16.body with | some c=>AU [] c | none=>false)=true:=by kernel_rfl
theorem ZP:Ar Try.prog [] 16 ⟨107,c16,[.tmp 4]⟩:=Ar.by Try.func16 b16 p16 Try.ntmps16 (by rw[Try.results16]) (by kernel_rfl)
theorem b17:(match Try.f17.body with | some c=>BF c c17 | none=>none)=some c17:=by kernel_rfl
theorem p17:(match Try.f17.body with | some c=>AU [] c | none=>false)=true:=by kernel_rfl
theorem ZQ:Ar Try.prog [] 17 ⟨26,c17,[.tmp 4]⟩:=Ar.by Try.func17 b17 p17 Try.ntmps17 (by rw[Try.results17]) (by kernel_rfl)
theorem b18:(match Try.f18.body with | some c=>BF c c18 | none=>none)=some c18:=by kernel_rfl
theorem p18:(match Try.f18.body with | some c=>AU [] c | none=>false)=true:=by kernel_rfl
theorem ZR:Ar Try.prog [] 18 ⟨26,c18,[.tmp 4,.tmp 5,.tmp 6]⟩:=Ar.by Try.func18 b18 p18 Try.ntmps18 (by rw[Try.results18]) (by kernel_rfl)
theorem b19:(match Try.f19.body with | some c=>BF c c19 | none=>none)=some c19:=by kernel_rfl
theorem p19:(match Try.f19.body with | some c=>AU [] c | none=>false)=true:=by kernel_rfl
theorem ZT:Ar Try.prog [] 19 ⟨33,c19,[.tmp 4,.tmp 5]⟩:=Ar.by Try.func19 b19 p19 Try.ntmps19 (by rw[Try.results19]) (by kernel_rfl)
theorem b20:(match Try.f20.body with | some c=>BF c c20 | none=>none)=some c20:=by kernel_rfl
theorem p20:(match Try.f20.body with | some c=>AU [] c | none=>false)=true:=by kernel_rfl
theorem bI:Ar Try.prog [] 20 ⟨28,c20,[.tmp 4]⟩:=Ar.by Try.func20 b20 p20 Try.ntmps20 (by rw[Try.results20]) (by kernel_rfl)
theorem b25:(match Try.f25.body with | some c=>BF c c25 | none=>none)=some c25:=by kernel_rfl
theorem p25:(match Try.f25.body with | some c=>AU [] c | none=>false)=true:=by kernel_rfl
theorem Afb:Ar Try.prog [] 25 ⟨39,c25,[.tmp 2,.tmp 3]⟩:=Ar.by Try.func25 b25 p25 Try.ntmps25 (by rw[Try.results25]) (by kernel_rfl)
theorem b27:(match Try.f27.body with | some c=>BF c c27 | none=>none)=some c27:=by kernel_rfl
theorem p27:(match Try.f27.body with | some c=>AU [] c | none=>false)=true:=by kernel_rfl
theorem bJ:Ar Try.prog [] 27 ⟨35,c27,[.cell 2 74,.tmp 3]⟩:=Ar.by Try.func27 b27 p27 Try.ntmps27 (by rw[Try.results27]) (by kernel_rfl)
theorem b28:(match Try.f28.body with | some c=>BF c c28 | none=>none)=some c28:=by kernel_rfl
theorem p28:(match Try.f28.body with | some c=>AU [] c | none=>false)=true:=by kernel_rfl
theorem Afc:Ar Try.prog [] 28 ⟨55,c28,[]⟩:=Ar.by Try.func28 b28 p28 Try.ntmps28 (by rw[Try.results28]) (by kernel_rfl)
theorem b29:(match Try.f29.body with | some c=>BF c c29 | none=>none)=some c29:=by kernel_rfl
theorem p29:(match Try.f29.body with | some c=>AU [] c | none=>false)=true:=by kernel_rfl
theorem Afd:Ar Try.prog [] 29 ⟨20,c29,[.tmp 9]⟩:=Ar.by Try.func29 b29 p29 Try.ntmps29 (by rw[Try.results29]) (by kernel_rfl)
theorem b30:(match Try.f30.body with | some c=>BF c c30 | none=>none)=some c30:=by kernel_rfl
theorem p30:(match Try.f30.body with | some c=>AU [] c | none=>false)=true:=by kernel_rfl
theorem Afe:Ar Try.prog [] 30 ⟨15,c30,[.tmp 6]⟩:=Ar.by Try.func30 b30 p30 Try.ntmps30 (by rw[Try.results30]) (by kernel_rfl)
theorem b31:(match Try.f31.body with | some c=>BF c c31 | none=>none)=some c31:=by kernel_rfl
theorem p31:(match Try.f31.body with | some c=>AU [] c | none=>false)=true:=by kernel_rfl
theorem bM:Ar Try.prog [] 31 ⟨29,c31,[.tmp 2]⟩:=Ar.by Try.func31 b31 p31 Try.ntmps31 (by rw[Try.results31]) (by kernel_rfl)
theorem b32:(match Try.f32.body with | some c=>BF c c32 | none=>none)=some c32:=by kernel_rfl
theorem p32:(match Try.f32.body with | some c=>AU [] c | none=>false)=true:=by kernel_rfl
theorem bN:Ar Try.prog [] 32 ⟨48,c32,[.tmp 4]⟩:=Ar.by Try.func32 b32 p32 Try.ntmps32 (by rw[Try.results32]) (by kernel_rfl)
theorem b33:(match Try.f33.body with | some c=>BF c c33 | none=>none)=some c33:=by kernel_rfl
theorem p33:(match Try.f33.body with | some c=>AU [] c | none=>false)=true:=by kernel_rfl
theorem bO:Ar Try.prog [] 33 ⟨17,c33,[.tmp 4]⟩:=Ar.by Try.func33 b33 p33 Try.ntmps33 (by rw[Try.results33]) (by kernel_rfl)
theorem b34:(match Try.f34.body with | some c=>BF c c34 | none=>none)=some c34:=by kernel_rfl
theorem p34:(match Try.f34.body with | some c=>AU [] c | none=>false)=true:=by kernel_rfl
theorem Aff:Ar Try.prog [] 34 ⟨16,c34,[.tmp 2,.tmp 3]⟩:=Ar.by Try.func34 b34 p34 Try.ntmps34 (by rw[Try.results34]) (by kernel_rfl)
theorem b35:(match Try.f35.body with | some c=>BF c c35 | none=>none)=some c35:=by kernel_rfl
theorem p35:(match Try.f35.body with | some c=>AU [] c | none=>false)=true:=by kernel_rfl
theorem Afg:Ar Try.prog [] 35 ⟨25,c35,[.tmp 4,.tmp 5,.tmp 6]⟩:=Ar.by Try.func35 b35 p35 Try.ntmps35 (by rw[Try.results35]) (by kernel_rfl)
theorem b36:(match Try.f36.body with | some c=>BF c c36 | none=>none)=some c36:=by kernel_rfl
theorem p36:(match Try.f36.body with | some c=>AU [] c | none=>false)=true:=by kernel_rfl
theorem bP:Ar Try.prog [] 36 ⟨19,c36,[.tmp 4]⟩:=Ar.by Try.func36 b36 p36 Try.ntmps36 (by rw[Try.results36]) (by kernel_rfl)
theorem b37:(match Try.f37.body with | some c=>BF c c37 | none=>none)=some c37:=by kernel_rfl
theorem p37:(match Try.f37.body with | some c=>AU [] c | none=>false)=true:=by kernel_rfl
theorem bQ:Ar Try.prog [] 37 ⟨35,c37,[.tmp 6]⟩:=Ar.by Try.func37 b37 p37 Try.ntmps37 (by rw[Try.results37]) (by kernel_rfl)
end Go.Proofs.Ytflonlkiajhhjaa.TpM
set_option maxRecDepth 100000
namespace Go.Proofs.Ytflonlkiajhhjaa.TpM
open Go Go.Sp Go.TpM
theorem b38:(match Try.f38.body with | some c=>BF c c38 | none=>none)=some c38:=by kernel_rfl
theorem p38:(match Try.f38.body with | some c=>AU [] c | none=>false)=true:=by kernel_rfl
theorem bR:Ar Try.prog [] 38 ⟨15,c38,[.tmp 4,.tmp 5]⟩:=Ar.by Try.func38 b38 p38 Try.ntmps38 (by rw[Try.results38]) (by kernel_rfl)
theorem b39:(match Try.f39.body with | some c=>BF c c39 | none=>none)=some c39:=by kernel_rfl
theorem p39:(match Try.f39.body with | some c=>AU [] c | none=>false)=true:=by kernel_rfl
theorem bS:Ar Try.prog [] 39 ⟨63,c39,[.tmp 6,.tmp 7]⟩:=Ar.by Try.func39 b39 p39 Try.ntmps39 (by rw[Try.results39]) (by kernel_rfl)
theorem b40:(match Try.f40.body with | some c=>BF c c40 | none=>none)=some c40:=by kernel_rfl
theorem p40:(match Try.f40.body with | some c=>AU [] c | none=>false)=true:=by kernel_rfl
theorem bT:Ar Try.prog [] 40 ⟨54,c40,[.tmp 4,.tmp 5]⟩:=Ar.by Try.func40 b40 p40 Try.ntmps40 (by rw[Try.results40]) (by kernel_rfl)
theorem b41:(match Try.f41.body with | some c=>BF c c41 | none=>none)=some c41:=by kernel_rfl
theorem p41:(match Try.f41.body with | some c=>AU [] c | none=>false)=true:=by kernel_rfl
theorem bU:Ar Try.prog [] 41 ⟨19,c41,[.tmp 2]⟩:=Ar.by Try.func41 b41 p41 Try.ntmps41 (by rw[Try.results41]) (by kernel_rfl)
theorem b42:(match Try.f42.body with | some c=>BF c c42 | none=>none)=some c42:=by kernel_rfl
theorem p42:(match Try.f42.body with | some c=>AU [] c | none=>false)=true:=by kernel_rfl
theorem bV:Ar Try.prog [] 42 ⟨110,c42,[.tmp 2,.tmp 3]⟩:=Ar.by Try.func42 b42 p42 Try.ntmps42 (by rw[Try.results42]) (by kernel_rfl)
theorem b43:(match Try.f43.body with | some c=>BF c c43 | none=>none)=some c43:=by kernel_rfl
theorem p43:(match Try.f43.body with | some c=>AU [] c | none=>false)=true:=by kernel_rfl
theorem bW:Ar Try.prog [] 43 ⟨34,c43,[.tmp 4]⟩:=Ar.by Try.func43 b43 p43 Try.ntmps43 (by rw[Try.results43]) (by kernel_rfl)
theorem b44:(match Try.f44.body with | some c=>BF c c44 | none=>none)=some c44:=by kernel_rfl
theorem p44:(match Try.f44.body with | some c=>AU [] c | none=>false)=true:=by kernel_rfl
theorem bX:Ar Try.prog [] 44 ⟨14,c44,[]⟩:=Ar.by Try.func44 b44 p44 Try.ntmps44 (by rw[Try.results44]) (by kernel_rfl)
theorem b45:(match Try.f45.body with | some c=>BF c c45 | none=>none)=some c45:=by kernel_rfl
theorem p45:(match Try.f45.body with | some c=>AU [] c | none=>false)=true:=by kernel_rfl
theorem bY:Ar Try.prog [] 45 ⟨36,c45,[.tmp 4]⟩:=Ar.by Try.func45 b45 p45 Try.ntmps45 (by rw[Try.results45]) (by kernel_rfl)
theorem b46:(match Try.f46.body with | some c=>BF c c46 | none=>none)=some c46:=by kernel_rfl
theorem p46:(match Try.f46.body with | some c=>AU [] c | none=>false)=true:=by kernel_rfl
theorem bZ:Ar Try.prog [] 46 ⟨66,c46,[.tmp 4]⟩:=Ar.by Try.func46 b46 p46 Try.ntmps46 (by rw[Try.results46]) (by kernel_rfl)
theorem b47:(match Try.f47.body with | some c=>BF c c47 | none=>none)=some c47:=by kernel_rfl
theorem p47:(match Try.f47.body with | some c=>AU [] c | none=>false)=true:=by kernel_rfl
theorem cB:Ar Try.prog [] 47 ⟨26,c47,[.tmp 4]⟩:=Ar.by Try.func47 b47 p47 Try.ntmps47 (by rw[Try.results47]) (by kernel_rfl)
theorem Yv:(match Try.f48.body with | some c=>BF c c48 | none=>none)=some c48:=by kernel_rfl
theorem p48:(match Try.f48.body with | some c=>AU [] c | none=>false)=true:=by kernel_rfl
theorem Afh:Ar Try.prog [] 48 ⟨9,c48,[.tmp 4]⟩:=Ar.by Try.func48 Yv p48 Try.ntmps48 (by rw[Try.results48]) (by kernel_rfl)
theorem b50:(match Try.f50.body with | some c=>BF c c50 | none=>none)=some c50:=by kernel_rfl
theorem p50:(match Try.f50.body with | some c=>AU [] c | none=>false)=true:=by kernel_rfl
theorem cK:Ar Try.prog [] 50 ⟨25,c50,[.tmp 2]⟩:=Ar.by Try.func50 b50 p50 Try.ntmps50 (by rw[Try.results50]) (by kernel_rfl)
theorem b52:(match Try.f52.body with | some c=>BF c c52 | none=>none)=some c52:=by kernel_rfl
theorem p52:(match Try.f52.body with | some c=>AU [] c | none=>false)=true:=by kernel_rfl
theorem Afi:Ar Try.prog [] 52 ⟨27,c52,[.tmp 4]⟩:=Ar.by Try.func52 b52 p52 Try.ntmps52 (by rw[Try.results52]) (by kernel_rfl)
theorem b54:(match Try.f54.body with | some c=>BF c c54 | none=>none)=some c54:=by kernel_rfl
theorem p54:(match Try.f54.body with | some c=>AU [] c | none=>false)=true:=by kernel_rfl
theorem cO:Ar Try.prog [] 54 ⟨22,c54,[.tmp 6]⟩:=Ar.by Try.func54 b54 p54 Try.ntmps54 (by rw[Try.results54]) (by kernel_rfl)
theorem b55:(match Try.f55.body with | some c=>BF c c55 | none=>none)=some c55:=by kernel_rfl
theorem p55:(match Try.f55.body with | some c=>AU [] c | none=>false)=true:=by kernel_rfl
theorem cZ:Ar Try.prog [] 55 ⟨24,c55,[.tmp 4,.tmp 5]⟩:=Ar.by Try.func55 b55 p55 Try.ntmps55 (by rw[Try.results55]) (by kernel_rfl)
theorem b56:(match Try.f56.body with | some c=>BF c c56 | none=>none)=some c56:=by kernel_rfl
theorem p56:(match Try.f56.body with | some c=>AU [] c | none=>false)=true:=by kernel_rfl
theorem Afj:Ar Try.prog [] 56 ⟨26,c56,[.tmp 6]⟩:=Ar.by Try.func56 b56 p56 Try.ntmps56 (by rw[Try.results56]) (by kernel_rfl)
theorem b57:(match Try.f57.body with | some c=>BF c c57 | none=>none)=some c57:=by kernel_rfl
theorem p57:(match Try.f57.body with | some c=>AU [] c | none=>false)=true:=by kernel_rfl
theorem Afk:Ar Try.prog [] 57 ⟨10,c57,[.tmp 3]⟩:=Ar.by Try.func57 b57 p57 Try.ntmps57 (by rw[Try.results57]) (by kernel_rfl)
theorem b58:(match Try.f58.body with | some c=>BF c c58 | none=>none)=some c58:=by kernel_rfl
theorem p58:(match Try.f58.body with | some c=>AU [] c | none=>false)=true:=by kernel_rfl
theorem Afl:Ar Try.prog [] 58 ⟨14,c58,[.tmp 7]⟩:=Ar.by Try.func58 b58 p58 Try.ntmps58 (by rw[Try.results58]) (by kernel_rfl)
theorem b59:(match Try.f59.body with | some c=>BF c c59 | none=>none)=some c59:=by kernel_rfl
theorem p59:(match Try.f59.body with | some c=>AU [] c | none=>false)=true:=by kernel_rfl
theorem Afm:Ar Try.prog [] 59 ⟨7,c59,[.tmp 2]⟩:=Ar.by Try.func59 b59 p59 Try.ntmps59 (by rw[Try.results59]) (by kernel_rfl)
theorem b60:(match Try.f60.body with | some c=>BF c c60 | none=>none)=some c60:=by kernel_rfl
theorem p60:(match Try.f60.body with | some c=>AU [] c | none=>false)=true:=by kernel_rfl
theorem Afn:Ar Try.prog [] 60 ⟨24,c60,[.tmp 4,.tmp 5]⟩:=Ar.by Try.func60 b60 p60 Try.ntmps60 (by rw[Try.results60]) (by kernel_rfl)
theorem b61:(match Try.f61.body with | some c=>BF c c61 | none=>none)=some c61:=by kernel_rfl
theorem p61:(match Try.f61.body with | some c=>AU [] c | none=>false)=true:=by kernel_rfl
theorem Afo:Ar Try.prog [] 61 ⟨27,c61,[.tmp 4,.tmp 5]⟩:=Ar.by Try.func61 b61 p61 Try.ntmps61 (by rw[Try.results61]) (by kernel_rfl)
theorem b62:(match Try.f62.body with | some c=>BF c c62 | none=>none)=some c62:=by kernel_rfl
theorem p62:(match Try.f62.body with | some c=>AU [] c | none=>false)=true:=by kernel_rfl
theorem dA:Ar Try.prog [] 62 ⟨15,c62,[.tmp 6]⟩:=Ar.by Try.func62 b62 p62 Try.ntmps62 (by rw[Try.results62]) (by kernel_rfl)
theorem b63:(match Try.f63.body with | some c=>BF c c63 | none=>none)=some c63:=by kernel_rfl
theorem p63:(match Try.f63.body with | some c=>AU [] c | none=>false)=true:=by kernel_rfl
theorem dB:Ar Try.prog [] 63 ⟨18,c63,[.cell 2 122]⟩:=Ar.by Try.func63 b63 p63 Try.ntmps63 (by rw[Try.results63]) (by kernel_rfl)
theorem b64:(match Try.f64.body with | some c=>BF c c64 | none=>none)=some c64:=by kernel_rfl
theorem p64:(match Try.f64.body with | some c=>AU [] c | none=>false)=true:=by kernel_rfl
theorem dC:Ar Try.prog [] 64 ⟨47,c64,[.tmp 4]⟩:=Ar.by Try.func64 b64 p64 Try.ntmps64 (by rw[Try.results64]) (by kernel_rfl)
theorem b65:(match Try.f65.body with | some c=>BF c c65 | none=>none)=some c65:=by kernel_rfl
theorem p65:(match Try.f65.body with | some c=>AU [] c | none=>false)=true:=by kernel_rfl
theorem dP:Ar Try.prog [] 65 ⟨22,c65,[.cell 4 122]⟩:=Ar.by Try.func65 b65 p65 Try.ntmps65 (by rw[Try.results65]) (by kernel_rfl)
end Go.Proofs.Ytflonlkiajhhjaa.TpM
set_option maxRecDepth 100000
namespace Go.Proofs.Ytflonlkiajhhjaa.TpM
open Go Go.Sp Go.TpM
theorem b66:(match Try.f66.body with | some c=>BF c c66 | none=>none)=some c66:=by kernel_rfl
theorem p66:(match Try.f66.body with | some c=>AU [] c | none=>false)=true:=by kernel_rfl
theorem dQ:Ar Try.prog [] 66 ⟨22,c66,[.tmp 2]⟩:=Ar.by Try.func66 b66 p66 Try.ntmps66 (by rw[Try.results66]) (by kernel_rfl)
theorem b67:(match Try.f67.body with | some c=>BF c c67 | none=>none)=some c67:=by kernel_rfl
theorem p67:(match Try.f67.body with | some c=>AU [] c | none=>false)=true:=by kernel_rfl
theorem dR:Ar Try.prog [] 67 ⟨25,c67,[.tmp 2]⟩:=Ar.by Try.func67 b67 p67 Try.ntmps67 (by rw[Try.results67]) (by kernel_rfl)
theorem b68:(match Try.f68.body with | some c=>BF c c68 | none=>none)=some c68:=by kernel_rfl
theorem p68:(match Try.f68.body with | some c=>AU [] c | none=>false)=true:=by kernel_rfl
theorem dS:Ar Try.prog [] 68 ⟨148,c68,[]⟩:=Ar.by Try.func68 b68 p68 Try.ntmps68 (by rw[Try.results68]) (by kernel_rfl)
theorem b69:(match Try.f69.body with | some c=>BF c c69 | none=>none)=some c69:=by kernel_rfl
theorem p69:(match Try.f69.body with | some c=>AU [] c | none=>false)=true:=by kernel_rfl
theorem dU:Ar Try.prog [] 69 ⟨8,c69,[.tmp 2]⟩:=Ar.by Try.func69 b69 p69 Try.ntmps69 (by rw[Try.results69]) (by kernel_rfl)
theorem b70:(match Try.f70.body with | some c=>BF c c70 | none=>none)=some c70:=by kernel_rfl
theorem p70:(match Try.f70.body with | some c=>AU [] c | none=>false)=true:=by kernel_rfl
theorem dV:Ar Try.prog [] 70 ⟨20,c70,[.tmp 4]⟩:=Ar.by Try.func70 b70 p70 Try.ntmps70 (by rw[Try.results70]) (by kernel_rfl)
theorem b71:(match Try.f71.body with | some c=>BF c c71 | none=>none)=some c71:=by kernel_rfl
theorem p71:(match Try.f71.body with | some c=>AU [] c | none=>false)=true:=by kernel_rfl
theorem Afp:Ar Try.prog [] 71 ⟨19,c71,[.tmp 4]⟩:=Ar.by Try.func71 b71 p71 Try.ntmps71 (by rw[Try.results71]) (by kernel_rfl)
theorem b75:(match Try.f75.body with | some c=>BF c c75 | none=>none)=some c75:=by kernel_rfl
theorem p75:(match Try.f75.body with | some c=>AU [] c | none=>false)=true:=by kernel_rfl
theorem Afq:Ar Try.prog [] 75 ⟨50,c75,[.cell 4 134]⟩:=Ar.by Try.func75 b75 p75 Try.ntmps75 (by rw[Try.results75]) (by kernel_rfl)
theorem b76:(match Try.f76.body with | some c=>BF c c76 | none=>none)=some c76:=by kernel_rfl
theorem p76:(match Try.f76.body with | some c=>AU [] c | none=>false)=true:=by kernel_rfl
theorem Afr:Ar Try.prog [] 76 ⟨80,c76,[.tmp 2,.tmp 3]⟩:=Ar.by Try.func76 b76 p76 Try.ntmps76 (by rw[Try.results76]) (by kernel_rfl)
theorem b78:(match Try.f78.body with | some c=>BF c c78 | none=>none)=some c78:=by kernel_rfl
theorem p78:(match Try.f78.body with | some c=>AU [] c | none=>false)=true:=by kernel_rfl
theorem Afs:Ar Try.prog [] 78 ⟨62,c78,[.tmp 2]⟩:=Ar.by Try.func78 b78 p78 Try.ntmps78 (by rw[Try.results78]) (by kernel_rfl)
theorem b79:(match Try.f79.body with | some c=>BF c c79 | none=>none)=some c79:=by kernel_rfl
theorem p79:(match Try.f79.body with | some c=>AU [] c | none=>false)=true:=by kernel_rfl
theorem Afu:Ar Try.prog [] 79 ⟨15,c79,[.tmp 6]⟩:=Ar.by Try.func79 b79 p79 Try.ntmps79 (by rw[Try.results79]) (by kernel_rfl)
theorem b80:(match Try.f80.body with | some c=>BF c c80 | none=>none)=some c80:=by kernel_rfl
theorem p80:(match Try.f80.body with | some c=>AU [] c | none=>false)=true:=by kernel_rfl
theorem Afw:Ar Try.prog [] 80 ⟨47,c80,[]⟩:=Ar.by Try.func80 b80 p80 Try.ntmps80 (by rw[Try.results80]) (by kernel_rfl)
theorem b81:(match Try.f81.body with | some c=>BF c c81 | none=>none)=some c81:=by kernel_rfl
theorem p81:(match Try.f81.body with | some c=>AU [] c | none=>false)=true:=by kernel_rfl
theorem Afx:Ar Try.prog [] 81 ⟨3,c81,[.tmp 2]⟩:=Ar.by Try.func81 b81 p81 Try.ntmps81 (by rw[Try.results81]) (by kernel_rfl)
theorem b82:(match Try.f82.body with | some c=>BF c c82 | none=>none)=some c82:=by kernel_rfl
theorem p82:(match Try.f82.body with | some c=>AU [] c | none=>false)=true:=by kernel_rfl
theorem Afy:Ar Try.prog [] 82 ⟨45,c82,[]⟩:=Ar.by Try.func82 b82 p82 Try.ntmps82 (by rw[Try.results82]) (by kernel_rfl)
theorem b83:(match Try.f83.body with | some c=>BF c c83 | none=>none)=some c83:=by kernel_rfl
theorem p83:(match Try.f83.body with | some c=>AU [] c | none=>false)=true:=by kernel_rfl
theorem Afz:Ar Try.prog [] 83 ⟨28,c83,[]⟩:=Ar.by Try.func83 b83 p83 Try.ntmps83 (by rw[Try.results83]) (by kernel_rfl)
theorem b84:(match Try.f84.body with | some c=>BF c c84 | none=>none)=some c84:=by kernel_rfl
theorem p84:(match Try.f84.body with | some c=>AU [] c | none=>false)=true:=by kernel_rfl
theorem AfA:Ar Try.prog [] 84 ⟨34,c84,[.tmp 4]⟩:=Ar.by Try.func84 b84 p84 Try.ntmps84 (by rw[Try.results84]) (by kernel_rfl)
theorem b86:(match Try.f86.body with | some c=>BF c c86 | none=>none)=some c86:=by kernel_rfl
theorem p86:(match Try.f86.body with | some c=>AU [] c | none=>false)=true:=by kernel_rfl
theorem dX:Ar Try.prog [] 86 ⟨53,c86,[]⟩:=Ar.by Try.func86 b86 p86 Try.ntmps86 (by rw[Try.results86]) (by kernel_rfl)
theorem b87:(match Try.f87.body with | some c=>BF c c87 | none=>none)=some c87:=by kernel_rfl
theorem p87:(match Try.f87.body with | some c=>AU [] c | none=>false)=true:=by kernel_rfl
theorem AfB:Ar Try.prog [] 87 ⟨60,c87,[]⟩:=Ar.by Try.func87 b87 p87 Try.ntmps87 (by rw[Try.results87]) (by kernel_rfl)
theorem b88:(match Try.f88.body with | some c=>BF c c88 | none=>none)=some c88:=by kernel_rfl
theorem p88:(match Try.f88.body with | some c=>AU [] c | none=>false)=true:=by kernel_rfl
theorem AfC:Ar Try.prog [] 88 ⟨67,c88,[]⟩:=Ar.by Try.func88 b88 p88 Try.ntmps88 (by rw[Try.results88]) (by kernel_rfl)
theorem b89:(match Try.f89.body with | some c=>BF c c89 | none=>none)=some c89:=by kernel_rfl
theorem p89:(match Try.f89.body with | some c=>AU [] c | none=>false)=true:=by kernel_rfl
theorem AfD:Ar Try.prog [] 89 ⟨63,c89,[.tmp 8,.tmp 9]⟩:=Ar.by Try.func89 b89 p89 Try.ntmps89 (by rw[Try.results89]) (by kernel_rfl)
theorem b90:(match Try.f90.body with | some c=>BF c c90 | none=>none)=some c90:=by kernel_rfl
theorem p90:(match Try.f90.body with | some c=>AU [] c | none=>false)=true:=by kernel_rfl
theorem AfE:Ar Try.prog [] 90 ⟨34,c90,[]⟩:=Ar.by Try.func90 b90 p90 Try.ntmps90 (by rw[Try.results90]) (by kernel_rfl)
theorem b91:(match Try.f91.body with | some c=>BF c c91 | none=>none)=some c91:=by kernel_rfl
theorem p91:(match Try.f91.body with | some c=>AU [] c | none=>false)=true:=by kernel_rfl
theorem AfF:Ar Try.prog [] 91 ⟨141,c91,[.tmp 8]⟩:=Ar.by Try.func91 b91 p91 Try.ntmps91 (by rw[Try.results91]) (by kernel_rfl)
theorem b92:(match Try.f92.body with | some c=>BF c c92 | none=>none)=some c92:=by kernel_rfl
theorem p92:(match Try.f92.body with | some c=>AU [] c | none=>false)=true:=by kernel_rfl
theorem AfG:Ar Try.prog [] 92 ⟨90,c92,[.tmp 10]⟩:=Ar.by Try.func92 b92 p92 Try.ntmps92 (by rw[Try.results92]) (by kernel_rfl)
theorem b93:(match Try.f93.body with | some c=>BF c c93 | none=>none)=some c93:=by kernel_rfl
theorem p93:(match Try.f93.body with | some c=>AU [] c | none=>false)=true:=by kernel_rfl
theorem AfI:Ar Try.prog [] 93 ⟨178,c93,[.tmp 10,.tmp 11]⟩:=Ar.by Try.func93 b93 p93 Try.ntmps93 (by rw[Try.results93]) (by kernel_rfl)
theorem b94:(match Try.f94.body with | some c=>BF c c94 | none=>none)=some c94:=by kernel_rfl
theorem p94:(match Try.f94.body with | some c=>AU [] c | none=>false)=true:=by kernel_rfl
theorem AfJ:Ar Try.prog [] 94 ⟨19,c94,[.tmp 2]⟩:=Ar.by Try.func94 b94 p94 Try.ntmps94 (by rw[Try.results94]) (by kernel_rfl)
theorem b95:(match Try.f95.body with | some c=>BF c c95 | none=>none)=some c95:=by kernel_rfl
theorem p95:(match Try.f95.body with | some c=>AU [] c | none=>false)=true:=by kernel_rfl
theorem dY:Ar Try.prog [] 95 ⟨25,c95,[.tmp 2]⟩:=Ar.by Try.func95 b95 p95 Try.ntmps95 (by rw[Try.results95]) (by kernel_rfl)
end Go.Proofs.Ytflonlkiajhhjaa.TpM
set_option maxRecDepth 100000
namespace Go.Proofs.Ytflonlkiajhhjaa.TpM
open Go Go.Sp Go.TpM
theorem b96:(match Try.f96.body with | some c=>BF c c96 | none=>none)=some c96:=by kernel_rfl
theorem p96:(match Try.f96.body with | some c=>AU [] c | none=>false)=true:=by kernel_rfl
theorem dZ:Ar Try.prog [] 96 ⟨6,c96,[.tmp 2]⟩:=Ar.by Try.func96 b96 p96 Try.ntmps96 (by rw[Try.results96]) (by kernel_rfl)
theorem b98:(match Try.f98.body with | some c=>BF c c98 | none=>none)=some c98:=by kernel_rfl
theorem p98:(match Try.f98.body with | some c=>AU [] c | none=>false)=true:=by kernel_rfl
theorem AfK:Ar Try.prog [] 98 ⟨3,c98,[.tmp 2]⟩:=Ar.by Try.func98 b98 p98 Try.ntmps98 (by rw[Try.results98]) (by kernel_rfl)
theorem b99:(match Try.f99.body with | some c=>BF c c99 | none=>none)=some c99:=by kernel_rfl
theorem p99:(match Try.f99.body with | some c=>AU [] c | none=>false)=true:=by kernel_rfl
theorem AfL:Ar Try.prog [] 99 ⟨53,c99,[.tmp 2]⟩:=Ar.by Try.func99 b99 p99 Try.ntmps99 (by rw[Try.results99]) (by kernel_rfl)
theorem Ain:(match Try.f100.body with | some c=>BF c X4 | none=>none)=some X4:=by kernel_rfl
theorem Aio:(match Try.f100.body with | some c=>AU [] c | none=>false)=true:=by kernel_rfl
theorem vF:Ar Try.prog [] 100 ⟨5,X4,[.tmp 2]⟩:=Ar.by Try.func100 Ain Aio Try.ntmps100 (by rw[Try.results100]) (by kernel_rfl)
theorem Aip:(match Try.f101.body with | some c=>BF c X5 | none=>none)=some X5:=by kernel_rfl
theorem Aiq:(match Try.f101.body with | some c=>AU [] c | none=>false)=true:=by kernel_rfl
theorem vG:Ar Try.prog [] 101 ⟨115,X5,[.tmp 8]⟩:=Ar.by Try.func101 Aip Aiq Try.ntmps101 (by rw[Try.results101]) (by kernel_rfl)
theorem Air:(match Try.f102.body with | some c=>BF c V3 | none=>none)=some V3:=by kernel_rfl
theorem Ais:(match Try.f102.body with | some c=>AU [] c | none=>false)=true:=by kernel_rfl
theorem XN:Ar Try.prog [] 102 ⟨32,V3,[]⟩:=Ar.by Try.func102 Air Ais Try.ntmps102 (by rw[Try.results102]) (by kernel_rfl)
theorem Ait:(match Try.f104.body with | some c=>BF c X6 | none=>none)=some X6:=by kernel_rfl
theorem Aiu:(match Try.f104.body with | some c=>AU [] c | none=>false)=true:=by kernel_rfl
theorem vH:Ar Try.prog [] 104 ⟨13,X6,[.tmp 4]⟩:=Ar.by Try.func104 Ait Aiu Try.ntmps104 (by rw[Try.results104]) (by kernel_rfl)
theorem Aiv:(match Try.f105.body with | some c=>BF c X7 | none=>none)=some X7:=by kernel_rfl
theorem Aiw:(match Try.f105.body with | some c=>AU [] c | none=>false)=true:=by kernel_rfl
theorem vI:Ar Try.prog [] 105 ⟨7,X7,[.tmp 3]⟩:=Ar.by Try.func105 Aiv Aiw Try.ntmps105 (by rw[Try.results105]) (by kernel_rfl)
theorem Aix:(match Try.f106.body with | some c=>BF c X9 | none=>none)=some X9:=by kernel_rfl
theorem Aiy:(match Try.f106.body with | some c=>AU [] c | none=>false)=true:=by kernel_rfl
theorem vJ:Ar Try.prog [] 106 ⟨8,X9,[.tmp 2]⟩:=Ar.by Try.func106 Aix Aiy Try.ntmps106 (by rw[Try.results106]) (by kernel_rfl)
theorem Aiz:(match Try.f108.body with | some c=>BF c Ya | none=>none)=some Ya:=by kernel_rfl
theorem AiA:(match Try.f108.body with | some c=>AU [] c | none=>false)=true:=by kernel_rfl
theorem vK:Ar Try.prog [] 108 ⟨82,Ya,[]⟩:=Ar.by Try.func108 Aiz AiA Try.ntmps108 (by rw[Try.results108]) (by kernel_rfl)
theorem AiB:(match Try.f109.body with | some c=>BF c Yb | none=>none)=some Yb:=by kernel_rfl
theorem AiC:(match Try.f109.body with | some c=>AU [] c | none=>false)=true:=by kernel_rfl
theorem vL:Ar Try.prog [] 109 ⟨7,Yb,[.tmp 2]⟩:=Ar.by Try.func109 AiB AiC Try.ntmps109 (by rw[Try.results109]) (by kernel_rfl)
theorem AiD:(match Try.f110.body with | some c=>BF c Yc | none=>none)=some Yc:=by kernel_rfl
theorem AiE:(match Try.f110.body with | some c=>AU [] c | none=>false)=true:=by kernel_rfl
theorem vM:Ar Try.prog [] 110 ⟨33,Yc,[.tmp 2]⟩:=Ar.by Try.func110 AiD AiE Try.ntmps110 (by rw[Try.results110]) (by kernel_rfl)
theorem AiF:(match Try.f111.body with | some c=>BF c Yd | none=>none)=some Yd:=by kernel_rfl
theorem AiG:(match Try.f111.body with | some c=>AU [] c | none=>false)=true:=by kernel_rfl
theorem vN:Ar Try.prog [] 111 ⟨18,Yd,[.tmp 8]⟩:=Ar.by Try.func111 AiF AiG Try.ntmps111 (by rw[Try.results111]) (by kernel_rfl)
theorem AiH:(match Try.f112.body with | some c=>BF c Ye | none=>none)=some Ye:=by kernel_rfl
theorem AiI:(match Try.f112.body with | some c=>AU [] c | none=>false)=true:=by kernel_rfl
theorem vO:Ar Try.prog [] 112 ⟨41,Ye,[.tmp 12]⟩:=Ar.by Try.func112 AiH AiI Try.ntmps112 (by rw[Try.results112]) (by kernel_rfl)
theorem AiJ:(match Try.f113.body with | some c=>BF c Yf | none=>none)=some Yf:=by kernel_rfl
theorem AiK:(match Try.f113.body with | some c=>AU [] c | none=>false)=true:=by kernel_rfl
theorem vP:Ar Try.prog [] 113 ⟨29,Yf,[]⟩:=Ar.by Try.func113 AiJ AiK Try.ntmps113 (by rw[Try.results113]) (by kernel_rfl)
theorem AiL:(match Try.f115.body with | some c=>BF c Yg | none=>none)=some Yg:=by kernel_rfl
theorem AiM:(match Try.f115.body with | some c=>AU [] c | none=>false)=true:=by kernel_rfl
theorem vQ:Ar Try.prog [] 115 ⟨32,Yg,[.tmp 10,.tmp 11]⟩:=Ar.by Try.func115 AiL AiM Try.ntmps115 (by rw[Try.results115]) (by kernel_rfl)
end Go.Proofs.Ytflonlkiajhhjaa.TpM
set_option maxRecDepth 100000
namespace Go.Proofs.Ytflonlkiajhhjaa.TpM
open Go Go.Sp Go.TpM
theorem AiN:Cu Try.prog 3 ti3:=Cu.by Try.underlying3 (inf:=Try.t3) (by kernel_rfl) (by kernel_rfl) (by kernel_rfl) (by kernel_rfl) (by kernel_rfl) (fun h=>by cases h)
theorem AiO:Cu Try.prog 4 ti4:=Cu.by Try.underlying4 (inf:=Try.t4) (by kernel_rfl) (by kernel_rfl) (by kernel_rfl) (by kernel_rfl) (by kernel_rfl) (fun h=>by cases h)
theorem AiP:Cu Try.prog 5 ti5:=Cu.by Try.underlying5 (inf:=Try.t5) (by kernel_rfl) (by kernel_rfl) (by kernel_rfl) (by kernel_rfl) (by kernel_rfl) (fun h=>by cases h)
theorem AiQ:Cu Try.prog 9 ti9:=Cu.by Try.underlying9 (inf:=Try.t9) (by kernel_rfl) (by kernel_rfl) (by kernel_rfl) (by kernel_rfl) (by kernel_rfl) (fun h=>by cases h)
theorem AfM:Cu Try.prog 23 AdB:=Cu.by Try.underlying23 (inf:=Try.t23) (by kernel_rfl) (by kernel_rfl) (by kernel_rfl) (by kernel_rfl) (by kernel_rfl) (fun h=>by cases h)
theorem AfN:Cu Try.prog 26 AdC:=Cu.by Try.underlying26 (inf:=Try.t26) (by kernel_rfl) (by kernel_rfl) (by kernel_rfl) (by kernel_rfl) (by kernel_rfl) (fun h=>by cases h)
theorem AfO:Cu Try.prog 27 AdD:=Cu.by Try.underlying27 (inf:=Try.t27) (by kernel_rfl) (by kernel_rfl) (by kernel_rfl) (by kernel_rfl) (by kernel_rfl) (fun h=>by cases h)
theorem AfP:Cu Try.prog 28 AdE:=Cu.by Try.underlying28 (inf:=Try.t28) (by kernel_rfl) (by kernel_rfl) (by kernel_rfl) (by kernel_rfl) (by kernel_rfl) (fun h=>by cases h)
theorem AfQ:Cu Try.prog 38 AdF:=Cu.by Try.underlying38 (inf:=Try.t38) (by kernel_rfl) (by kernel_rfl) (by kernel_rfl) (by kernel_rfl) (by kernel_rfl) (fun _=>⟨_,rfl,Fl.ok (d:=8) (⟨by kernel_rfl,.inr (.inr (.inr (.inr ⟨_,Try.underlying38,by kernel_rfl,⟨by decide,rfl,[(.int .i64 0)],[(.int .i64 0),(.int .i64 0),(.int .i64 0)],rfl,⟨by kernel_rfl,.inl ⟨⟨_,Try.underlying3⟩,_,_,rfl⟩⟩,⟨by decide,rfl,[(.int .i64 0)],[(.int .i64 0),(.int .i64 0)],rfl,⟨by kernel_rfl,.inl ⟨⟨_,Try.underlying3⟩,_,_,rfl⟩⟩,⟨by decide,rfl,[(.int .i64 0)],[(.int .i64 0)],rfl,⟨by kernel_rfl,.inl ⟨⟨_,Try.underlying3⟩,_,_,rfl⟩⟩,⟨by decide,rfl,[(.int .i64 0)],[],rfl,⟨by kernel_rfl,.inl ⟨⟨_,Try.underlying3⟩,_,_,rfl⟩⟩,rfl⟩⟩⟩⟩⟩)))⟩) (by decide) ⟨_,Try.underlying38,rfl⟩ (by kernel_rfl)⟩)
theorem AfR:Cu Try.prog 39 AdG:=Cu.by Try.underlying39 (inf:=Try.t39) (by kernel_rfl) (by kernel_rfl) (by kernel_rfl) (by kernel_rfl) (by kernel_rfl) (fun h=>by cases h)
theorem AfS:Cu Try.prog 44 AdH:=Cu.by Try.underlying44 (inf:=Try.t44) (by kernel_rfl) (by kernel_rfl) (by kernel_rfl) (by kernel_rfl) (by kernel_rfl) (fun _=>⟨_,rfl,Fl.ok (d:=8) (⟨by kernel_rfl,.inr (.inr (.inr (.inl ⟨3,3,[(.int .i64 0)],Try.underlying44,⟨by kernel_rfl,.inl ⟨⟨_,Try.underlying3⟩,_,_,rfl⟩⟩,by kernel_rfl⟩)))⟩) (by decide) ⟨_,Try.underlying44,rfl⟩ (by kernel_rfl)⟩)
theorem AfT:Cu Try.prog 46 AdI:=Cu.by Try.underlying46 (inf:=Try.t46) (by kernel_rfl) (by kernel_rfl) (by kernel_rfl) (by kernel_rfl) (by kernel_rfl) (fun _=>⟨_,rfl,Fl.ok (d:=8) (⟨by kernel_rfl,.inr (.inr (.inr (.inr ⟨_,Try.underlying46,by kernel_rfl,⟨by decide,rfl,[(.int .i64 0)],[(.int .i64 0),(.bool false)],rfl,⟨by kernel_rfl,.inl ⟨⟨_,Try.underlying3⟩,_,_,rfl⟩⟩,⟨by decide,rfl,[(.int .i64 0)],[(.bool false)],rfl,⟨by kernel_rfl,.inl ⟨⟨_,Try.underlying3⟩,_,_,rfl⟩⟩,⟨by decide,rfl,[(.bool false)],[],rfl,⟨by kernel_rfl,.inr (.inl ⟨Try.underlying4,_,rfl⟩)⟩,rfl⟩⟩⟩⟩)))⟩) (by decide) ⟨_,Try.underlying46,rfl⟩ (by kernel_rfl)⟩)
theorem AfU:Cu Try.prog 50 AdJ:=Cu.by Try.underlying50 (inf:=Try.t50) (by kernel_rfl) (by kernel_rfl) (by kernel_rfl) (by kernel_rfl) (by kernel_rfl) (fun h=>by cases h)
theorem AfV:Cu Try.prog 54 AdK:=Cu.by Try.underlying54 (inf:=Try.t54) (by kernel_rfl) (by kernel_rfl) (by kernel_rfl) (by kernel_rfl) (by kernel_rfl) (fun h=>by cases h)
theorem AfW:Cu Try.prog 59 AdL:=Cu.by Try.underlying59 (inf:=Try.t59) (by kernel_rfl) (by kernel_rfl) (by kernel_rfl) (by kernel_rfl) (by kernel_rfl) (fun h=>by cases h)
theorem AfX:Cu Try.prog 60 AdM:=Cu.by Try.underlying60 (inf:=Try.t60) (by kernel_rfl) (by kernel_rfl) (by kernel_rfl) (by kernel_rfl) (by kernel_rfl) (fun h=>by cases h)
theorem AfY:Cu Try.prog 70 AdN:=Cu.by Try.underlying70 (inf:=Try.t70) (by kernel_rfl) (by kernel_rfl) (by kernel_rfl) (by kernel_rfl) (by kernel_rfl) (fun h=>by cases h)
theorem AfZ:Cu Try.prog 71 AdO:=Cu.by Try.underlying71 (inf:=Try.t71) (by kernel_rfl) (by kernel_rfl) (by kernel_rfl) (by kernel_rfl) (by kernel_rfl) (fun h=>by cases h)
theorem Af0:Cu Try.prog 72 AdP:=Cu.by Try.underlying72 (inf:=Try.t72) (by kernel_rfl) (by kernel_rfl) (by kernel_rfl) (by kernel_rfl) (by kernel_rfl) (fun _=>⟨_,rfl,Fl.ok (d:=8) (⟨by kernel_rfl,.inr (.inr (.inr (.inl ⟨2,71,[(.int .u64 0)],Try.underlying72,⟨by kernel_rfl,.inl ⟨⟨_,Try.underlying71⟩,_,_,rfl⟩⟩,by kernel_rfl⟩)))⟩) (by decide) ⟨_,Try.underlying72,rfl⟩ (by kernel_rfl)⟩)
theorem Af1:Cu Try.prog 74 AdQ:=Cu.by Try.underlying74 (inf:=Try.t74) (by kernel_rfl) (by kernel_rfl) (by kernel_rfl) (by kernel_rfl) (by kernel_rfl) (fun _=>⟨_,rfl,Fl.ok (d:=8) (⟨by kernel_rfl,.inr (.inr (.inr (.inr ⟨_,Try.underlying74,by kernel_rfl,⟨by decide,rfl,[(.int .i64 0),(.int .i64 0),(.int .i64 0),(.int .i64 0)],[(.int .u64 0),(.int .u64 0),(.int .u64 0)],rfl,⟨by kernel_rfl,.inr (.inr (.inr (.inr ⟨_,Try.underlying38,by kernel_rfl,⟨by decide,rfl,[(.int .i64 0)],[(.int .i64 0),(.int .i64 0),(.int .i64 0)],rfl,⟨by kernel_rfl,.inl ⟨⟨_,Try.underlying3⟩,_,_,rfl⟩⟩,⟨by decide,rfl,[(.int .i64 0)],[(.int .i64 0),(.int .i64 0)],rfl,⟨by kernel_rfl,.inl ⟨⟨_,Try.underlying3⟩,_,_,rfl⟩⟩,⟨by decide,rfl,[(.int .i64 0)],[(.int .i64 0)],rfl,⟨by kernel_rfl,.inl ⟨⟨_,Try.underlying3⟩,_,_,rfl⟩⟩,⟨by decide,rfl,[(.int .i64 0)],[],rfl,⟨by kernel_rfl,.inl ⟨⟨_,Try.underlying3⟩,_,_,rfl⟩⟩,rfl⟩⟩⟩⟩⟩)))⟩,⟨by decide,rfl,[(.int .u64 0),(.int .u64 0)],[(.int .u64 0)],rfl,⟨by kernel_rfl,.inr (.inr (.inr (.inl ⟨2,71,[(.int .u64 0)],Try.underlying72,⟨by kernel_rfl,.inl ⟨⟨_,Try.underlying71⟩,_,_,rfl⟩⟩,by kernel_rfl⟩)))⟩,⟨by decide,rfl,[(.int .u64 0)],[],rfl,⟨by kernel_rfl,.inl ⟨⟨_,Try.underlying71⟩,_,_,rfl⟩⟩,rfl⟩⟩⟩⟩)))⟩) (by decide) ⟨_,Try.underlying74,rfl⟩ (by kernel_rfl)⟩)
theorem Af2:Cu Try.prog 77 AdR:=Cu.by Try.underlying77 (inf:=Try.t77) (by kernel_rfl) (by kernel_rfl) (by kernel_rfl) (by kernel_rfl) (by kernel_rfl) (fun h=>by cases h)
theorem Af3:Cu Try.prog 79 AdS:=Cu.by Try.underlying79 (inf:=Try.t79) (by kernel_rfl) (by kernel_rfl) (by kernel_rfl) (by kernel_rfl) (by kernel_rfl) (fun h=>by cases h)
theorem Af4:Cu Try.prog 82 AdT:=Cu.by Try.underlying82 (inf:=Try.t82) (by kernel_rfl) (by kernel_rfl) (by kernel_rfl) (by kernel_rfl) (by kernel_rfl) (fun h=>by cases h)
theorem Af5:Cu Try.prog 84 AdU:=Cu.by Try.underlying84 (inf:=Try.t84) (by kernel_rfl) (by kernel_rfl) (by kernel_rfl) (by kernel_rfl) (by kernel_rfl) (fun h=>by cases h)
theorem Af6:Cu Try.prog 89 AdV:=Cu.by Try.underlying89 (inf:=Try.t89) (by kernel_rfl) (by kernel_rfl) (by kernel_rfl) (by kernel_rfl) (by kernel_rfl) (fun _=>⟨_,rfl,Fl.ok (d:=8) (⟨by kernel_rfl,.inr (.inr (.inr (.inr ⟨_,Try.underlying89,by kernel_rfl,⟨by decide,rfl,[(.int .i64 0)],[(.int .i64 0),(.int .i64 0),(.int .i64 0)],rfl,⟨by kernel_rfl,.inl ⟨⟨_,Try.underlying3⟩,_,_,rfl⟩⟩,⟨by decide,rfl,[(.int .i64 0)],[(.int .i64 0),(.int .i64 0)],rfl,⟨by kernel_rfl,.inl ⟨⟨_,Try.underlying3⟩,_,_,rfl⟩⟩,⟨by decide,rfl,[(.int .i64 0)],[(.int .i64 0)],rfl,⟨by kernel_rfl,.inl ⟨⟨_,Try.underlying3⟩,_,_,rfl⟩⟩,⟨by decide,rfl,[(.int .i64 0)],[],rfl,⟨by kernel_rfl,.inl ⟨⟨_,Try.underlying3⟩,_,_,rfl⟩⟩,rfl⟩⟩⟩⟩⟩)))⟩) (by decide) ⟨_,Try.underlying89,rfl⟩ (by kernel_rfl)⟩)
theorem Af7:Cu Try.prog 90 AdW:=Cu.by Try.underlying90 (inf:=Try.t90) (by kernel_rfl) (by kernel_rfl) (by kernel_rfl) (by kernel_rfl) (by kernel_rfl) (fun h=>by cases h)
theorem Af8:Cu Try.prog 92 AdX:=Cu.by Try.underlying92 (inf:=Try.t92) (by kernel_rfl) (by kernel_rfl) (by kernel_rfl) (by kernel_rfl) (by kernel_rfl) (fun h=>by cases h)
theorem vR:Cu Try.prog 104 Zu:=Cu.by Try.underlying104 (inf:=Try.t104) (by kernel_rfl) (by kernel_rfl) (by kernel_rfl) (by kernel_rfl) (by kernel_rfl) (fun h=>by cases h)
theorem vS:Cu Try.prog 113 Zv:=Cu.by Try.underlying113 (inf:=Try.t113) (by kernel_rfl) (by kernel_rfl) (by kernel_rfl) (by kernel_rfl) (by kernel_rfl) (fun h=>by cases h)
theorem vT:Cu Try.prog 115 Zw:=Cu.by Try.underlying115 (inf:=Try.t115) (by kernel_rfl) (by kernel_rfl) (by kernel_rfl) (by kernel_rfl) (by kernel_rfl) (fun h=>by cases h)
theorem vU:Cu Try.prog 116 Zx:=Cu.by Try.underlying116 (inf:=Try.t116) (by kernel_rfl) (by kernel_rfl) (by kernel_rfl) (by kernel_rfl) (by kernel_rfl) (fun h=>by cases h)
theorem vV:Cu Try.prog 122 Zy:=Cu.by Try.underlying122 (inf:=Try.t122) (by kernel_rfl) (by kernel_rfl) (by kernel_rfl) (by kernel_rfl) (by kernel_rfl) (fun _=>⟨_,rfl,Fl.ok (d:=8) (⟨by kernel_rfl,.inr (.inr (.inr (.inr ⟨_,Try.underlying122,by kernel_rfl,⟨by decide,rfl,[(.int .i64 0)],[(.bool false)],rfl,⟨by kernel_rfl,.inl ⟨⟨_,Try.underlying3⟩,_,_,rfl⟩⟩,⟨by decide,rfl,[(.bool false)],[],rfl,⟨by kernel_rfl,.inr (.inl ⟨Try.underlying4,_,rfl⟩)⟩,rfl⟩⟩⟩)))⟩) (by decide) ⟨_,Try.underlying122,rfl⟩ (by kernel_rfl)⟩)
theorem vW:Cu Try.prog 128 Zz:=Cu.by Try.underlying128 (inf:=Try.t128) (by kernel_rfl) (by kernel_rfl) (by kernel_rfl) (by kernel_rfl) (by kernel_rfl) (fun h=>by cases h)
theorem vX:Cu Try.prog 134 ZA:=Cu.by Try.underlying134 (inf:=Try.t134) (by kernel_rfl) (by kernel_rfl) (by kernel_rfl) (by kernel_rfl) (by kernel_rfl) (fun _=>⟨_,rfl,Fl.ok (d:=8) (⟨by kernel_rfl,.inr (.inr (.inr (.inl ⟨17,3,[(.int .i64 0)],Try.underlying134,⟨by kernel_rfl,.inl ⟨⟨_,Try.underlying3⟩,_,_,rfl⟩⟩,by kernel_rfl⟩)))⟩) (by decide) ⟨_,Try.underlying134,rfl⟩ (by kernel_rfl)⟩)
theorem vY:Cu Try.prog 139 ZB:=Cu.by Try.underlying139 (inf:=Try.t139) (by kernel_rfl) (by kernel_rfl) (by kernel_rfl) (by kernel_rfl) (by kernel_rfl) (fun h=>by cases h)
theorem vZ:Cu Try.prog 145 ZC:=Cu.by Try.underlying145 (inf:=Try.t145) (by kernel_rfl) (by kernel_rfl) (by kernel_rfl) (by kernel_rfl) (by kernel_rfl) (fun h=>by cases h)
theorem wB:Cu Try.prog 152 ZE:=Cu.by Try.underlying152 (inf:=Try.t152) (by kernel_rfl) (by kernel_rfl) (by kernel_rfl) (by kernel_rfl) (by kernel_rfl) (fun h=>by cases h)
theorem wC:Cu Try.prog 156 ZF:=Cu.by Try.underlying156 (inf:=Try.t156) (by kernel_rfl) (by kernel_rfl) (by kernel_rfl) (by kernel_rfl) (by kernel_rfl) (fun h=>by cases h)
theorem wI:Cu Try.prog 163 ZG:=Cu.by Try.underlying163 (inf:=Try.t163) (by kernel_rfl) (by kernel_rfl) (by kernel_rfl) (by kernel_rfl) (by kernel_rfl) (fun h=>by cases h)
theorem wJ:Cu Try.prog 167 ZH:=Cu.by Try.underlying167 (inf:=Try.t167) (by kernel_rfl) (by kernel_rfl) (by kernel_rfl) (by kernel_rfl) (by kernel_rfl) (fun h=>by cases h)
theorem wK:Cu Try.prog 170 ZI:=Cu.by Try.underlying170 (inf:=Try.t170) (by kernel_rfl) (by kernel_rfl) (by kernel_rfl) (by kernel_rfl) (by kernel_rfl) (fun _=>⟨_,rfl,Fl.ok (d:=8) (⟨by kernel_rfl,.inr (.inr (.inr (.inr ⟨_,Try.underlying170,by kernel_rfl,⟨by decide,rfl,[(.int .i64 0)],[(.int .i64 0),(.bool false)],rfl,⟨by kernel_rfl,.inl ⟨⟨_,Try.underlying3⟩,_,_,rfl⟩⟩,⟨by decide,rfl,[(.int .i64 0)],[(.bool false)],rfl,⟨by kernel_rfl,.inl ⟨⟨_,Try.underlying3⟩,_,_,rfl⟩⟩,⟨by decide,rfl,[(.bool false)],[],rfl,⟨by kernel_rfl,.inr (.inl ⟨Try.underlying4,_,rfl⟩)⟩,rfl⟩⟩⟩⟩)))⟩) (by decide) ⟨_,Try.underlying170,rfl⟩ (by kernel_rfl)⟩)
theorem wL:Cu Try.prog 171 ZJ:=Cu.by Try.underlying171 (inf:=Try.t171) (by kernel_rfl) (by kernel_rfl) (by kernel_rfl) (by kernel_rfl) (by kernel_rfl) (fun h=>by cases h)
theorem BO:Jm Try.prog tt:=Jm.of_all (t:=AdY) ⟨trivial,⟨trivial,⟨AiN,⟨trivial,⟨trivial,trivial,⟨trivial,⟨Af3,trivial,trivial⟩,trivial⟩⟩,⟨AfM,⟨AfR,⟨AfZ,trivial,trivial⟩,⟨trivial,⟨wJ,trivial,trivial⟩,trivial⟩⟩,trivial⟩⟩,⟨trivial,⟨trivial,⟨trivial,trivial,⟨trivial,⟨wI,trivial,trivial⟩,trivial⟩⟩,⟨trivial,trivial,⟨vT,trivial,trivial⟩⟩⟩,⟨AfO,⟨trivial,⟨trivial,⟨vY,trivial,trivial⟩,trivial⟩,⟨trivial,⟨wL,trivial,trivial⟩,trivial⟩⟩,⟨AfW,trivial,trivial⟩⟩⟩⟩,⟨AiP,⟨AiQ,⟨trivial,trivial,⟨trivial,⟨trivial,⟨vZ,trivial,trivial⟩,trivial⟩,⟨vS,trivial,trivial⟩⟩⟩,⟨trivial,trivial,⟨trivial,⟨Af6,trivial,trivial⟩,trivial⟩⟩⟩,⟨trivial,trivial,⟨trivial,⟨trivial,⟨Af2,trivial,trivial⟩,trivial⟩,trivial⟩⟩⟩⟩,⟨trivial,⟨AiO,⟨trivial,⟨trivial,⟨trivial,⟨trivial,⟨vW,trivial,trivial⟩,trivial⟩,trivial⟩,trivial⟩,⟨trivial,⟨trivial,⟨Af0,trivial,trivial⟩,⟨vR,trivial,trivial⟩⟩,⟨trivial,⟨trivial,⟨wB,trivial,trivial⟩,trivial⟩,trivial⟩⟩⟩,⟨trivial,⟨trivial,trivial,⟨trivial,⟨Af5,trivial,trivial⟩,⟨vU,trivial,trivial⟩⟩⟩,⟨AfP,⟨AfS,trivial,trivial⟩,⟨AfX,⟨Af8,⟨wC,trivial,trivial⟩,trivial⟩,trivial⟩⟩⟩⟩,⟨trivial,⟨trivial,⟨trivial,trivial,⟨AfU,⟨Af4,trivial,trivial⟩,trivial⟩⟩,⟨AfN,⟨trivial,⟨Af1,trivial,trivial⟩,⟨trivial,⟨wK,trivial,trivial⟩,trivial⟩⟩,⟨trivial,⟨Af7,trivial,trivial⟩,⟨vV,trivial,trivial⟩⟩⟩⟩,⟨trivial,⟨trivial,⟨AfQ,⟨AfY,⟨vX,trivial,trivial⟩,trivial⟩,trivial⟩,⟨AfV,trivial,trivial⟩⟩,⟨trivial,⟨AfT,trivial,trivial⟩,trivial⟩⟩⟩⟩⟩
theorem Af9:AdZ.All (Ar Try.prog []):=⟨trivial,⟨trivial,⟨trivial,⟨trivial,⟨ZO,⟨bM,⟨dB,trivial,trivial⟩,⟨dY,trivial,trivial⟩⟩,⟨cB,⟨Afu,trivial,trivial⟩,⟨vN,trivial,trivial⟩⟩⟩,⟨trivial,⟨bS,⟨Afp,trivial,trivial⟩,trivial⟩,⟨cZ,⟨AfB,trivial,trivial⟩,trivial⟩⟩⟩,⟨XL,⟨ZT,⟨Afg,⟨dR,trivial,trivial⟩,⟨AfL,trivial,trivial⟩⟩,⟨trivial,⟨Afz,trivial,trivial⟩,⟨vQ,trivial,trivial⟩⟩⟩,⟨bJ,⟨bW,⟨Afq,trivial,trivial⟩,trivial⟩,⟨Afm,⟨AfF,trivial,trivial⟩,trivial⟩⟩⟩⟩,⟨Afa,⟨trivial,⟨ZQ,⟨bO,⟨dP,trivial,trivial⟩,trivial⟩,⟨trivial,⟨Afx,trivial,trivial⟩,⟨vP,trivial,trivial⟩⟩⟩,⟨Afb,⟨bU,trivial,⟨vI,trivial,trivial⟩⟩,⟨Afk,⟨AfD,trivial,trivial⟩,trivial⟩⟩⟩,⟨ZM,⟨trivial,⟨bQ,⟨dU,trivial,trivial⟩,⟨vG,trivial,trivial⟩⟩,trivial⟩,⟨Afd,⟨bY,trivial,⟨vL,trivial,trivial⟩⟩,⟨Afo,⟨AfI,trivial,trivial⟩,trivial⟩⟩⟩⟩⟩,⟨trivial,⟨Ae9,⟨trivial,⟨ZP,⟨bN,⟨dC,trivial,trivial⟩,⟨dZ,trivial,trivial⟩⟩,⟨Afh,⟨Afw,trivial,trivial⟩,⟨vO,trivial,trivial⟩⟩⟩,⟨trivial,⟨bT,trivial,⟨vH,trivial,trivial⟩⟩,⟨Afj,⟨AfC,trivial,trivial⟩,trivial⟩⟩⟩,⟨XM,⟨bI,⟨bP,⟨dS,trivial,trivial⟩,⟨vF,trivial,trivial⟩⟩,⟨Afi,⟨AfA,trivial,trivial⟩,trivial⟩⟩,⟨Afc,⟨bX,⟨Afr,trivial,trivial⟩,⟨vK,trivial,trivial⟩⟩,⟨Afn,⟨AfG,trivial,trivial⟩,trivial⟩⟩⟩⟩,⟨trivial,⟨Xf,⟨ZR,⟨Aff,⟨dQ,trivial,trivial⟩,⟨AfK,trivial,trivial⟩⟩,⟨cK,⟨Afy,trivial,trivial⟩,trivial⟩⟩,⟨trivial,⟨bV,trivial,⟨vJ,trivial,trivial⟩⟩,⟨Afl,⟨AfE,trivial,trivial⟩,trivial⟩⟩⟩,⟨ZN,⟨trivial,⟨bR,⟨dV,trivial,trivial⟩,⟨XN,trivial,trivial⟩⟩,⟨cO,⟨dX,trivial,trivial⟩,trivial⟩⟩,⟨Afe,⟨bZ,⟨Afs,trivial,trivial⟩,⟨vM,trivial,trivial⟩⟩,⟨dA,⟨AfJ,trivial,trivial⟩,trivial⟩⟩⟩⟩⟩⟩
theorem MU (f:FuncId) (r:Xq) (h:Gs f=some r):Ar Try.prog [] f r:=Af9.get h
end Go.Proofs.Ytflonlkiajhhjaa.TpM
set_option maxRecDepth 100000
namespace Go.Proofs.Ytflonlkiajhhjaa.TpM
open Go Go.Sp Go.TpMM Go.TpM
noncomputable section
theorem fk4:Ar Try.prog (List.range tabs.length) 4 ⟨367,Nf,[.tmp 10]⟩:=by
 have h:c4=Nf:=by kernel_rfl
 rw[←h];exact Ae9
theorem Aga:Ar Try.prog (List.range tabs.length) 11 ⟨32,Ng,[.tmp 2,.tmp 3]⟩:=by
 have h:c11=Ng:=by kernel_rfl
 rw[←h];exact XL
theorem Agb:Ar Try.prog (List.range tabs.length) 13 ⟨34,Nh,[.tmp 6,.tmp 7]⟩:=by
 have h:c13=Nh:=by kernel_rfl
 rw[←h];exact ZM
theorem Agc:Ar Try.prog (List.range tabs.length) 14 ⟨76,Ni,[.tmp 4]⟩:=by
 have h:c14=Ni:=by kernel_rfl
 rw[←h];exact ZN
theorem Agd:Ar Try.prog (List.range tabs.length) 15 ⟨23,Oi,[.tmp 4,.tmp 5]⟩:=by
 have h:c15=Oi:=by kernel_rfl
 rw[←h];exact ZO
theorem Agf:Ar Try.prog (List.range tabs.length) 16 ⟨107,Ov,[.tmp 4]⟩:=by
 have h:c16=Ov:=by kernel_rfl
 rw[←h];exact ZP
theorem Agg:Ar Try.prog (List.range tabs.length) 17 ⟨26,Ow,[.tmp 4]⟩:=by
 have h:c17=Ow:=by kernel_rfl
 rw[←h];exact ZQ
theorem Agh:Ar Try.prog (List.range tabs.length) 18 ⟨26,Oy,[.tmp 4,.tmp 5,.tmp 6]⟩:=by
 have h:c18=Oy:=by kernel_rfl
 rw[←h];exact ZR
theorem Agi:Ar Try.prog (List.range tabs.length) 19 ⟨33,Oz,[.tmp 4,.tmp 5]⟩:=by
 have h:c19=Oz:=by kernel_rfl
 rw[←h];exact ZT
theorem Agj:Ar Try.prog (List.range tabs.length) 20 ⟨28,OA,[.tmp 4]⟩:=by
 have h:c20=OA:=by kernel_rfl
 rw[←h];exact bI
theorem Agk:Ar Try.prog (List.range tabs.length) 27 ⟨35,OB,[.cell 2 74,.tmp 3]⟩:=by
 have h:c27=OB:=by kernel_rfl
 rw[←h];exact bJ
theorem Agl:Ar Try.prog (List.range tabs.length) 31 ⟨29,OC,[.tmp 2]⟩:=by
 have h:c31=OC:=by kernel_rfl
 rw[←h];exact bM
theorem Agm:Ar Try.prog (List.range tabs.length) 32 ⟨48,OD,[.tmp 4]⟩:=by
 have h:c32=OD:=by kernel_rfl
 rw[←h];exact bN
theorem Agn:Ar Try.prog (List.range tabs.length) 33 ⟨17,QL,[.tmp 4]⟩:=by
 have h:c33=QL:=by kernel_rfl
 rw[←h];exact bO
theorem Ago:Ar Try.prog (List.range tabs.length) 36 ⟨19,OE,[.tmp 4]⟩:=by
 have h:c36=OE:=by kernel_rfl
 rw[←h];exact bP
theorem Agp:Ar Try.prog (List.range tabs.length) 37 ⟨35,OG,[.tmp 6]⟩:=by
 have h:c37=OG:=by kernel_rfl
 rw[←h];exact bQ
theorem Agq:Ar Try.prog (List.range tabs.length) 38 ⟨15,QM,[.tmp 4,.tmp 5]⟩:=by
 have h:c38=QM:=by kernel_rfl
 rw[←h];exact bR
theorem Agr:Ar Try.prog (List.range tabs.length) 39 ⟨63,OH,[.tmp 6,.tmp 7]⟩:=by
 have h:c39=OH:=by kernel_rfl
 rw[←h];exact bS
theorem Ags:Ar Try.prog (List.range tabs.length) 40 ⟨54,OJ,[.tmp 4,.tmp 5]⟩:=by
 have h:c40=OJ:=by kernel_rfl
 rw[←h];exact bT
theorem Agt:Ar Try.prog (List.range tabs.length) 41 ⟨19,OL,[.tmp 2]⟩:=by
 have h:c41=OL:=by kernel_rfl
 rw[←h];exact bU
theorem Agu:Ar Try.prog (List.range tabs.length) 42 ⟨110,OM,[.tmp 2,.tmp 3]⟩:=by
 have h:c42=OM:=by kernel_rfl
 rw[←h];exact bV
theorem Agv:Ar Try.prog (List.range tabs.length) 43 ⟨34,OO,[.tmp 4]⟩:=by
 have h:c43=OO:=by kernel_rfl
 rw[←h];exact bW
theorem Agw:Ar Try.prog (List.range tabs.length) 45 ⟨36,OP,[.tmp 4]⟩:=by
 have h:c45=OP:=by kernel_rfl
 rw[←h];exact bY
theorem Agx:Ar Try.prog (List.range tabs.length) 47 ⟨26,OQ,[.tmp 4]⟩:=by
 have h:c47=OQ:=by kernel_rfl
 rw[←h];exact cB
theorem Agy:Ar Try.prog (List.range tabs.length) 50 ⟨25,OT,[.tmp 2]⟩:=by
 have h:c50=OT:=by kernel_rfl
 rw[←h];exact cK
theorem Agz:Ar Try.prog (List.range tabs.length) 54 ⟨22,OU,[.tmp 6]⟩:=by
 have h:c54=OU:=by kernel_rfl
 rw[←h];exact cO
theorem AgA:Ar Try.prog (List.range tabs.length) 55 ⟨24,OW,[.tmp 4,.tmp 5]⟩:=by
 have h:c55=OW:=by kernel_rfl
 rw[←h];exact cZ
theorem AgB:Ar Try.prog (List.range tabs.length) 62 ⟨15,QN,[.tmp 6]⟩:=by
 have h:c62=QN:=by kernel_rfl
 rw[←h];exact dA
theorem AgC:Ar Try.prog (List.range tabs.length) 63 ⟨18,OX,[.cell 2 122]⟩:=by
 have h:c63=OX:=by kernel_rfl
 rw[←h];exact dB
theorem AgD:Ar Try.prog (List.range tabs.length) 65 ⟨22,QO,[.cell 4 122]⟩:=by
 have h:c65=QO:=by kernel_rfl
 rw[←h];exact dP
theorem AgE:Ar Try.prog (List.range tabs.length) 66 ⟨22,OZ,[.tmp 2]⟩:=by
 have h:c66=OZ:=by kernel_rfl
 rw[←h];exact dQ
theorem AgF:Ar Try.prog (List.range tabs.length) 67 ⟨25,O0,[.tmp 2]⟩:=by
 have h:c67=O0:=by kernel_rfl
 rw[←h];exact dR
theorem AgG:Ar Try.prog (List.range tabs.length) 69 ⟨8,QR,[.tmp 2]⟩:=by
 have h:c69=QR:=by kernel_rfl
 rw[←h];exact dU
theorem AgH:Ar Try.prog (List.range tabs.length) 70 ⟨20,O1,[.tmp 4]⟩:=by
 have h:c70=O1:=by kernel_rfl
 rw[←h];exact dV
theorem AgI:Ar Try.prog (List.range tabs.length) 95 ⟨25,O3,[.tmp 2]⟩:=by
 have h:c95=O3:=by kernel_rfl
 rw[←h];exact dY
theorem AgJ:Ar Try.prog (List.range tabs.length) 96 ⟨6,QS,[.tmp 2]⟩:=by
 have h:c96=QS:=by kernel_rfl
 rw[←h];exact dZ
theorem fk5:Ar Try.prog (List.range tabs.length) 5 ⟨4,VU,[.tmp 2]⟩:=by
 have h:c5=VU:=by kernel_rfl
 rw[←h];exact Afa
theorem AgK:Ar Try.prog (List.range tabs.length) 44 ⟨14,Pi,[]⟩:=by
 have h:c44=Pi:=by kernel_rfl
 rw[←h];exact bX
theorem AgL:Ar Try.prog (List.range tabs.length) 68 ⟨148,Kc,[]⟩:=by
 have h:c68=Kc:=by kernel_rfl
 rw[←h];exact dS
theorem AgM:Ar Try.prog (List.range tabs.length) 86 ⟨53,Ke,[]⟩:=by
 have h:c86=Ke:=by kernel_rfl
 rw[←h];exact dX
theorem AgN:Ar Try.prog (List.range tabs.length) 46 ⟨66,Kg,[.tmp 4]⟩:=by
 have h:c46=Kg:=by kernel_rfl
 rw[←h];exact bZ
theorem eF:Ar Try.prog (List.range tabs.length) 102 ⟨32,Hy,[]⟩:=by
 have h:V3=Hy:=by kernel_rfl
 rw[←h];exact XN
theorem Co:∀ t∈tabs,t≠[]:=by intro t ht;cases ht
theorem Cs:∀ t∈tabs,∀ x∈t,BR x=true:=by intro t ht;cases ht
theorem QC (hm:Try.prog.follows .mixedOrders=true) {pu:Af} (hg85:BA Try.prog tabs 85 (pu 85)) (hg19:BA Try.prog tabs 19 (pu 19)) (h0:Cn Try.prog tabs 1 0 5 (pu 10050)) (h1:Cn Try.prog tabs 2 1 44 (pu 10440)) (h2:Cn Try.prog tabs 5 1 68 (pu 10680)) (h3:Cn Try.prog tabs 4 1 86 (pu 10860)) (h4:Cn Try.prog tabs 2 1 46 (pu 10460)) (h5:Cn Try.prog tabs 2 4 102 (pu 11020)):CO Try.prog (List.range tabs.length) (inl pu):=fun g args H v H' h=>by
 replace h:bb (Nat.beq g 85) (Hr tabs 1 (pu 85) args H) (bb (Nat.beq g 19) (Hr tabs 1 (pu 19) args H) (bb (Nat.beq g 5) (Gp tabs [[some 1]] 1 [] [] (pu 10050) args H) (bb (Nat.beq g 44) (Gp tabs [[none],[none]] 2 [.tmp 0 false] [false] (pu 10440) args H) (bb (Nat.beq g 68) (Gp tabs [[none],[none],[none],[none],[none]] 5 [.tmp 0 false] [false] (pu 10680) args H) (bb (Nat.beq g 86) (Gp tabs [[none],[none],[none],[none]] 4 [.tmp 0 false] [false] (pu 10860) args H) (bb (Nat.beq g 46) (Gp tabs [[none],[none]] 2 [.tmp 0 false] [false] (pu 10460) args H) (bb (Nat.beq g 102) (Gp tabs [[none],[none]] 2 [.tmp 0 true,.tmp 1 false,.cell 0 1 false,.cell 0 2 false] [true,false,false,false] (pu 11020) args H) (none))))))))=some (v,H'):=h
 have hq:=Ag h;clear h;rcases hq with⟨e,h⟩ | ⟨_,h⟩
 ·obtain rfl:=Nat.eq_of_beq_eq_true e
  exact Og Co Cs hg85 h
 have hq:=Ag h;clear h;rcases hq with⟨e,h⟩ | ⟨_,h⟩
 ·obtain rfl:=Nat.eq_of_beq_eq_true e
  exact Og Co Cs hg19 h
 have hq:=Ag h;clear h;rcases hq with⟨e,h⟩ | ⟨_,h⟩
 ·obtain rfl:=Nat.eq_of_beq_eq_true e
  exact Gy (rs:=[]) Co Cs h0 h
 have hq:=Ag h;clear h;rcases hq with⟨e,h⟩ | ⟨_,h⟩
 ·obtain rfl:=Nat.eq_of_beq_eq_true e
  exact Gy (rs:=[.tmp 0 false]) Co Cs h1 h
 have hq:=Ag h;clear h;rcases hq with⟨e,h⟩ | ⟨_,h⟩
 ·obtain rfl:=Nat.eq_of_beq_eq_true e
  exact Gy (rs:=[.tmp 0 false]) Co Cs h2 h
 have hq:=Ag h;clear h;rcases hq with⟨e,h⟩ | ⟨_,h⟩
 ·obtain rfl:=Nat.eq_of_beq_eq_true e
  exact Gy (rs:=[.tmp 0 false]) Co Cs h3 h
 have hq:=Ag h;clear h;rcases hq with⟨e,h⟩ | ⟨_,h⟩
 ·obtain rfl:=Nat.eq_of_beq_eq_true e
  exact Gy (rs:=[.tmp 0 false]) Co Cs h4 h
 have hq:=Ag h;clear h;rcases hq with⟨e,h⟩ | ⟨_,h⟩
 ·obtain rfl:=Nat.eq_of_beq_eq_true e
  exact Gy (rs:=[.tmp 0 true,.tmp 1 false,.cell 0 1 false,.cell 0 2 false]) Co Cs h5 h
 cases h
theorem Yw (hm:Try.prog.follows .mixedOrders=true) (hw:BA Try.prog tabs 64 RQ∧BA Try.prog tabs 85 RS∧BA Try.prog tabs 10 RU∧BA Try.prog tabs 12 RX) {pu:Af} (hall:(∀ g,isP g=true→BA Try.prog tabs g (pu g))∧BA Try.prog tabs 85 (pu 85)∧BA Try.prog tabs 19 (pu 19)∧Cn Try.prog tabs 1 0 5 (pu 10050)∧Cn Try.prog tabs 2 1 44 (pu 10440)∧Cn Try.prog tabs 5 1 68 (pu 10680)∧Cn Try.prog tabs 4 1 86 (pu 10860)∧Cn Try.prog tabs 2 1 46 (pu 10460)∧Cn Try.prog tabs 2 4 102 (pu 11020)):(∀ g,isP g=true→BA Try.prog tabs g (MF pu g))∧BA Try.prog tabs 85 (MF pu 85)∧BA Try.prog tabs 19 (MF pu 19)∧Cn Try.prog tabs 1 0 5 (MF pu 10050)∧Cn Try.prog tabs 2 1 44 (MF pu 10440)∧Cn Try.prog tabs 5 1 68 (MF pu 10680)∧Cn Try.prog tabs 4 1 86 (MF pu 10860)∧Cn Try.prog tabs 2 1 46 (MF pu 10460)∧Cn Try.prog tabs 2 4 102 (MF pu 11020):=by
 obtain⟨hpu,hg85,hg19,h0,h4,h5,h6,h7,h8⟩:=hall
 have hcall:=TG (P:=Try.prog) (tabs:=tabs) Co Cs (QC hm hg85 hg19 h0 h4 h5 h6 h7 h8) hpu
 refine⟨fun g hg=>?_,?_,?_,?_,?_,?_,?_,?_,?_⟩
 ·have hg:g∈Pp:=CS.1 hg
  simp only[Pp,List.mem_cons,List.not_mem_nil,or_false] at hg
  rcases hg with rfl | rfl | rfl | rfl | rfl | rfl | rfl | rfl | rfl | rfl | rfl | rfl | rfl | rfl | rfl | rfl | rfl | rfl | rfl | rfl | rfl | rfl | rfl | rfl | rfl | rfl | rfl | rfl | rfl | rfl | rfl | rfl | rfl | rfl | rfl | rfl | rfl | rfl
  ·exact Aw (tabs:=tabs) (f:=m4 pu L) BO hm hcall fk4 fun args v h hc=>r4 pu L rfl h hc
  ·exact hw.2.2.1
  ·exact Aw (tabs:=tabs) (f:=m11 pu L) BO hm hcall Aga fun args v h hc=>r11 pu L rfl h hc
  ·exact hw.2.2.2
  ·exact Aw (tabs:=tabs) (f:=m13 pu L) BO hm hcall Agb fun args v h hc=>r13 pu L rfl h hc
  ·exact Aw (tabs:=tabs) (f:=m14 pu L) BO hm hcall Agc fun args v h hc=>r14 pu L rfl h hc
  ·exact Aw (tabs:=tabs) (f:=m15 pu L) BO hm hcall Agd fun args v h hc=>r15 pu L rfl h hc
  ·exact Aw (tabs:=tabs) (f:=m16 pu L) BO hm hcall Agf fun args v h hc=>r16 pu L rfl h hc
  ·exact Aw (tabs:=tabs) (f:=m17 pu L) BO hm hcall Agg fun args v h hc=>r17 pu L rfl h hc
  ·exact Aw (tabs:=tabs) (f:=m18 pu L) BO hm hcall Agh fun args v h hc=>r18 pu L rfl h hc
  ·exact Aw (tabs:=tabs) (f:=m20 pu L) BO hm hcall Agj fun args v h hc=>r20 pu L rfl h hc
  ·exact Aw (tabs:=tabs) (f:=m27 pu L) BO hm hcall Agk fun args v h hc=>r27 pu L rfl h hc
  ·exact Aw (tabs:=tabs) (f:=m31 pu L) BO hm hcall Agl fun args v h hc=>r31 pu L rfl h hc
  ·exact Aw (tabs:=tabs) (f:=m32 pu L) BO hm hcall Agm fun args v h hc=>r32 pu L rfl h hc
  ·exact Aw (tabs:=tabs) (f:=m33 pu L) BO hm hcall Agn fun args v h hc=>r33 pu L rfl h hc
  ·exact Aw (tabs:=tabs) (f:=m36 pu L) BO hm hcall Ago fun args v h hc=>r36 pu L rfl h hc
  ·exact Aw (tabs:=tabs) (f:=m37 pu L) BO hm hcall Agp fun args v h hc=>r37 pu L rfl h hc
  ·exact Aw (tabs:=tabs) (f:=m38 pu L) BO hm hcall Agq fun args v h hc=>r38 pu L rfl h hc
  ·exact Aw (tabs:=tabs) (f:=m39 pu L) BO hm hcall Agr fun args v h hc=>r39 pu L rfl h hc
  ·exact Aw (tabs:=tabs) (f:=m40 pu L) BO hm hcall Ags fun args v h hc=>r40 pu L rfl h hc
  ·exact Aw (tabs:=tabs) (f:=m41 pu L) BO hm hcall Agt fun args v h hc=>r41 pu L rfl h hc
  ·exact Aw (tabs:=tabs) (f:=m42 pu L) BO hm hcall Agu fun args v h hc=>r42 pu L rfl h hc
  ·exact Aw (tabs:=tabs) (f:=m43 pu L) BO hm hcall Agv fun args v h hc=>r43 pu L rfl h hc
  ·exact Aw (tabs:=tabs) (f:=m45 pu L) BO hm hcall Agw fun args v h hc=>r45 pu L rfl h hc
  ·exact Aw (tabs:=tabs) (f:=m47 pu L) BO hm hcall Agx fun args v h hc=>r47 pu L rfl h hc
  ·exact Aw (tabs:=tabs) (f:=m50 pu L) BO hm hcall Agy fun args v h hc=>r50 pu L rfl h hc
  ·exact Aw (tabs:=tabs) (f:=m54 pu L) BO hm hcall Agz fun args v h hc=>r54 pu L rfl h hc
  ·exact Aw (tabs:=tabs) (f:=m55 pu L) BO hm hcall AgA fun args v h hc=>r55 pu L rfl h hc
  ·exact Aw (tabs:=tabs) (f:=m62 pu L) BO hm hcall AgB fun args v h hc=>r62 pu L rfl h hc
  ·exact Aw (tabs:=tabs) (f:=m63 pu L) BO hm hcall AgC fun args v h hc=>r63 pu L rfl h hc
  ·exact hw.1
  ·exact Aw (tabs:=tabs) (f:=m65 pu L) BO hm hcall AgD fun args v h hc=>r65 pu L rfl h hc
  ·exact Aw (tabs:=tabs) (f:=m66 pu L) BO hm hcall AgE fun args v h hc=>r66 pu L rfl h hc
  ·exact Aw (tabs:=tabs) (f:=m67 pu L) BO hm hcall AgF fun args v h hc=>r67 pu L rfl h hc
  ·exact Aw (tabs:=tabs) (f:=m69 pu L) BO hm hcall AgG fun args v h hc=>r69 pu L rfl h hc
  ·exact Aw (tabs:=tabs) (f:=m70 pu L) BO hm hcall AgH fun args v h hc=>r70 pu L rfl h hc
  ·exact Aw (tabs:=tabs) (f:=m95 pu L) BO hm hcall AgI fun args v h hc=>r95 pu L rfl h hc
  ·exact Aw (tabs:=tabs) (f:=m96 pu L) BO hm hcall AgJ fun args v h hc=>r96 pu L rfl h hc
 ·exact hw.2.1
 ·exact Aw (tabs:=tabs) (f:=m19 pu L) BO hm hcall Agi fun args v h hc=>r19 pu L rfl h hc
 ·exact C8 (tabs:=tabs) (f:=KV pu L) BO hm hcall fk5 fun args os z h1 h2 h3 h=>uT pu L rfl h1 h2 h3 h
 ·exact C8 (tabs:=tabs) (f:=KW pu L) BO hm hcall AgK fun args os z h1 h2 h3 h=>uV pu L rfl h1 h2 h3 h
 ·exact C8 (tabs:=tabs) (f:=K3 pu L) BO hm hcall AgL fun args os z h1 h2 h3 h=>uX pu L rfl h1 h2 h3 h
 ·exact C8 (tabs:=tabs) (f:=K7 pu L) BO hm hcall AgM fun args os z h1 h2 h3 h=>uZ pu L rfl h1 h2 h3 h
 ·exact C8 (tabs:=tabs) (f:=LM pu L) BO hm hcall AgN fun args os z h1 h2 h3 h=>vC pu L rfl h1 h2 h3 h
 ·exact C8 (tabs:=tabs) (f:=LW pu L) BO hm hcall eF fun args os z h1 h2 h3 h=>vE pu L rfl h1 h2 h3 h
theorem QE (hm:Try.prog.follows .mixedOrders=true) (hw:BA Try.prog tabs 64 RQ∧BA Try.prog tabs 85 RS∧BA Try.prog tabs 10 RU∧BA Try.prog tabs 12 RX):∀ n,(∀ g,isP g=true→BA Try.prog tabs g (X0 n g))∧BA Try.prog tabs 85 (X0 n 85)∧BA Try.prog tabs 19 (X0 n 19)∧Cn Try.prog tabs 1 0 5 (X0 n 10050)∧Cn Try.prog tabs 2 1 44 (X0 n 10440)∧Cn Try.prog tabs 5 1 68 (X0 n 10680)∧Cn Try.prog tabs 4 1 86 (X0 n 10860)∧Cn Try.prog tabs 2 1 46 (X0 n 10460)∧Cn Try.prog tabs 2 4 102 (X0 n 11020):=fun n=>by
 induction n with
 | zero =>
  refine⟨fun g hg=>?_,?_,?_,?_,?_,?_,?_,?_,?_⟩
  ·have hg:g∈Pp:=CS.1 hg
   simp only[Pp,List.mem_cons,List.not_mem_nil,or_false] at hg
   rcases hg with rfl | rfl | rfl | rfl | rfl | rfl | rfl | rfl | rfl | rfl | rfl | rfl | rfl | rfl | rfl | rfl | rfl | rfl | rfl | rfl | rfl | rfl | rfl | rfl | rfl | rfl | rfl | rfl | rfl | rfl | rfl | rfl | rfl | rfl | rfl | rfl | rfl | rfl
   ·exact⟨A9 fk4,fun args v h=>by cases h⟩
   ·exact⟨(hw.2.2.1).1,fun args v h=>by cases h⟩
   ·exact⟨A9 Aga,fun args v h=>by cases h⟩
   ·exact⟨(hw.2.2.2).1,fun args v h=>by cases h⟩
   ·exact⟨A9 Agb,fun args v h=>by cases h⟩
   ·exact⟨A9 Agc,fun args v h=>by cases h⟩
   ·exact⟨A9 Agd,fun args v h=>by cases h⟩
   ·exact⟨A9 Agf,fun args v h=>by cases h⟩
   ·exact⟨A9 Agg,fun args v h=>by cases h⟩
   ·exact⟨A9 Agh,fun args v h=>by cases h⟩
   ·exact⟨A9 Agj,fun args v h=>by cases h⟩
   ·exact⟨A9 Agk,fun args v h=>by cases h⟩
   ·exact⟨A9 Agl,fun args v h=>by cases h⟩
   ·exact⟨A9 Agm,fun args v h=>by cases h⟩
   ·exact⟨A9 Agn,fun args v h=>by cases h⟩
   ·exact⟨A9 Ago,fun args v h=>by cases h⟩
   ·exact⟨A9 Agp,fun args v h=>by cases h⟩
   ·exact⟨A9 Agq,fun args v h=>by cases h⟩
   ·exact⟨A9 Agr,fun args v h=>by cases h⟩
   ·exact⟨A9 Ags,fun args v h=>by cases h⟩
   ·exact⟨A9 Agt,fun args v h=>by cases h⟩
   ·exact⟨A9 Agu,fun args v h=>by cases h⟩
   ·exact⟨A9 Agv,fun args v h=>by cases h⟩
   ·exact⟨A9 Agw,fun args v h=>by cases h⟩
   ·exact⟨A9 Agx,fun args v h=>by cases h⟩
   ·exact⟨A9 Agy,fun args v h=>by cases h⟩
   ·exact⟨A9 Agz,fun args v h=>by cases h⟩
   ·exact⟨A9 AgA,fun args v h=>by cases h⟩
   ·exact⟨A9 AgB,fun args v h=>by cases h⟩
   ·exact⟨A9 AgC,fun args v h=>by cases h⟩
   ·exact⟨(hw.1).1,fun args v h=>by cases h⟩
   ·exact⟨A9 AgD,fun args v h=>by cases h⟩
   ·exact⟨A9 AgE,fun args v h=>by cases h⟩
   ·exact⟨A9 AgF,fun args v h=>by cases h⟩
   ·exact⟨A9 AgG,fun args v h=>by cases h⟩
   ·exact⟨A9 AgH,fun args v h=>by cases h⟩
   ·exact⟨A9 AgI,fun args v h=>by cases h⟩
   ·exact⟨A9 AgJ,fun args v h=>by cases h⟩
  ·exact⟨(hw.2.1).1,fun args v h=>by cases h⟩
  ·exact⟨A9 Agi,fun args v h=>by cases h⟩
  ·exact⟨A9 fk5,fun args os z h1 h2 h3 h=>by cases h⟩
  ·exact⟨A9 AgK,fun args os z h1 h2 h3 h=>by cases h⟩
  ·exact⟨A9 AgL,fun args os z h1 h2 h3 h=>by cases h⟩
  ·exact⟨A9 AgM,fun args os z h1 h2 h3 h=>by cases h⟩
  ·exact⟨A9 AgN,fun args os z h1 h2 h3 h=>by cases h⟩
  ·exact⟨A9 eF,fun args os z h1 h2 h3 h=>by cases h⟩
 | succ n ih=>exact Yw hm hw ih
end
end Go.Proofs.Ytflonlkiajhhjaa.TpM
