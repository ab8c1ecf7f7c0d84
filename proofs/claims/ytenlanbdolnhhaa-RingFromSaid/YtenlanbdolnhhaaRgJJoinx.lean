/- Made from wip. -/
import Derived.Test.YtenlanbdolnhhaaProg
import Derived.Test.YtenlanbdolnhhaaSpObjx
import Derived.Test.YtenlanbdolnhhaaRgJMod0x
import Derived.Test.YtenlanbdolnhhaaRgJPux

set_option maxRecDepth 100000
namespace Go.Proofs.Ytenlanbdolnhhaa.RgJ
open Go Go.Sp Go.RgJ
theorem b13:(match Try.f13.body with | some c=>rcOf c c13 | none=>none)=some c13:=by kernel_rfl
theorem p13:(match Try.f13.body with | some c=>codeB [] c | none=>false)=true:=by kernel_rfl
theorem fok13:FnOk Try.prog [] 13 ⟨146,c13,[.tmp 2]⟩:=FnOk.by Try.func13 b13 p13 Try.ntmps13 (by rw[Try.results13]) (by kernel_rfl)
theorem b14:(match Try.f14.body with | some c=>rcOf c c14 | none=>none)=some c14:=by kernel_rfl
theorem p14:(match Try.f14.body with | some c=>codeB [] c | none=>false)=true:=by kernel_rfl
theorem fok14:FnOk Try.prog [] 14 ⟨262,c14,[.tmp 0]⟩:=FnOk.by Try.func14 b14 p14 Try.ntmps14 (by rw[Try.results14]) (by kernel_rfl)
theorem b15:(match Try.f15.body with | some c=>rcOf c c15 | none=>none)=some c15:=by kernel_rfl
theorem p15:(match Try.f15.body with | some c=>codeB [] c | none=>false)=true:=by kernel_rfl
theorem fok15:FnOk Try.prog [] 15 ⟨53,c15,[.tmp 2,.tmp 3]⟩:=FnOk.by Try.func15 b15 p15 Try.ntmps15 (by rw[Try.results15]) (by kernel_rfl)
theorem b17:(match Try.f17.body with | some c=>rcOf c c17 | none=>none)=some c17:=by kernel_rfl
theorem p17:(match Try.f17.body with | some c=>codeB [] c | none=>false)=true:=by kernel_rfl
theorem fok17:FnOk Try.prog [] 17 ⟨23,c17,[.cell 4 24,.tmp 5]⟩:=FnOk.by Try.func17 b17 p17 Try.ntmps17 (by rw[Try.results17]) (by kernel_rfl)
theorem b19:(match Try.f19.body with | some c=>rcOf c c19 | none=>none)=some c19:=by kernel_rfl
theorem p19:(match Try.f19.body with | some c=>codeB [] c | none=>false)=true:=by kernel_rfl
theorem fok19:FnOk Try.prog [] 19 ⟨18,c19,[.cell 2 24,.tmp 3]⟩:=FnOk.by Try.func19 b19 p19 Try.ntmps19 (by rw[Try.results19]) (by kernel_rfl)
theorem b21:(match Try.f21.body with | some c=>rcOf c c21 | none=>none)=some c21:=by kernel_rfl
theorem p21:(match Try.f21.body with | some c=>codeB [] c | none=>false)=true:=by kernel_rfl
theorem fok21:FnOk Try.prog [] 21 ⟨62,c21,[.tmp 4,.tmp 5,.tmp 6]⟩:=FnOk.by Try.func21 b21 p21 Try.ntmps21 (by rw[Try.results21]) (by kernel_rfl)
theorem b23:(match Try.f23.body with | some c=>rcOf c c23 | none=>none)=some c23:=by kernel_rfl
theorem p23:(match Try.f23.body with | some c=>codeB [] c | none=>false)=true:=by kernel_rfl
theorem fok23:FnOk Try.prog [] 23 ⟨26,c23,[.tmp 4]⟩:=FnOk.by Try.func23 b23 p23 Try.ntmps23 (by rw[Try.results23]) (by kernel_rfl)
theorem b24:(match Try.f24.body with | some c=>rcOf c c24 | none=>none)=some c24:=by kernel_rfl
theorem p24:(match Try.f24.body with | some c=>codeB [] c | none=>false)=true:=by kernel_rfl
theorem fok24:FnOk Try.prog [] 24 ⟨17,c24,[.tmp 4]⟩:=FnOk.by Try.func24 b24 p24 Try.ntmps24 (by rw[Try.results24]) (by kernel_rfl)
theorem b25:(match Try.f25.body with | some c=>rcOf c c25 | none=>none)=some c25:=by kernel_rfl
theorem p25:(match Try.f25.body with | some c=>codeB [] c | none=>false)=true:=by kernel_rfl
theorem fok25:FnOk Try.prog [] 25 ⟨42,c25,[.tmp 2]⟩:=FnOk.by Try.func25 b25 p25 Try.ntmps25 (by rw[Try.results25]) (by kernel_rfl)
theorem b27:(match Try.f27.body with | some c=>rcOf c c27 | none=>none)=some c27:=by kernel_rfl
theorem p27:(match Try.f27.body with | some c=>codeB [] c | none=>false)=true:=by kernel_rfl
theorem fok27:FnOk Try.prog [] 27 ⟨16,c27,[.tmp 2,.tmp 3]⟩:=FnOk.by Try.func27 b27 p27 Try.ntmps27 (by rw[Try.results27]) (by kernel_rfl)
theorem b29:(match Try.f29.body with | some c=>rcOf c c29 | none=>none)=some c29:=by kernel_rfl
theorem p29:(match Try.f29.body with | some c=>codeB [] c | none=>false)=true:=by kernel_rfl
theorem fok29:FnOk Try.prog [] 29 ⟨19,c29,[.tmp 2,.tmp 3]⟩:=FnOk.by Try.func29 b29 p29 Try.ntmps29 (by rw[Try.results29]) (by kernel_rfl)
theorem b31:(match Try.f31.body with | some c=>rcOf c c31 | none=>none)=some c31:=by kernel_rfl
theorem p31:(match Try.f31.body with | some c=>codeB [] c | none=>false)=true:=by kernel_rfl
theorem fok31:FnOk Try.prog [] 31 ⟨16,c31,[.tmp 2,.tmp 3]⟩:=FnOk.by Try.func31 b31 p31 Try.ntmps31 (by rw[Try.results31]) (by kernel_rfl)
theorem b33:(match Try.f33.body with | some c=>rcOf c c33 | none=>none)=some c33:=by kernel_rfl
theorem p33:(match Try.f33.body with | some c=>codeB [] c | none=>false)=true:=by kernel_rfl
theorem fok33:FnOk Try.prog [] 33 ⟨39,c33,[.tmp 4,.tmp 5]⟩:=FnOk.by Try.func33 b33 p33 Try.ntmps33 (by rw[Try.results33]) (by kernel_rfl)
theorem b35:(match Try.f35.body with | some c=>rcOf c c35 | none=>none)=some c35:=by kernel_rfl
theorem p35:(match Try.f35.body with | some c=>codeB [] c | none=>false)=true:=by kernel_rfl
theorem fok35:FnOk Try.prog [] 35 ⟨40,c35,[.cell 4 24,.tmp 5]⟩:=FnOk.by Try.func35 b35 p35 Try.ntmps35 (by rw[Try.results35]) (by kernel_rfl)
theorem b37:(match Try.f37.body with | some c=>rcOf c c37 | none=>none)=some c37:=by kernel_rfl
theorem p37:(match Try.f37.body with | some c=>codeB [] c | none=>false)=true:=by kernel_rfl
theorem fok37:FnOk Try.prog [] 37 ⟨62,c37,[.tmp 4,.tmp 5]⟩:=FnOk.by Try.func37 b37 p37 Try.ntmps37 (by rw[Try.results37]) (by kernel_rfl)
theorem b39:(match Try.f39.body with | some c=>rcOf c c39 | none=>none)=some c39:=by kernel_rfl
theorem p39:(match Try.f39.body with | some c=>codeB [] c | none=>false)=true:=by kernel_rfl
theorem fok39:FnOk Try.prog [] 39 ⟨27,c39,[.tmp 4]⟩:=FnOk.by Try.func39 b39 p39 Try.ntmps39 (by rw[Try.results39]) (by kernel_rfl)
theorem b40:(match Try.f40.body with | some c=>rcOf c c40 | none=>none)=some c40:=by kernel_rfl
theorem p40:(match Try.f40.body with | some c=>codeB [] c | none=>false)=true:=by kernel_rfl
theorem fok40:FnOk Try.prog [] 40 ⟨39,c40,[.cell 4 24,.tmp 5]⟩:=FnOk.by Try.func40 b40 p40 Try.ntmps40 (by rw[Try.results40]) (by kernel_rfl)
theorem b42:(match Try.f42.body with | some c=>rcOf c c42 | none=>none)=some c42:=by kernel_rfl
theorem p42:(match Try.f42.body with | some c=>codeB [] c | none=>false)=true:=by kernel_rfl
theorem fok42:FnOk Try.prog [] 42 ⟨43,c42,[.tmp 2,.tmp 3]⟩:=FnOk.by Try.func42 b42 p42 Try.ntmps42 (by rw[Try.results42]) (by kernel_rfl)
theorem b44:(match Try.f44.body with | some c=>rcOf c c44 | none=>none)=some c44:=by kernel_rfl
theorem p44:(match Try.f44.body with | some c=>codeB [] c | none=>false)=true:=by kernel_rfl
theorem fok44:FnOk Try.prog [] 44 ⟨54,c44,[.tmp 2,.tmp 3]⟩:=FnOk.by Try.func44 b44 p44 Try.ntmps44 (by rw[Try.results44]) (by kernel_rfl)
theorem b46:(match Try.f46.body with | some c=>rcOf c c46 | none=>none)=some c46:=by kernel_rfl
theorem p46:(match Try.f46.body with | some c=>codeB [] c | none=>false)=true:=by kernel_rfl
theorem fok46:FnOk Try.prog [] 46 ⟨29,c46,[.tmp 4,.tmp 5]⟩:=FnOk.by Try.func46 b46 p46 Try.ntmps46 (by rw[Try.results46]) (by kernel_rfl)
theorem b47:(match Try.f47.body with | some c=>rcOf c c47 | none=>none)=some c47:=by kernel_rfl
theorem p47:(match Try.f47.body with | some c=>codeB [] c | none=>false)=true:=by kernel_rfl
theorem fok47:FnOk Try.prog [] 47 ⟨9,c47,[.cell 4 24]⟩:=FnOk.by Try.func47 b47 p47 Try.ntmps47 (by rw[Try.results47]) (by kernel_rfl)
theorem b48:(match Try.f48.body with | some c=>rcOf c c48 | none=>none)=some c48:=by kernel_rfl
theorem p48:(match Try.f48.body with | some c=>codeB [] c | none=>false)=true:=by kernel_rfl
theorem fok48:FnOk Try.prog [] 48 ⟨19,c48,[.tmp 2]⟩:=FnOk.by Try.func48 b48 p48 Try.ntmps48 (by rw[Try.results48]) (by kernel_rfl)
theorem b49:(match Try.f49.body with | some c=>rcOf c c49 | none=>none)=some c49:=by kernel_rfl
theorem p49:(match Try.f49.body with | some c=>codeB [] c | none=>false)=true:=by kernel_rfl
theorem fok49:FnOk Try.prog [] 49 ⟨35,c49,[.tmp 8]⟩:=FnOk.by Try.func49 b49 p49 Try.ntmps49 (by rw[Try.results49]) (by kernel_rfl)
theorem b50:(match Try.f50.body with | some c=>rcOf c c50 | none=>none)=some c50:=by kernel_rfl
theorem p50:(match Try.f50.body with | some c=>codeB [] c | none=>false)=true:=by kernel_rfl
theorem fok50:FnOk Try.prog [] 50 ⟨21,c50,[.tmp 2]⟩:=FnOk.by Try.func50 b50 p50 Try.ntmps50 (by rw[Try.results50]) (by kernel_rfl)
theorem b51:(match Try.f51.body with | some c=>rcOf c c51 | none=>none)=some c51:=by kernel_rfl
theorem p51:(match Try.f51.body with | some c=>codeB [] c | none=>false)=true:=by kernel_rfl
theorem fok51:FnOk Try.prog [] 51 ⟨23,c51,[.tmp 4]⟩:=FnOk.by Try.func51 b51 p51 Try.ntmps51 (by rw[Try.results51]) (by kernel_rfl)
end Go.Proofs.Ytenlanbdolnhhaa.RgJ
set_option maxRecDepth 100000
namespace Go.Proofs.Ytenlanbdolnhhaa.RgJ
open Go Go.Sp Go.RgJ
theorem b52:(match Try.f52.body with | some c=>rcOf c c52 | none=>none)=some c52:=by kernel_rfl
theorem p52:(match Try.f52.body with | some c=>codeB [] c | none=>false)=true:=by kernel_rfl
theorem fok52:FnOk Try.prog [] 52 ⟨36,c52,[.tmp 4]⟩:=FnOk.by Try.func52 b52 p52 Try.ntmps52 (by rw[Try.results52]) (by kernel_rfl)
theorem b54:(match Try.f54.body with | some c=>rcOf c c54 | none=>none)=some c54:=by kernel_rfl
theorem p54:(match Try.f54.body with | some c=>codeB [] c | none=>false)=true:=by kernel_rfl
theorem fok54:FnOk Try.prog [] 54 ⟨8,c54,[.cell 4 24]⟩:=FnOk.by Try.func54 b54 p54 Try.ntmps54 (by rw[Try.results54]) (by kernel_rfl)
theorem b55:(match Try.f55.body with | some c=>rcOf c c55 | none=>none)=some c55:=by kernel_rfl
theorem p55:(match Try.f55.body with | some c=>codeB [] c | none=>false)=true:=by kernel_rfl
theorem fok55:FnOk Try.prog [] 55 ⟨4,c55,[.tmp 2]⟩:=FnOk.by Try.func55 b55 p55 Try.ntmps55 (by rw[Try.results55]) (by kernel_rfl)
theorem b56:(match Try.f56.body with | some c=>rcOf c c56 | none=>none)=some c56:=by kernel_rfl
theorem p56:(match Try.f56.body with | some c=>codeB [] c | none=>false)=true:=by kernel_rfl
theorem fok56:FnOk Try.prog [] 56 ⟨17,c56,[.tmp 6]⟩:=FnOk.by Try.func56 b56 p56 Try.ntmps56 (by rw[Try.results56]) (by kernel_rfl)
theorem b58:(match Try.f58.body with | some c=>rcOf c c58 | none=>none)=some c58:=by kernel_rfl
theorem p58:(match Try.f58.body with | some c=>codeB [] c | none=>false)=true:=by kernel_rfl
theorem fok58:FnOk Try.prog [] 58 ⟨26,c58,[.tmp 4]⟩:=FnOk.by Try.func58 b58 p58 Try.ntmps58 (by rw[Try.results58]) (by kernel_rfl)
theorem b60:(match Try.f60.body with | some c=>rcOf c c60 | none=>none)=some c60:=by kernel_rfl
theorem p60:(match Try.f60.body with | some c=>codeB [] c | none=>false)=true:=by kernel_rfl
theorem fok60:FnOk Try.prog [] 60 ⟨14,c60,[]⟩:=FnOk.by Try.func60 b60 p60 Try.ntmps60 (by rw[Try.results60]) (by kernel_rfl)
theorem b61:(match Try.f61.body with | some c=>rcOf c c61 | none=>none)=some c61:=by kernel_rfl
theorem p61:(match Try.f61.body with | some c=>codeB [] c | none=>false)=true:=by kernel_rfl
theorem fok61:FnOk Try.prog [] 61 ⟨16,c61,[.cell 2 92,.tmp 3]⟩:=FnOk.by Try.func61 b61 p61 Try.ntmps61 (by rw[Try.results61]) (by kernel_rfl)
theorem b62:(match Try.f62.body with | some c=>rcOf c c62 | none=>none)=some c62:=by kernel_rfl
theorem p62:(match Try.f62.body with | some c=>codeB [] c | none=>false)=true:=by kernel_rfl
theorem fok62:FnOk Try.prog [] 62 ⟨15,c62,[.tmp 4]⟩:=FnOk.by Try.func62 b62 p62 Try.ntmps62 (by rw[Try.results62]) (by kernel_rfl)
theorem b65:(match Try.f65.body with | some c=>rcOf c c65 | none=>none)=some c65:=by kernel_rfl
theorem p65:(match Try.f65.body with | some c=>codeB [] c | none=>false)=true:=by kernel_rfl
theorem fok65:FnOk Try.prog [] 65 ⟨26,c65,[.cell 4 92]⟩:=FnOk.by Try.func65 b65 p65 Try.ntmps65 (by rw[Try.results65]) (by kernel_rfl)
theorem b66:(match Try.f66.body with | some c=>rcOf c c66 | none=>none)=some c66:=by kernel_rfl
theorem p66:(match Try.f66.body with | some c=>codeB [] c | none=>false)=true:=by kernel_rfl
theorem fok66:FnOk Try.prog [] 66 ⟨8,c66,[.cell 2 24]⟩:=FnOk.by Try.func66 b66 p66 Try.ntmps66 (by rw[Try.results66]) (by kernel_rfl)
theorem b68:(match Try.f68.body with | some c=>rcOf c c68 | none=>none)=some c68:=by kernel_rfl
theorem p68:(match Try.f68.body with | some c=>codeB [] c | none=>false)=true:=by kernel_rfl
theorem fok68:FnOk Try.prog [] 68 ⟨36,c68,[.cell 2 92]⟩:=FnOk.by Try.func68 b68 p68 Try.ntmps68 (by rw[Try.results68]) (by kernel_rfl)
theorem b70:(match Try.f70.body with | some c=>rcOf c c70 | none=>none)=some c70:=by kernel_rfl
theorem p70:(match Try.f70.body with | some c=>codeB [] c | none=>false)=true:=by kernel_rfl
theorem fok70:FnOk Try.prog [] 70 ⟨19,c70,[.tmp 4,.tmp 5]⟩:=FnOk.by Try.func70 b70 p70 Try.ntmps70 (by rw[Try.results70]) (by kernel_rfl)
theorem b71:(match Try.f71.body with | some c=>rcOf c c71 | none=>none)=some c71:=by kernel_rfl
theorem p71:(match Try.f71.body with | some c=>codeB [] c | none=>false)=true:=by kernel_rfl
theorem fok71:FnOk Try.prog [] 71 ⟨30,c71,[.cell 4 92]⟩:=FnOk.by Try.func71 b71 p71 Try.ntmps71 (by rw[Try.results71]) (by kernel_rfl)
theorem b74:(match Try.f74.body with | some c=>rcOf c c74 | none=>none)=some c74:=by kernel_rfl
theorem p74:(match Try.f74.body with | some c=>codeB [] c | none=>false)=true:=by kernel_rfl
theorem fok74:FnOk Try.prog [] 74 ⟨24,c74,[.tmp 2]⟩:=FnOk.by Try.func74 b74 p74 Try.ntmps74 (by rw[Try.results74]) (by kernel_rfl)
theorem b76:(match Try.f76.body with | some c=>rcOf c c76 | none=>none)=some c76:=by kernel_rfl
theorem p76:(match Try.f76.body with | some c=>codeB [] c | none=>false)=true:=by kernel_rfl
theorem fok76:FnOk Try.prog [] 76 ⟨27,c76,[.tmp 2]⟩:=FnOk.by Try.func76 b76 p76 Try.ntmps76 (by rw[Try.results76]) (by kernel_rfl)
theorem b78:(match Try.f78.body with | some c=>rcOf c c78 | none=>none)=some c78:=by kernel_rfl
theorem p78:(match Try.f78.body with | some c=>codeB [] c | none=>false)=true:=by kernel_rfl
theorem fok78:FnOk Try.prog [] 78 ⟨15,c78,[.tmp 2]⟩:=FnOk.by Try.func78 b78 p78 Try.ntmps78 (by rw[Try.results78]) (by kernel_rfl)
theorem b80:(match Try.f80.body with | some c=>rcOf c c80 | none=>none)=some c80:=by kernel_rfl
theorem p80:(match Try.f80.body with | some c=>codeB [] c | none=>false)=true:=by kernel_rfl
theorem fok80:FnOk Try.prog [] 80 ⟨19,c80,[.tmp 2]⟩:=FnOk.by Try.func80 b80 p80 Try.ntmps80 (by rw[Try.results80]) (by kernel_rfl)
theorem b81:(match Try.f81.body with | some c=>rcOf c c81 | none=>none)=some c81:=by kernel_rfl
theorem p81:(match Try.f81.body with | some c=>codeB [] c | none=>false)=true:=by kernel_rfl
theorem fok81:FnOk Try.prog [] 81 ⟨48,c81,[.tmp 10]⟩:=FnOk.by Try.func81 b81 p81 Try.ntmps81 (by rw[Try.results81]) (by kernel_rfl)
theorem b82:(match Try.f82.body with | some c=>rcOf c c82 | none=>none)=some c82:=by kernel_rfl
theorem p82:(match Try.f82.body with | some c=>codeB [] c | none=>false)=true:=by kernel_rfl
theorem fok82:FnOk Try.prog [] 82 ⟨6,c82,[.tmp 2]⟩:=FnOk.by Try.func82 b82 p82 Try.ntmps82 (by rw[Try.results82]) (by kernel_rfl)
theorem b83:(match Try.f83.body with | some c=>rcOf c c83 | none=>none)=some c83:=by kernel_rfl
theorem p83:(match Try.f83.body with | some c=>codeB [] c | none=>false)=true:=by kernel_rfl
theorem fok83:FnOk Try.prog [] 83 ⟨11,c83,[.tmp 4]⟩:=FnOk.by Try.func83 b83 p83 Try.ntmps83 (by rw[Try.results83]) (by kernel_rfl)
theorem b85:(match Try.f85.body with | some c=>rcOf c c85 | none=>none)=some c85:=by kernel_rfl
theorem p85:(match Try.f85.body with | some c=>codeB [] c | none=>false)=true:=by kernel_rfl
theorem fok85:FnOk Try.prog [] 85 ⟨25,c85,[.tmp 3]⟩:=FnOk.by Try.func85 b85 p85 Try.ntmps85 (by rw[Try.results85]) (by kernel_rfl)
theorem b86:(match Try.f86.body with | some c=>rcOf c c86 | none=>none)=some c86:=by kernel_rfl
theorem p86:(match Try.f86.body with | some c=>codeB [] c | none=>false)=true:=by kernel_rfl
theorem fok86:FnOk Try.prog [] 86 ⟨38,c86,[.tmp 2]⟩:=FnOk.by Try.func86 b86 p86 Try.ntmps86 (by rw[Try.results86]) (by kernel_rfl)
theorem b87:(match Try.f87.body with | some c=>rcOf c c87 | none=>none)=some c87:=by kernel_rfl
theorem p87:(match Try.f87.body with | some c=>codeB [] c | none=>false)=true:=by kernel_rfl
theorem fok87:FnOk Try.prog [] 87 ⟨20,c87,[.tmp 4]⟩:=FnOk.by Try.func87 b87 p87 Try.ntmps87 (by rw[Try.results87]) (by kernel_rfl)
theorem b88:(match Try.f88.body with | some c=>rcOf c c88 | none=>none)=some c88:=by kernel_rfl
theorem p88:(match Try.f88.body with | some c=>codeB [] c | none=>false)=true:=by kernel_rfl
theorem fok88:FnOk Try.prog [] 88 ⟨26,c88,[.tmp 4]⟩:=FnOk.by Try.func88 b88 p88 Try.ntmps88 (by rw[Try.results88]) (by kernel_rfl)
theorem b89:(match Try.f89.body with | some c=>rcOf c c89 | none=>none)=some c89:=by kernel_rfl
theorem p89:(match Try.f89.body with | some c=>codeB [] c | none=>false)=true:=by kernel_rfl
theorem fok89:FnOk Try.prog [] 89 ⟨23,c89,[.tmp 4]⟩:=FnOk.by Try.func89 b89 p89 Try.ntmps89 (by rw[Try.results89]) (by kernel_rfl)
end Go.Proofs.Ytenlanbdolnhhaa.RgJ
set_option maxRecDepth 100000
namespace Go.Proofs.Ytenlanbdolnhhaa.RgJ
open Go Go.Sp Go.RgJ
theorem b91:(match Try.f91.body with | some c=>rcOf c c91 | none=>none)=some c91:=by kernel_rfl
theorem p91:(match Try.f91.body with | some c=>codeB [] c | none=>false)=true:=by kernel_rfl
theorem fok91:FnOk Try.prog [] 91 ⟨11,c91,[.tmp 4]⟩:=FnOk.by Try.func91 b91 p91 Try.ntmps91 (by rw[Try.results91]) (by kernel_rfl)
theorem b92:(match Try.f92.body with | some c=>rcOf c c92 | none=>none)=some c92:=by kernel_rfl
theorem p92:(match Try.f92.body with | some c=>codeB [] c | none=>false)=true:=by kernel_rfl
theorem fok92:FnOk Try.prog [] 92 ⟨20,c92,[.tmp 4]⟩:=FnOk.by Try.func92 b92 p92 Try.ntmps92 (by rw[Try.results92]) (by kernel_rfl)
theorem b94:(match Try.f94.body with | some c=>rcOf c c94 | none=>none)=some c94:=by kernel_rfl
theorem p94:(match Try.f94.body with | some c=>codeB [] c | none=>false)=true:=by kernel_rfl
theorem fok94:FnOk Try.prog [] 94 ⟨148,c94,[]⟩:=FnOk.by Try.func94 b94 p94 Try.ntmps94 (by rw[Try.results94]) (by kernel_rfl)
theorem b95:(match Try.f95.body with | some c=>rcOf c c95 | none=>none)=some c95:=by kernel_rfl
theorem p95:(match Try.f95.body with | some c=>codeB [] c | none=>false)=true:=by kernel_rfl
theorem fok95:FnOk Try.prog [] 95 ⟨8,c95,[.tmp 2]⟩:=FnOk.by Try.func95 b95 p95 Try.ntmps95 (by rw[Try.results95]) (by kernel_rfl)
theorem b96:(match Try.f96.body with | some c=>rcOf c c96 | none=>none)=some c96:=by kernel_rfl
theorem p96:(match Try.f96.body with | some c=>codeB [] c | none=>false)=true:=by kernel_rfl
theorem fok96:FnOk Try.prog [] 96 ⟨24,c96,[.cell 4 92]⟩:=FnOk.by Try.func96 b96 p96 Try.ntmps96 (by rw[Try.results96]) (by kernel_rfl)
theorem b98:(match Try.f98.body with | some c=>rcOf c c98 | none=>none)=some c98:=by kernel_rfl
theorem p98:(match Try.f98.body with | some c=>codeB [] c | none=>false)=true:=by kernel_rfl
theorem fok98:FnOk Try.prog [] 98 ⟨6,c98,[.tmp 2]⟩:=FnOk.by Try.func98 b98 p98 Try.ntmps98 (by rw[Try.results98]) (by kernel_rfl)
theorem b99:(match Try.f99.body with | some c=>rcOf c c99 | none=>none)=some c99:=by kernel_rfl
theorem p99:(match Try.f99.body with | some c=>codeB [] c | none=>false)=true:=by kernel_rfl
theorem fok99:FnOk Try.prog [] 99 ⟨53,c99,[]⟩:=FnOk.by Try.func99 b99 p99 Try.ntmps99 (by rw[Try.results99]) (by kernel_rfl)
theorem b107:(match Try.f107.body with | some c=>rcOf c c107 | none=>none)=some c107:=by kernel_rfl
theorem p107:(match Try.f107.body with | some c=>codeB [] c | none=>false)=true:=by kernel_rfl
theorem fok107:FnOk Try.prog [] 107 ⟨19,c107,[.tmp 2]⟩:=FnOk.by Try.func107 b107 p107 Try.ntmps107 (by rw[Try.results107]) (by kernel_rfl)
theorem b108:(match Try.f108.body with | some c=>rcOf c c108 | none=>none)=some c108:=by kernel_rfl
theorem p108:(match Try.f108.body with | some c=>codeB [] c | none=>false)=true:=by kernel_rfl
theorem fok108:FnOk Try.prog [] 108 ⟨25,c108,[.tmp 2]⟩:=FnOk.by Try.func108 b108 p108 Try.ntmps108 (by rw[Try.results108]) (by kernel_rfl)
end Go.Proofs.Ytenlanbdolnhhaa.RgJ
set_option maxRecDepth 100000
namespace Go.Proofs.Ytenlanbdolnhhaa.RgJ
open Go Go.Sp Go.RgJ
theorem tok3:TyOk Try.prog 3 ti3:=TyOk.by Try.underlying3 (inf:=Try.t3) (by kernel_rfl) (by kernel_rfl) (by kernel_rfl) (by kernel_rfl) (by kernel_rfl) (fun h=>by cases h)
theorem tok5:TyOk Try.prog 5 ti5:=TyOk.by Try.underlying5 (inf:=Try.t5) (by kernel_rfl) (by kernel_rfl) (by kernel_rfl) (by kernel_rfl) (by kernel_rfl) (fun h=>by cases h)
theorem tok9:TyOk Try.prog 9 ti9:=TyOk.by Try.underlying9 (inf:=Try.t9) (by kernel_rfl) (by kernel_rfl) (by kernel_rfl) (by kernel_rfl) (by kernel_rfl) (fun h=>by cases h)
theorem tok22:TyOk Try.prog 22 ti22:=TyOk.by Try.underlying22 (inf:=Try.t22) (by kernel_rfl) (by kernel_rfl) (by kernel_rfl) (by kernel_rfl) (by kernel_rfl) (fun h=>by cases h)
theorem tok24:TyOk Try.prog 24 ti24:=TyOk.by Try.underlying24 (inf:=Try.t24) (by kernel_rfl) (by kernel_rfl) (by kernel_rfl) (by kernel_rfl) (by kernel_rfl) (fun h=>by cases h)
theorem tok26:TyOk Try.prog 26 ti26:=TyOk.by Try.underlying26 (inf:=Try.t26) (by kernel_rfl) (by kernel_rfl) (by kernel_rfl) (by kernel_rfl) (by kernel_rfl) (fun h=>by cases h)
theorem tok27:TyOk Try.prog 27 ti27:=TyOk.by Try.underlying27 (inf:=Try.t27) (by kernel_rfl) (by kernel_rfl) (by kernel_rfl) (by kernel_rfl) (by kernel_rfl) (fun h=>by cases h)
theorem tok56:TyOk Try.prog 56 ti56:=TyOk.by Try.underlying56 (inf:=Try.t56) (by kernel_rfl) (by kernel_rfl) (by kernel_rfl) (by kernel_rfl) (by kernel_rfl) (fun h=>by cases h)
theorem tok59:TyOk Try.prog 59 ti59:=TyOk.by Try.underlying59 (inf:=Try.t59) (by kernel_rfl) (by kernel_rfl) (by kernel_rfl) (by kernel_rfl) (by kernel_rfl) (fun h=>by cases h)
theorem tok65:TyOk Try.prog 65 ti65:=TyOk.by Try.underlying65 (inf:=Try.t65) (by kernel_rfl) (by kernel_rfl) (by kernel_rfl) (by kernel_rfl) (by kernel_rfl) (fun h=>by cases h)
theorem tok67:TyOk Try.prog 67 ti67:=TyOk.by Try.underlying67 (inf:=Try.t67) (by kernel_rfl) (by kernel_rfl) (by kernel_rfl) (by kernel_rfl) (by kernel_rfl) (fun _=>⟨_,rfl,Fl.ok (d:=8) (⟨by kernel_rfl,.inr (.inr (.inr (.inr ⟨_,Try.underlying67,by kernel_rfl,⟨by decide,rfl,[(.int .u8 0)],[(.int .u32 0)],rfl,⟨by kernel_rfl,.inl ⟨⟨_,Try.underlying5⟩,_,_,rfl⟩⟩,⟨by decide,rfl,[(.int .u32 0)],[],rfl,⟨by kernel_rfl,.inl ⟨⟨_,Try.underlying65⟩,_,_,rfl⟩⟩,rfl⟩⟩⟩)))⟩) (by decide) ⟨_,Try.underlying67,rfl⟩ (by kernel_rfl)⟩)
theorem tok75:TyOk Try.prog 75 ti75:=TyOk.by Try.underlying75 (inf:=Try.t75) (by kernel_rfl) (by kernel_rfl) (by kernel_rfl) (by kernel_rfl) (by kernel_rfl) (fun h=>by cases h)
theorem tok88:TyOk Try.prog 88 ti88:=TyOk.by Try.underlying88 (inf:=Try.t88) (by kernel_rfl) (by kernel_rfl) (by kernel_rfl) (by kernel_rfl) (by kernel_rfl) (fun h=>by cases h)
theorem tok92:TyOk Try.prog 92 ti92:=TyOk.by Try.underlying92 (inf:=Try.t92) (by kernel_rfl) (by kernel_rfl) (by kernel_rfl) (by kernel_rfl) (by kernel_rfl) (fun _=>⟨_,rfl,Fl.ok (d:=8) (⟨by kernel_rfl,.inr (.inr (.inr (.inr ⟨_,Try.underlying92,by kernel_rfl,⟨by decide,rfl,[(.int .i64 0)],[(.int .u32 0)],rfl,⟨by kernel_rfl,.inl ⟨⟨_,Try.underlying3⟩,_,_,rfl⟩⟩,⟨by decide,rfl,[(.int .u32 0)],[],rfl,⟨by kernel_rfl,.inl ⟨⟨_,Try.underlying65⟩,_,_,rfl⟩⟩,rfl⟩⟩⟩)))⟩) (by decide) ⟨_,Try.underlying92,rfl⟩ (by kernel_rfl)⟩)
theorem tok112:TyOk Try.prog 112 ti112:=TyOk.by Try.underlying112 (inf:=Try.t112) (by kernel_rfl) (by kernel_rfl) (by kernel_rfl) (by kernel_rfl) (by kernel_rfl) (fun h=>by cases h)
theorem tok114:TyOk Try.prog 114 ti114:=TyOk.by Try.underlying114 (inf:=Try.t114) (by kernel_rfl) (by kernel_rfl) (by kernel_rfl) (by kernel_rfl) (by kernel_rfl) (fun h=>by cases h)
theorem tok118:TyOk Try.prog 118 ti118:=TyOk.by Try.underlying118 (inf:=Try.t118) (by kernel_rfl) (by kernel_rfl) (by kernel_rfl) (by kernel_rfl) (by kernel_rfl) (fun h=>by cases h)
theorem tok124:TyOk Try.prog 124 ti124:=TyOk.by Try.underlying124 (inf:=Try.t124) (by kernel_rfl) (by kernel_rfl) (by kernel_rfl) (by kernel_rfl) (by kernel_rfl) (fun h=>by cases h)
theorem tok131:TyOk Try.prog 131 ti131:=TyOk.by Try.underlying131 (inf:=Try.t131) (by kernel_rfl) (by kernel_rfl) (by kernel_rfl) (by kernel_rfl) (by kernel_rfl) (fun h=>by cases h)
theorem ttOk:TOk Try.prog tt:=TOk.of_all (t:=ttTr) ⟨trivial,⟨trivial,⟨tok3,trivial,⟨trivial,⟨trivial,⟨trivial,⟨tok67,⟨tok131,trivial,trivial⟩,trivial⟩,trivial⟩,trivial⟩,⟨tok27,⟨trivial,⟨tok75,trivial,trivial⟩,trivial⟩,⟨tok59,trivial,trivial⟩⟩⟩⟩,⟨tok5,⟨tok9,⟨trivial,⟨trivial,⟨tok65,trivial,trivial⟩,trivial⟩,trivial⟩,trivial⟩,trivial⟩⟩,⟨trivial,⟨trivial,⟨trivial,⟨trivial,trivial,⟨trivial,trivial,⟨tok112,trivial,trivial⟩⟩⟩,⟨tok24,trivial,⟨tok56,⟨tok88,trivial,trivial⟩,trivial⟩⟩⟩,⟨trivial,trivial,⟨trivial,trivial,⟨trivial,⟨tok92,trivial,trivial⟩,⟨tok124,trivial,trivial⟩⟩⟩⟩⟩,⟨trivial,⟨trivial,⟨trivial,trivial,⟨trivial,trivial,⟨tok114,trivial,trivial⟩⟩⟩,⟨tok26,trivial,trivial⟩⟩,⟨trivial,⟨tok22,trivial,⟨trivial,trivial,⟨tok118,trivial,trivial⟩⟩⟩,trivial⟩⟩⟩⟩
theorem fnAll:fnTr.All (FnOk Try.prog []):=⟨trivial,⟨trivial,⟨trivial,⟨trivial,⟨fok15,⟨fok31,trivial,⟨fok95,trivial,trivial⟩⟩,⟨fok47,trivial,trivial⟩⟩,⟨fok23,⟨fok39,⟨fok71,trivial,trivial⟩,trivial⟩,⟨fok55,⟨fok87,trivial,trivial⟩,trivial⟩⟩⟩,⟨trivial,⟨fok19,⟨fok35,trivial,⟨fok99,trivial,trivial⟩⟩,⟨fok51,⟨fok83,trivial,trivial⟩,trivial⟩⟩,⟨fok27,⟨trivial,trivial,⟨fok107,trivial,trivial⟩⟩,⟨trivial,⟨fok91,trivial,trivial⟩,trivial⟩⟩⟩⟩,⟨trivial,⟨trivial,⟨fok17,⟨fok33,⟨fok65,trivial,trivial⟩,trivial⟩,⟨fok49,⟨fok81,trivial,trivial⟩,trivial⟩⟩,⟨fok25,trivial,⟨trivial,⟨fok89,trivial,trivial⟩,trivial⟩⟩⟩,⟨fok13,⟨fok21,⟨fok37,trivial,trivial⟩,⟨trivial,⟨fok85,trivial,trivial⟩,trivial⟩⟩,⟨fok29,trivial,⟨fok61,trivial,trivial⟩⟩⟩⟩⟩,⟨trivial,⟨trivial,⟨trivial,⟨trivial,⟨trivial,trivial,⟨fok96,trivial,trivial⟩⟩,⟨fok48,⟨fok80,trivial,trivial⟩,trivial⟩⟩,⟨fok24,⟨fok40,trivial,trivial⟩,⟨fok56,⟨fok88,trivial,trivial⟩,trivial⟩⟩⟩,⟨trivial,⟨trivial,⟨trivial,⟨fok68,trivial,trivial⟩,trivial⟩,⟨fok52,trivial,trivial⟩⟩,⟨trivial,⟨fok44,⟨fok76,trivial,trivial⟩,⟨fok108,trivial,trivial⟩⟩,⟨fok60,⟨fok92,trivial,trivial⟩,trivial⟩⟩⟩⟩,⟨trivial,⟨trivial,⟨trivial,⟨trivial,⟨fok66,trivial,trivial⟩,⟨fok98,trivial,trivial⟩⟩,⟨fok50,⟨fok82,trivial,trivial⟩,trivial⟩⟩,⟨trivial,⟨fok42,⟨fok74,trivial,trivial⟩,trivial⟩,⟨fok58,trivial,trivial⟩⟩⟩,⟨fok14,⟨trivial,⟨trivial,⟨fok70,trivial,trivial⟩,trivial⟩,⟨fok54,⟨fok86,trivial,trivial⟩,trivial⟩⟩,⟨trivial,⟨fok46,⟨fok78,trivial,trivial⟩,trivial⟩,⟨fok62,⟨fok94,trivial,trivial⟩,trivial⟩⟩⟩⟩⟩⟩
theorem fnsOk (f:FuncId) (r:RFn) (h:fns f=some r):FnOk Try.prog [] f r:=fnAll.get h
end Go.Proofs.Ytenlanbdolnhhaa.RgJ
set_option maxRecDepth 100000
namespace Go.Proofs.Ytenlanbdolnhhaa.RgJ
open Go Go.Sp Go.RgJM Go.RgJ
noncomputable section
theorem fk62:FnOk Try.prog (List.range tabs.length) 62 ⟨15,c62_3,[.tmp 4]⟩:=by
 have h:c62=c62_3:=by kernel_rfl
 rw[←h];exact fok62
theorem fk91:FnOk Try.prog (List.range tabs.length) 91 ⟨11,c91_3,[.tmp 4]⟩:=by
 have h:c91=c91_3:=by kernel_rfl
 rw[←h];exact fok91
theorem fk80:FnOk Try.prog (List.range tabs.length) 80 ⟨19,c80_23,[.tmp 2]⟩:=by
 have h:c80=c80_23:=by kernel_rfl
 rw[←h];exact fok80
theorem fk74:FnOk Try.prog (List.range tabs.length) 74 ⟨24,c74_18,[.tmp 2]⟩:=by
 have h:c74=c74_18:=by kernel_rfl
 rw[←h];exact fok74
theorem fk76:FnOk Try.prog (List.range tabs.length) 76 ⟨27,c76_21,[.tmp 2]⟩:=by
 have h:c76=c76_21:=by kernel_rfl
 rw[←h];exact fok76
theorem fk78:FnOk Try.prog (List.range tabs.length) 78 ⟨15,c78_3,[.tmp 2]⟩:=by
 have h:c78=c78_3:=by kernel_rfl
 rw[←h];exact fok78
theorem fk55:FnOk Try.prog (List.range tabs.length) 55 ⟨4,c55_3,[.tmp 2]⟩:=by
 have h:c55=c55_3:=by kernel_rfl
 rw[←h];exact fok55
theorem fk13:FnOk Try.prog (List.range tabs.length) 13 ⟨146,c13_70,[.tmp 2]⟩:=by
 have h:c13=c13_70:=by kernel_rfl
 rw[←h];exact fok13
theorem fk19:FnOk Try.prog (List.range tabs.length) 19 ⟨18,c19_11,[.cell 2 24,.tmp 3]⟩:=by
 have h:c19=c19_11:=by kernel_rfl
 rw[←h];exact fok19
theorem fk23:FnOk Try.prog (List.range tabs.length) 23 ⟨26,c23_26,[.tmp 4]⟩:=by
 have h:c23=c23_26:=by kernel_rfl
 rw[←h];exact fok23
theorem fk25:FnOk Try.prog (List.range tabs.length) 25 ⟨42,c25_44,[.tmp 2]⟩:=by
 have h:c25=c25_44:=by kernel_rfl
 rw[←h];exact fok25
theorem fk37:FnOk Try.prog (List.range tabs.length) 37 ⟨62,c37_60,[.tmp 4,.tmp 5]⟩:=by
 have h:c37=c37_60:=by kernel_rfl
 rw[←h];exact fok37
theorem fk46:FnOk Try.prog (List.range tabs.length) 46 ⟨29,c46_16,[.tmp 4,.tmp 5]⟩:=by
 have h:c46=c46_16:=by kernel_rfl
 rw[←h];exact fok46
theorem fk47:FnOk Try.prog (List.range tabs.length) 47 ⟨9,c47_3,[.cell 4 24]⟩:=by
 have h:c47=c47_3:=by kernel_rfl
 rw[←h];exact fok47
theorem fk48:FnOk Try.prog (List.range tabs.length) 48 ⟨19,c48_23,[.tmp 2]⟩:=by
 have h:c48=c48_23:=by kernel_rfl
 rw[←h];exact fok48
theorem fk49:FnOk Try.prog (List.range tabs.length) 49 ⟨35,c49_20,[.tmp 8]⟩:=by
 have h:c49=c49_20:=by kernel_rfl
 rw[←h];exact fok49
theorem fk50:FnOk Try.prog (List.range tabs.length) 50 ⟨21,c50_3,[.tmp 2]⟩:=by
 have h:c50=c50_3:=by kernel_rfl
 rw[←h];exact fok50
theorem fk51:FnOk Try.prog (List.range tabs.length) 51 ⟨23,c51_18,[.tmp 4]⟩:=by
 have h:c51=c51_18:=by kernel_rfl
 rw[←h];exact fok51
theorem fk52:FnOk Try.prog (List.range tabs.length) 52 ⟨36,c52_38,[.tmp 4]⟩:=by
 have h:c52=c52_38:=by kernel_rfl
 rw[←h];exact fok52
theorem fk58:FnOk Try.prog (List.range tabs.length) 58 ⟨26,c58_25,[.tmp 4]⟩:=by
 have h:c58=c58_25:=by kernel_rfl
 rw[←h];exact fok58
theorem fk61:FnOk Try.prog (List.range tabs.length) 61 ⟨16,c61_11,[.cell 2 92,.tmp 3]⟩:=by
 have h:c61=c61_11:=by kernel_rfl
 rw[←h];exact fok61
theorem fk65:FnOk Try.prog (List.range tabs.length) 65 ⟨26,c65_7,[.cell 4 92]⟩:=by
 have h:c65=c65_7:=by kernel_rfl
 rw[←h];exact fok65
theorem fk66:FnOk Try.prog (List.range tabs.length) 66 ⟨8,c66_3,[.cell 2 24]⟩:=by
 have h:c66=c66_3:=by kernel_rfl
 rw[←h];exact fok66
theorem fk68:FnOk Try.prog (List.range tabs.length) 68 ⟨36,c68_25,[.cell 2 92]⟩:=by
 have h:c68=c68_25:=by kernel_rfl
 rw[←h];exact fok68
theorem fk82:FnOk Try.prog (List.range tabs.length) 82 ⟨6,c82_3,[.tmp 2]⟩:=by
 have h:c82=c82_3:=by kernel_rfl
 rw[←h];exact fok82
theorem fk88:FnOk Try.prog (List.range tabs.length) 88 ⟨26,c88_28,[.tmp 4]⟩:=by
 have h:c88=c88_28:=by kernel_rfl
 rw[←h];exact fok88
theorem fk92:FnOk Try.prog (List.range tabs.length) 92 ⟨20,c92_37,[.tmp 4]⟩:=by
 have h:c92=c92_37:=by kernel_rfl
 rw[←h];exact fok92
theorem fk95:FnOk Try.prog (List.range tabs.length) 95 ⟨8,c95_7,[.tmp 2]⟩:=by
 have h:c95=c95_7:=by kernel_rfl
 rw[←h];exact fok95
theorem fk96:FnOk Try.prog (List.range tabs.length) 96 ⟨24,c96_20,[.cell 4 92]⟩:=by
 have h:c96=c96_20:=by kernel_rfl
 rw[←h];exact fok96
theorem fk98:FnOk Try.prog (List.range tabs.length) 98 ⟨6,c98_3,[.tmp 2]⟩:=by
 have h:c98=c98_3:=by kernel_rfl
 rw[←h];exact fok98
theorem fk108:FnOk Try.prog (List.range tabs.length) 108 ⟨25,c108_24,[.tmp 2]⟩:=by
 have h:c108=c108_24:=by kernel_rfl
 rw[←h];exact fok108
theorem fk86:FnOk Try.prog (List.range tabs.length) 86 ⟨38,c86_38,[.tmp 2]⟩:=by
 have h:c86=c86_38:=by kernel_rfl
 rw[←h];exact fok86
theorem fk60:FnOk Try.prog (List.range tabs.length) 60 ⟨14,c60_2,[]⟩:=by
 have h:c60=c60_2:=by kernel_rfl
 rw[←h];exact fok60
theorem fk94:FnOk Try.prog (List.range tabs.length) 94 ⟨148,c94_74,[]⟩:=by
 have h:c94=c94_74:=by kernel_rfl
 rw[←h];exact fok94
theorem fk99:FnOk Try.prog (List.range tabs.length) 99 ⟨53,c99_22,[]⟩:=by
 have h:c99=c99_22:=by kernel_rfl
 rw[←h];exact fok99
theorem fk81:FnOk Try.prog (List.range tabs.length) 81 ⟨48,c81_30,[.tmp 10]⟩:=by
 have h:c81=c81_30:=by kernel_rfl
 rw[←h];exact fok81
theorem fk87:FnOk Try.prog (List.range tabs.length) 87 ⟨20,c87_8,[.tmp 4]⟩:=by
 have h:c87=c87_8:=by kernel_rfl
 rw[←h];exact fok87
theorem fk85:FnOk Try.prog (List.range tabs.length) 85 ⟨25,c85_20,[.tmp 3]⟩:=by
 have h:c85=c85_20:=by kernel_rfl
 rw[←h];exact fok85
theorem tabs_ne:∀ t∈tabs,t≠[]:=by intro t ht;cases ht
theorem tabs_pl:∀ t∈tabs,∀ x∈t,plain1 x=true:=by intro t ht;cases ht
theorem inl_ok (hm:Try.prog.follows .mixedOrders=true) {pu:PureF} (hg55:PureOk Try.prog tabs 55 (pu 55)) (h0:ObjOk Try.prog tabs 1 0 86 (pu 10860)) (h1:ObjOk Try.prog tabs 2 1 60 (pu 10600)) (h2:ObjOk Try.prog tabs 5 1 94 (pu 10940)) (h3:ObjOk Try.prog tabs 4 1 99 (pu 10990)) (h4:ObjOk Try.prog tabs 5 3 81 (pu 10810)) (h5:ObjOk Try.prog tabs 3 3 87 (pu 10870)) (h6:ObjOk Try.prog tabs 2 1 85 (pu 10850)):CallOk Try.prog (List.range tabs.length) (inl pu):=fun g args H v H' h=>by
 replace h:bb (Nat.beq g 55) (giveF tabs 1 (pu 55) args H) (bb (Nat.beq g 86) (objG tabs [[none,none]] 1 [] [false] (pu 10860) args H) (bb (Nat.beq g 60) (objG tabs [[none],[none]] 2 [.tmp 0 false] [false] (pu 10600) args H) (bb (Nat.beq g 94) (objG tabs [[none],[none],[none],[none],[none]] 5 [.tmp 0 false] [false] (pu 10940) args H) (bb (Nat.beq g 99) (objG tabs [[none],[none],[none],[none]] 4 [.tmp 0 false] [false] (pu 10990) args H) (bb (Nat.beq g 81) (objG tabs [[none,none],[none],[none],[none],[none]] 5 [.cap 3 0 false,.cap 4 1 true,.cell 1 0 false] [false,true,false,false] (pu 10810) args H) (bb (Nat.beq g 87) (objG tabs [[none,none],[none],[none]] 3 [.tmp 1 false,.tmp 2 true,.cell 1 0 false] [false,true,false,false] (pu 10870) args H) (bb (Nat.beq g 85) (objG tabs [[none,none],[none]] 2 [.tmp 1 false] [false] (pu 10850) args H) (none))))))))=some (v,H'):=h
 have hq:=bb_cases h;clear h;rcases hq with⟨e,h⟩ | ⟨_,h⟩
 ·obtain rfl:=Nat.eq_of_beq_eq_true e
  exact giveF_ok tabs_ne tabs_pl hg55 h
 have hq:=bb_cases h;clear h;rcases hq with⟨e,h⟩ | ⟨_,h⟩
 ·obtain rfl:=Nat.eq_of_beq_eq_true e
  exact objG_ok (rs:=[]) tabs_ne tabs_pl h0 h
 have hq:=bb_cases h;clear h;rcases hq with⟨e,h⟩ | ⟨_,h⟩
 ·obtain rfl:=Nat.eq_of_beq_eq_true e
  exact objG_ok (rs:=[.tmp 0 false]) tabs_ne tabs_pl h1 h
 have hq:=bb_cases h;clear h;rcases hq with⟨e,h⟩ | ⟨_,h⟩
 ·obtain rfl:=Nat.eq_of_beq_eq_true e
  exact objG_ok (rs:=[.tmp 0 false]) tabs_ne tabs_pl h2 h
 have hq:=bb_cases h;clear h;rcases hq with⟨e,h⟩ | ⟨_,h⟩
 ·obtain rfl:=Nat.eq_of_beq_eq_true e
  exact objG_ok (rs:=[.tmp 0 false]) tabs_ne tabs_pl h3 h
 have hq:=bb_cases h;clear h;rcases hq with⟨e,h⟩ | ⟨_,h⟩
 ·obtain rfl:=Nat.eq_of_beq_eq_true e
  exact objG_ok (rs:=[.cap 3 0 false,.cap 4 1 true,.cell 1 0 false]) tabs_ne tabs_pl h4 h
 have hq:=bb_cases h;clear h;rcases hq with⟨e,h⟩ | ⟨_,h⟩
 ·obtain rfl:=Nat.eq_of_beq_eq_true e
  exact objG_ok (rs:=[.tmp 1 false,.tmp 2 true,.cell 1 0 false]) tabs_ne tabs_pl h5 h
 have hq:=bb_cases h;clear h;rcases hq with⟨e,h⟩ | ⟨_,h⟩
 ·obtain rfl:=Nat.eq_of_beq_eq_true e
  exact objG_ok (rs:=[.tmp 1 false]) tabs_ne tabs_pl h6 h
 cases h
theorem disp_ok (hm:Try.prog.follows .mixedOrders=true) (hw:PureOk Try.prog tabs 14 orc14) {pu:PureF} (hall:(∀ g,isP g=true→PureOk Try.prog tabs g (pu g))∧PureOk Try.prog tabs 55 (pu 55)∧ObjOk Try.prog tabs 1 0 86 (pu 10860)∧ObjOk Try.prog tabs 2 1 60 (pu 10600)∧ObjOk Try.prog tabs 5 1 94 (pu 10940)∧ObjOk Try.prog tabs 4 1 99 (pu 10990)∧ObjOk Try.prog tabs 5 3 81 (pu 10810)∧ObjOk Try.prog tabs 3 3 87 (pu 10870)∧ObjOk Try.prog tabs 2 1 85 (pu 10850)):(∀ g,isP g=true→PureOk Try.prog tabs g (disp pu g))∧PureOk Try.prog tabs 55 (disp pu 55)∧ObjOk Try.prog tabs 1 0 86 (disp pu 10860)∧ObjOk Try.prog tabs 2 1 60 (disp pu 10600)∧ObjOk Try.prog tabs 5 1 94 (disp pu 10940)∧ObjOk Try.prog tabs 4 1 99 (disp pu 10990)∧ObjOk Try.prog tabs 5 3 81 (disp pu 10810)∧ObjOk Try.prog tabs 3 3 87 (disp pu 10870)∧ObjOk Try.prog tabs 2 1 85 (disp pu 10850):=by
 obtain⟨hpu,hg55,h0,h4,h5,h6,h7,h8,h9⟩:=hall
 have hcall:=callP_ok (P:=Try.prog) (tabs:=tabs) tabs_ne tabs_pl (inl_ok hm hg55 h0 h4 h5 h6 h7 h8 h9) hpu
 refine⟨fun g hg=>?_,?_,?_,?_,?_,?_,?_,?_,?_⟩
 ·have hg:g∈plist:=memN_iff.1 hg
  simp only[plist,List.mem_cons,List.not_mem_nil,or_false] at hg
  rcases hg with rfl | rfl | rfl | rfl | rfl | rfl | rfl | rfl | rfl | rfl | rfl | rfl | rfl | rfl | rfl | rfl | rfl | rfl | rfl | rfl | rfl | rfl | rfl | rfl | rfl | rfl | rfl | rfl | rfl | rfl | rfl
  ·exact pureOk_of_run (tabs:=tabs) (f:=m13 pu L) ttOk hm hcall fk13 fun args v h hc=>r13 pu L rfl h hc
  ·exact hw
  ·exact pureOk_of_run (tabs:=tabs) (f:=m19 pu L) ttOk hm hcall fk19 fun args v h hc=>r19 pu L rfl h hc
  ·exact pureOk_of_run (tabs:=tabs) (f:=m23 pu L) ttOk hm hcall fk23 fun args v h hc=>r23 pu L rfl h hc
  ·exact pureOk_of_run (tabs:=tabs) (f:=m25 pu L) ttOk hm hcall fk25 fun args v h hc=>r25 pu L rfl h hc
  ·exact pureOk_of_run (tabs:=tabs) (f:=m37 pu L) ttOk hm hcall fk37 fun args v h hc=>r37 pu L rfl h hc
  ·exact pureOk_of_run (tabs:=tabs) (f:=m46 pu L) ttOk hm hcall fk46 fun args v h hc=>r46 pu L rfl h hc
  ·exact pureOk_of_run (tabs:=tabs) (f:=m47 pu L) ttOk hm hcall fk47 fun args v h hc=>r47 pu L rfl h hc
  ·exact pureOk_of_run (tabs:=tabs) (f:=m48 pu L) ttOk hm hcall fk48 fun args v h hc=>r48 pu L rfl h hc
  ·exact pureOk_of_run (tabs:=tabs) (f:=m49 pu L) ttOk hm hcall fk49 fun args v h hc=>r49 pu L rfl h hc
  ·exact pureOk_of_run (tabs:=tabs) (f:=m50 pu L) ttOk hm hcall fk50 fun args v h hc=>r50 pu L rfl h hc
  ·exact pureOk_of_run (tabs:=tabs) (f:=m51 pu L) ttOk hm hcall fk51 fun args v h hc=>r51 pu L rfl h hc
  ·exact pureOk_of_run (tabs:=tabs) (f:=m52 pu L) ttOk hm hcall fk52 fun args v h hc=>r52 pu L rfl h hc
  ·exact pureOk_of_run (tabs:=tabs) (f:=m58 pu L) ttOk hm hcall fk58 fun args v h hc=>r58 pu L rfl h hc
  ·exact pureOk_of_run (tabs:=tabs) (f:=m61 pu L) ttOk hm hcall fk61 fun args v h hc=>r61 pu L rfl h hc
  ·exact pureOk_of_run (tabs:=tabs) (f:=m62 pu L) ttOk hm hcall fk62 fun args v h hc=>r62 pu L rfl h hc
  ·exact pureOk_of_run (tabs:=tabs) (f:=m65 pu L) ttOk hm hcall fk65 fun args v h hc=>r65 pu L rfl h hc
  ·exact pureOk_of_run (tabs:=tabs) (f:=m66 pu L) ttOk hm hcall fk66 fun args v h hc=>r66 pu L rfl h hc
  ·exact pureOk_of_run (tabs:=tabs) (f:=m68 pu L) ttOk hm hcall fk68 fun args v h hc=>r68 pu L rfl h hc
  ·exact pureOk_of_run (tabs:=tabs) (f:=m74 pu L) ttOk hm hcall fk74 fun args v h hc=>r74 pu L rfl h hc
  ·exact pureOk_of_run (tabs:=tabs) (f:=m76 pu L) ttOk hm hcall fk76 fun args v h hc=>r76 pu L rfl h hc
  ·exact pureOk_of_run (tabs:=tabs) (f:=m78 pu L) ttOk hm hcall fk78 fun args v h hc=>r78 pu L rfl h hc
  ·exact pureOk_of_run (tabs:=tabs) (f:=m80 pu L) ttOk hm hcall fk80 fun args v h hc=>r80 pu L rfl h hc
  ·exact pureOk_of_run (tabs:=tabs) (f:=m82 pu L) ttOk hm hcall fk82 fun args v h hc=>r82 pu L rfl h hc
  ·exact pureOk_of_run (tabs:=tabs) (f:=m88 pu L) ttOk hm hcall fk88 fun args v h hc=>r88 pu L rfl h hc
  ·exact pureOk_of_run (tabs:=tabs) (f:=m91 pu L) ttOk hm hcall fk91 fun args v h hc=>r91 pu L rfl h hc
  ·exact pureOk_of_run (tabs:=tabs) (f:=m92 pu L) ttOk hm hcall fk92 fun args v h hc=>r92 pu L rfl h hc
  ·exact pureOk_of_run (tabs:=tabs) (f:=m95 pu L) ttOk hm hcall fk95 fun args v h hc=>r95 pu L rfl h hc
  ·exact pureOk_of_run (tabs:=tabs) (f:=m96 pu L) ttOk hm hcall fk96 fun args v h hc=>r96 pu L rfl h hc
  ·exact pureOk_of_run (tabs:=tabs) (f:=m98 pu L) ttOk hm hcall fk98 fun args v h hc=>r98 pu L rfl h hc
  ·exact pureOk_of_run (tabs:=tabs) (f:=m108 pu L) ttOk hm hcall fk108 fun args v h hc=>r108 pu L rfl h hc
 ·exact pureOk_of_run (tabs:=tabs) (f:=m55 pu L) ttOk hm hcall fk55 fun args v h hc=>r55 pu L rfl h hc
 ·exact objOk_of_run (tabs:=tabs) (f:=m10860 pu L) ttOk hm hcall fk86 fun args os z h1 h2 h3 h=>r10860 pu L rfl h1 h2 h3 h
 ·exact objOk_of_run (tabs:=tabs) (f:=m10600 pu L) ttOk hm hcall fk60 fun args os z h1 h2 h3 h=>r10600 pu L rfl h1 h2 h3 h
 ·exact objOk_of_run (tabs:=tabs) (f:=m10940 pu L) ttOk hm hcall fk94 fun args os z h1 h2 h3 h=>r10940 pu L rfl h1 h2 h3 h
 ·exact objOk_of_run (tabs:=tabs) (f:=m10990 pu L) ttOk hm hcall fk99 fun args os z h1 h2 h3 h=>r10990 pu L rfl h1 h2 h3 h
 ·exact objOk_of_run (tabs:=tabs) (f:=m10810 pu L) ttOk hm hcall fk81 fun args os z h1 h2 h3 h=>r10810 pu L rfl h1 h2 h3 h
 ·exact objOk_of_run (tabs:=tabs) (f:=m10870 pu L) ttOk hm hcall fk87 fun args os z h1 h2 h3 h=>r10870 pu L rfl h1 h2 h3 h
 ·exact objOk_of_run (tabs:=tabs) (f:=m10850 pu L) ttOk hm hcall fk85 fun args os z h1 h2 h3 h=>r10850 pu L rfl h1 h2 h3 h
theorem all_ok (hm:Try.prog.follows .mixedOrders=true) (hw:PureOk Try.prog tabs 14 orc14):∀ n,(∀ g,isP g=true→PureOk Try.prog tabs g (puN n g))∧PureOk Try.prog tabs 55 (puN n 55)∧ObjOk Try.prog tabs 1 0 86 (puN n 10860)∧ObjOk Try.prog tabs 2 1 60 (puN n 10600)∧ObjOk Try.prog tabs 5 1 94 (puN n 10940)∧ObjOk Try.prog tabs 4 1 99 (puN n 10990)∧ObjOk Try.prog tabs 5 3 81 (puN n 10810)∧ObjOk Try.prog tabs 3 3 87 (puN n 10870)∧ObjOk Try.prog tabs 2 1 85 (puN n 10850):=fun n=>by
 induction n with
 | zero =>
  refine⟨fun g hg=>?_,?_,?_,?_,?_,?_,?_,?_,?_⟩
  ·have hg:g∈plist:=memN_iff.1 hg
   simp only[plist,List.mem_cons,List.not_mem_nil,or_false] at hg
   rcases hg with rfl | rfl | rfl | rfl | rfl | rfl | rfl | rfl | rfl | rfl | rfl | rfl | rfl | rfl | rfl | rfl | rfl | rfl | rfl | rfl | rfl | rfl | rfl | rfl | rfl | rfl | rfl | rfl | rfl | rfl | rfl
   ·exact⟨enter_ok fk13,fun args v h=>by cases h⟩
   ·exact⟨(hw).1,fun args v h=>by cases h⟩
   ·exact⟨enter_ok fk19,fun args v h=>by cases h⟩
   ·exact⟨enter_ok fk23,fun args v h=>by cases h⟩
   ·exact⟨enter_ok fk25,fun args v h=>by cases h⟩
   ·exact⟨enter_ok fk37,fun args v h=>by cases h⟩
   ·exact⟨enter_ok fk46,fun args v h=>by cases h⟩
   ·exact⟨enter_ok fk47,fun args v h=>by cases h⟩
   ·exact⟨enter_ok fk48,fun args v h=>by cases h⟩
   ·exact⟨enter_ok fk49,fun args v h=>by cases h⟩
   ·exact⟨enter_ok fk50,fun args v h=>by cases h⟩
   ·exact⟨enter_ok fk51,fun args v h=>by cases h⟩
   ·exact⟨enter_ok fk52,fun args v h=>by cases h⟩
   ·exact⟨enter_ok fk58,fun args v h=>by cases h⟩
   ·exact⟨enter_ok fk61,fun args v h=>by cases h⟩
   ·exact⟨enter_ok fk62,fun args v h=>by cases h⟩
   ·exact⟨enter_ok fk65,fun args v h=>by cases h⟩
   ·exact⟨enter_ok fk66,fun args v h=>by cases h⟩
   ·exact⟨enter_ok fk68,fun args v h=>by cases h⟩
   ·exact⟨enter_ok fk74,fun args v h=>by cases h⟩
   ·exact⟨enter_ok fk76,fun args v h=>by cases h⟩
   ·exact⟨enter_ok fk78,fun args v h=>by cases h⟩
   ·exact⟨enter_ok fk80,fun args v h=>by cases h⟩
   ·exact⟨enter_ok fk82,fun args v h=>by cases h⟩
   ·exact⟨enter_ok fk88,fun args v h=>by cases h⟩
   ·exact⟨enter_ok fk91,fun args v h=>by cases h⟩
   ·exact⟨enter_ok fk92,fun args v h=>by cases h⟩
   ·exact⟨enter_ok fk95,fun args v h=>by cases h⟩
   ·exact⟨enter_ok fk96,fun args v h=>by cases h⟩
   ·exact⟨enter_ok fk98,fun args v h=>by cases h⟩
   ·exact⟨enter_ok fk108,fun args v h=>by cases h⟩
  ·exact⟨enter_ok fk55,fun args v h=>by cases h⟩
  ·exact⟨enter_ok fk86,fun args os z h1 h2 h3 h=>by cases h⟩
  ·exact⟨enter_ok fk60,fun args os z h1 h2 h3 h=>by cases h⟩
  ·exact⟨enter_ok fk94,fun args os z h1 h2 h3 h=>by cases h⟩
  ·exact⟨enter_ok fk99,fun args os z h1 h2 h3 h=>by cases h⟩
  ·exact⟨enter_ok fk81,fun args os z h1 h2 h3 h=>by cases h⟩
  ·exact⟨enter_ok fk87,fun args os z h1 h2 h3 h=>by cases h⟩
  ·exact⟨enter_ok fk85,fun args os z h1 h2 h3 h=>by cases h⟩
 | succ n ih=>exact disp_ok hm hw ih
end
end Go.Proofs.Ytenlanbdolnhhaa.RgJ
