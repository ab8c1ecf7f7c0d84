/- Made from wip. -/
import Derived.Test.YtokbaaeimejjlaaDoorProg
import Derived.Test.YtokbaaeimejjlaaDoorSpMorex
import Derived.Test.YtokbaaeimejjlaaDoorBkPCode
import Derived.Test.YtokbaaeimejjlaaDoorBkPPu
import Derived.RangeFuncNested
import Derived.RangeFuncBound
import Derived.RangeFuncCalls
import Derived.RangeFuncLeaves
import Derived.Shelf.Abstract
import Derived.Shelf.RegionOpen
import Derived.WalkKit
import Derived.OwnWalkIn
import Derived.TacticsInMore
import Derived.LoopNIn
import Derived.LoopIn

set_option maxRecDepth 100000
namespace Go.Proofs.YtokbaaeimejjlaaDoor.BkP
open Go Go.Sp Go.BkP
theorem fok6:FnOk Tryd.prog [0] 6 ⟨158,c6,[.tmp 4]⟩:=FnOk.by Tryd.func6 (by kernel_rfl) (by kernel_rfl) Tryd.ntmps6 (by rw [Tryd.results6]) (by kernel_rfl)
theorem fok10:FnOk Tryd.prog [0] 10 ⟨103,c10,[.tmp 8]⟩:=FnOk.by Tryd.func10 (by kernel_rfl) (by kernel_rfl) Tryd.ntmps10 (by rw [Tryd.results10]) (by kernel_rfl)
theorem fok11:FnOk Tryd.prog [0] 11 ⟨34,c11,[.tmp 6,.tmp 7]⟩:=FnOk.by Tryd.func11 (by kernel_rfl) (by kernel_rfl) Tryd.ntmps11 (by rw [Tryd.results11]) (by kernel_rfl)
theorem fok12:FnOk Tryd.prog [0] 12 ⟨26,c12,[.tmp 4]⟩:=FnOk.by Tryd.func12 (by kernel_rfl) (by kernel_rfl) Tryd.ntmps12 (by rw [Tryd.results12]) (by kernel_rfl)
theorem fok14:FnOk Tryd.prog [0] 14 ⟨21,c14,[.tmp 4,.tmp 5]⟩:=FnOk.by Tryd.func14 (by kernel_rfl) (by kernel_rfl) Tryd.ntmps14 (by rw [Tryd.results14]) (by kernel_rfl)
theorem fok15:FnOk Tryd.prog [0] 15 ⟨43,c15,[.tmp 4,.tmp 5]⟩:=FnOk.by Tryd.func15 (by kernel_rfl) (by kernel_rfl) Tryd.ntmps15 (by rw [Tryd.results15]) (by kernel_rfl)
theorem fok16:FnOk Tryd.prog [0] 16 ⟨27,c16,[.tmp 4]⟩:=FnOk.by Tryd.func16 (by kernel_rfl) (by kernel_rfl) Tryd.ntmps16 (by rw [Tryd.results16]) (by kernel_rfl)
theorem fok17:FnOk Tryd.prog [0] 17 ⟨23,c17,[.tmp 4,.tmp 5]⟩:=FnOk.by Tryd.func17 (by kernel_rfl) (by kernel_rfl) Tryd.ntmps17 (by rw [Tryd.results17]) (by kernel_rfl)
theorem fok18:FnOk Tryd.prog [0] 18 ⟨42,c18,[.tmp 6,.tmp 7]⟩:=FnOk.by Tryd.func18 (by kernel_rfl) (by kernel_rfl) Tryd.ntmps18 (by rw [Tryd.results18]) (by kernel_rfl)
theorem fok19:FnOk Tryd.prog [0] 19 ⟨209,c19,[.tmp 0]⟩:=FnOk.by Tryd.func19 (by kernel_rfl) (by kernel_rfl) Tryd.ntmps19 (by rw [Tryd.results19]) (by kernel_rfl)
theorem fok20:FnOk Tryd.prog [0] 20 ⟨25,c20,[.tmp 4,.tmp 5]⟩:=FnOk.by Tryd.func20 (by kernel_rfl) (by kernel_rfl) Tryd.ntmps20 (by rw [Tryd.results20]) (by kernel_rfl)
theorem fok21:FnOk Tryd.prog [0] 21 ⟨70,c21,[.tmp 6]⟩:=FnOk.by Tryd.func21 (by kernel_rfl) (by kernel_rfl) Tryd.ntmps21 (by rw [Tryd.results21]) (by kernel_rfl)
theorem fok22:FnOk Tryd.prog [0] 22 ⟨4,c22,[.tmp 2]⟩:=FnOk.by Tryd.func22 (by kernel_rfl) (by kernel_rfl) Tryd.ntmps22 (by rw [Tryd.results22]) (by kernel_rfl)
theorem fok23:FnOk Tryd.prog [0] 23 ⟨39,c23,[.tmp 2,.tmp 3]⟩:=FnOk.by Tryd.func23 (by kernel_rfl) (by kernel_rfl) Tryd.ntmps23 (by rw [Tryd.results23]) (by kernel_rfl)
theorem fok24:FnOk Tryd.prog [0] 24 ⟨20,c24,[.tmp 4,.tmp 5]⟩:=FnOk.by Tryd.func24 (by kernel_rfl) (by kernel_rfl) Tryd.ntmps24 (by rw [Tryd.results24]) (by kernel_rfl)
theorem fok25:FnOk Tryd.prog [0] 25 ⟨11,c25,[.tmp 2]⟩:=FnOk.by Tryd.func25 (by kernel_rfl) (by kernel_rfl) Tryd.ntmps25 (by rw [Tryd.results25]) (by kernel_rfl)
theorem fok29:FnOk Tryd.prog [0] 29 ⟨29,c29,[.tmp 4,.tmp 5]⟩:=FnOk.by Tryd.func29 (by kernel_rfl) (by kernel_rfl) Tryd.ntmps29 (by rw [Tryd.results29]) (by kernel_rfl)
theorem fok30:FnOk Tryd.prog [0] 30 ⟨93,c30,[.tmp 4,.tmp 5]⟩:=FnOk.by Tryd.func30 (by kernel_rfl) (by kernel_rfl) Tryd.ntmps30 (by rw [Tryd.results30]) (by kernel_rfl)
theorem fok31:FnOk Tryd.prog [0] 31 ⟨4,c31,[.cell 0 27]⟩:=FnOk.by Tryd.func31 (by kernel_rfl) (by kernel_rfl) Tryd.ntmps31 (by rw [Tryd.results31]) (by kernel_rfl)
theorem fok32:FnOk Tryd.prog [0] 32 ⟨33,c32,[.tmp 4,.tmp 5]⟩:=FnOk.by Tryd.func32 (by kernel_rfl) (by kernel_rfl) Tryd.ntmps32 (by rw [Tryd.results32]) (by kernel_rfl)
theorem fok33:FnOk Tryd.prog [0] 33 ⟨19,c33,[.tmp 4]⟩:=FnOk.by Tryd.func33 (by kernel_rfl) (by kernel_rfl) Tryd.ntmps33 (by rw [Tryd.results33]) (by kernel_rfl)
theorem fok34:FnOk Tryd.prog [0] 34 ⟨35,c34,[.tmp 6]⟩:=FnOk.by Tryd.func34 (by kernel_rfl) (by kernel_rfl) Tryd.ntmps34 (by rw [Tryd.results34]) (by kernel_rfl)
theorem fok35:FnOk Tryd.prog [0] 35 ⟨28,c35,[.tmp 4]⟩:=FnOk.by Tryd.func35 (by kernel_rfl) (by kernel_rfl) Tryd.ntmps35 (by rw [Tryd.results35]) (by kernel_rfl)
theorem fok36:FnOk Tryd.prog [0] 36 ⟨38,c36,[.tmp 6]⟩:=FnOk.by Tryd.func36 (by kernel_rfl) (by kernel_rfl) Tryd.ntmps36 (by rw [Tryd.results36]) (by kernel_rfl)
theorem fok37:FnOk Tryd.prog [0] 37 ⟨26,c37,[.tmp 4]⟩:=FnOk.by Tryd.func37 (by kernel_rfl) (by kernel_rfl) Tryd.ntmps37 (by rw [Tryd.results37]) (by kernel_rfl)
end Go.Proofs.YtokbaaeimejjlaaDoor.BkP
set_option maxRecDepth 100000
namespace Go.Proofs.YtokbaaeimejjlaaDoor.BkP
open Go Go.Sp Go.BkP
theorem fok38:FnOk Tryd.prog [0] 38 ⟨4,c38,[.cell 0 27]⟩:=FnOk.by Tryd.func38 (by kernel_rfl) (by kernel_rfl) Tryd.ntmps38 (by rw [Tryd.results38]) (by kernel_rfl)
theorem fok39:FnOk Tryd.prog [0] 39 ⟨4,c39,[.tmp 2]⟩:=FnOk.by Tryd.func39 (by kernel_rfl) (by kernel_rfl) Tryd.ntmps39 (by rw [Tryd.results39]) (by kernel_rfl)
theorem fok40:FnOk Tryd.prog [0] 40 ⟨88,c40,[]⟩:=FnOk.by Tryd.func40 (by kernel_rfl) (by kernel_rfl) Tryd.ntmps40 (by rw [Tryd.results40]) (by kernel_rfl)
theorem fok41:FnOk Tryd.prog [0] 41 ⟨9,c41,[.tmp 4]⟩:=FnOk.by Tryd.func41 (by kernel_rfl) (by kernel_rfl) Tryd.ntmps41 (by rw [Tryd.results41]) (by kernel_rfl)
theorem fok42:FnOk Tryd.prog [0] 42 ⟨9,c42,[.tmp 3]⟩:=FnOk.by Tryd.func42 (by kernel_rfl) (by kernel_rfl) Tryd.ntmps42 (by rw [Tryd.results42]) (by kernel_rfl)
theorem fok43:FnOk Tryd.prog [0] 43 ⟨9,c43,[.tmp 2]⟩:=FnOk.by Tryd.func43 (by kernel_rfl) (by kernel_rfl) Tryd.ntmps43 (by rw [Tryd.results43]) (by kernel_rfl)
theorem fok44:FnOk Tryd.prog [0] 44 ⟨4,c44,[.tmp 2]⟩:=FnOk.by Tryd.func44 (by kernel_rfl) (by kernel_rfl) Tryd.ntmps44 (by rw [Tryd.results44]) (by kernel_rfl)
theorem fok45:FnOk Tryd.prog [0] 45 ⟨36,c45,[.tmp 4]⟩:=FnOk.by Tryd.func45 (by kernel_rfl) (by kernel_rfl) Tryd.ntmps45 (by rw [Tryd.results45]) (by kernel_rfl)
theorem fok46:FnOk Tryd.prog [0] 46 ⟨9,c46,[.tmp 2]⟩:=FnOk.by Tryd.func46 (by kernel_rfl) (by kernel_rfl) Tryd.ntmps46 (by rw [Tryd.results46]) (by kernel_rfl)
theorem fok47:FnOk Tryd.prog [0] 47 ⟨15,c47,[.tmp 2]⟩:=FnOk.by Tryd.func47 (by kernel_rfl) (by kernel_rfl) Tryd.ntmps47 (by rw [Tryd.results47]) (by kernel_rfl)
theorem fok48:FnOk Tryd.prog [0] 48 ⟨15,c48,[.tmp 6]⟩:=FnOk.by Tryd.func48 (by kernel_rfl) (by kernel_rfl) Tryd.ntmps48 (by rw [Tryd.results48]) (by kernel_rfl)
theorem fok49:FnOk Tryd.prog [0] 49 ⟨110,c49,[.tmp 2,.tmp 3]⟩:=FnOk.by Tryd.func49 (by kernel_rfl) (by kernel_rfl) Tryd.ntmps49 (by rw [Tryd.results49]) (by kernel_rfl)
theorem fok50:FnOk Tryd.prog [0] 50 ⟨27,c50,[.tmp 4]⟩:=FnOk.by Tryd.func50 (by kernel_rfl) (by kernel_rfl) Tryd.ntmps50 (by rw [Tryd.results50]) (by kernel_rfl)
theorem fok51:FnOk Tryd.prog [0] 51 ⟨18,c51,[.cell 2 86]⟩:=FnOk.by Tryd.func51 (by kernel_rfl) (by kernel_rfl) Tryd.ntmps51 (by rw [Tryd.results51]) (by kernel_rfl)
theorem fok52:FnOk Tryd.prog [0] 52 ⟨22,c52,[.cell 4 86]⟩:=FnOk.by Tryd.func52 (by kernel_rfl) (by kernel_rfl) Tryd.ntmps52 (by rw [Tryd.results52]) (by kernel_rfl)
theorem fok53:FnOk Tryd.prog [0] 53 ⟨22,c53,[.tmp 2]⟩:=FnOk.by Tryd.func53 (by kernel_rfl) (by kernel_rfl) Tryd.ntmps53 (by rw [Tryd.results53]) (by kernel_rfl)
theorem fok55:FnOk Tryd.prog [0] 55 ⟨8,c55,[.tmp 2]⟩:=FnOk.by Tryd.func55 (by kernel_rfl) (by kernel_rfl) Tryd.ntmps55 (by rw [Tryd.results55]) (by kernel_rfl)
theorem fok56:FnOk Tryd.prog [0] 56 ⟨15,c56,[.tmp 4]⟩:=FnOk.by Tryd.func56 (by kernel_rfl) (by kernel_rfl) Tryd.ntmps56 (by rw [Tryd.results56]) (by kernel_rfl)
theorem fok57:FnOk Tryd.prog [0] 57 ⟨50,c57,[.cell 4 91]⟩:=FnOk.by Tryd.func57 (by kernel_rfl) (by kernel_rfl) Tryd.ntmps57 (by rw [Tryd.results57]) (by kernel_rfl)
theorem fok58:FnOk Tryd.prog [0] 58 ⟨34,c58,[.tmp 4]⟩:=FnOk.by Tryd.func58 (by kernel_rfl) (by kernel_rfl) Tryd.ntmps58 (by rw [Tryd.results58]) (by kernel_rfl)
theorem fok59:FnOk Tryd.prog [0] 59 ⟨14,c59,[]⟩:=FnOk.by Tryd.func59 (by kernel_rfl) (by kernel_rfl) Tryd.ntmps59 (by rw [Tryd.results59]) (by kernel_rfl)
theorem fok60:FnOk Tryd.prog [0] 60 ⟨66,c60,[.tmp 4]⟩:=FnOk.by Tryd.func60 (by kernel_rfl) (by kernel_rfl) Tryd.ntmps60 (by rw [Tryd.results60]) (by kernel_rfl)
theorem fok61:FnOk Tryd.prog [0] 61 ⟨19,c61,[.tmp 4]⟩:=FnOk.by Tryd.func61 (by kernel_rfl) (by kernel_rfl) Tryd.ntmps61 (by rw [Tryd.results61]) (by kernel_rfl)
theorem fok62:FnOk Tryd.prog [0] 62 ⟨5,c62,[.tmp 2]⟩:=FnOk.by Tryd.func62 (by kernel_rfl) (by kernel_rfl) Tryd.ntmps62 (by rw [Tryd.results62]) (by kernel_rfl)
theorem fok63:FnOk Tryd.prog [0] 63 ⟨11,c63,[]⟩:=FnOk.by Tryd.func63 (by kernel_rfl) (by kernel_rfl) Tryd.ntmps63 (by rw [Tryd.results63]) (by kernel_rfl)
end Go.Proofs.YtokbaaeimejjlaaDoor.BkP
set_option maxRecDepth 100000
namespace Go.Proofs.YtokbaaeimejjlaaDoor.BkP
open Go Go.Sp Go.BkP
theorem fok64:FnOk Tryd.prog [0] 64 ⟨16,c64,[]⟩:=FnOk.by Tryd.func64 (by kernel_rfl) (by kernel_rfl) Tryd.ntmps64 (by rw [Tryd.results64]) (by kernel_rfl)
theorem fok65:FnOk Tryd.prog [0] 65 ⟨20,c65,[.tmp 4]⟩:=FnOk.by Tryd.func65 (by kernel_rfl) (by kernel_rfl) Tryd.ntmps65 (by rw [Tryd.results65]) (by kernel_rfl)
theorem fok66:FnOk Tryd.prog [0] 66 ⟨47,c66,[.tmp 4]⟩:=FnOk.by Tryd.func66 (by kernel_rfl) (by kernel_rfl) Tryd.ntmps66 (by rw [Tryd.results66]) (by kernel_rfl)
theorem fok67:FnOk Tryd.prog [0] 67 ⟨70,c67,[.tmp 9]⟩:=FnOk.by Tryd.func67 (by kernel_rfl) (by kernel_rfl) Tryd.ntmps67 (by rw [Tryd.results67]) (by kernel_rfl)
theorem fok68:FnOk Tryd.prog [0] 68 ⟨25,c68,[.tmp 2]⟩:=FnOk.by Tryd.func68 (by kernel_rfl) (by kernel_rfl) Tryd.ntmps68 (by rw [Tryd.results68]) (by kernel_rfl)
theorem fok69:FnOk Tryd.prog [0] 69 ⟨25,c69,[.tmp 2]⟩:=FnOk.by Tryd.func69 (by kernel_rfl) (by kernel_rfl) Tryd.ntmps69 (by rw [Tryd.results69]) (by kernel_rfl)
theorem fok70:FnOk Tryd.prog [0] 70 ⟨148,c70,[]⟩:=FnOk.by Tryd.func70 (by kernel_rfl) (by kernel_rfl) Tryd.ntmps70 (by rw [Tryd.results70]) (by kernel_rfl)
theorem fok71:FnOk Tryd.prog [0] 71 ⟨8,c71,[.tmp 2]⟩:=FnOk.by Tryd.func71 (by kernel_rfl) (by kernel_rfl) Tryd.ntmps71 (by rw [Tryd.results71]) (by kernel_rfl)
theorem fok73:FnOk Tryd.prog [0] 73 ⟨134,c73,[]⟩:=FnOk.by Tryd.func73 (by kernel_rfl) (by kernel_rfl) Tryd.ntmps73 (by rw [Tryd.results73]) (by kernel_rfl)
theorem fok74:FnOk Tryd.prog [0] 74 ⟨6,c74,[.tmp 2]⟩:=FnOk.by Tryd.func74 (by kernel_rfl) (by kernel_rfl) Tryd.ntmps74 (by rw [Tryd.results74]) (by kernel_rfl)
theorem fok75:FnOk Tryd.prog [0] 75 ⟨28,c75,[]⟩:=FnOk.by Tryd.func75 (by kernel_rfl) (by kernel_rfl) Tryd.ntmps75 (by rw [Tryd.results75]) (by kernel_rfl)
theorem fok76:FnOk Tryd.prog [0] 76 ⟨34,c76,[.tmp 4]⟩:=FnOk.by Tryd.func76 (by kernel_rfl) (by kernel_rfl) Tryd.ntmps76 (by rw [Tryd.results76]) (by kernel_rfl)
theorem fok78:FnOk Tryd.prog [0] 78 ⟨53,c78,[]⟩:=FnOk.by Tryd.func78 (by kernel_rfl) (by kernel_rfl) Tryd.ntmps78 (by rw [Tryd.results78]) (by kernel_rfl)
theorem fok79:FnOk Tryd.prog [0] 79 ⟨60,c79,[]⟩:=FnOk.by Tryd.func79 (by kernel_rfl) (by kernel_rfl) Tryd.ntmps79 (by rw [Tryd.results79]) (by kernel_rfl)
theorem fok80:FnOk Tryd.prog [0] 80 ⟨67,c80,[]⟩:=FnOk.by Tryd.func80 (by kernel_rfl) (by kernel_rfl) Tryd.ntmps80 (by rw [Tryd.results80]) (by kernel_rfl)
theorem fok81:FnOk Tryd.prog [0] 81 ⟨63,c81,[.tmp 8,.tmp 9]⟩:=FnOk.by Tryd.func81 (by kernel_rfl) (by kernel_rfl) Tryd.ntmps81 (by rw [Tryd.results81]) (by kernel_rfl)
theorem fok82:FnOk Tryd.prog [0] 82 ⟨34,c82,[]⟩:=FnOk.by Tryd.func82 (by kernel_rfl) (by kernel_rfl) Tryd.ntmps82 (by rw [Tryd.results82]) (by kernel_rfl)
theorem fok83:FnOk Tryd.prog [0] 83 ⟨141,c83,[.tmp 8]⟩:=FnOk.by Tryd.func83 (by kernel_rfl) (by kernel_rfl) Tryd.ntmps83 (by rw [Tryd.results83]) (by kernel_rfl)
theorem fok84:FnOk Tryd.prog [0] 84 ⟨90,c84,[.tmp 10]⟩:=FnOk.by Tryd.func84 (by kernel_rfl) (by kernel_rfl) Tryd.ntmps84 (by rw [Tryd.results84]) (by kernel_rfl)
theorem fok85:FnOk Tryd.prog [0] 85 ⟨178,c85,[.tmp 10,.tmp 11]⟩:=FnOk.by Tryd.func85 (by kernel_rfl) (by kernel_rfl) Tryd.ntmps85 (by rw [Tryd.results85]) (by kernel_rfl)
theorem fok86:FnOk Tryd.prog [0] 86 ⟨19,c86,[.tmp 2]⟩:=FnOk.by Tryd.func86 (by kernel_rfl) (by kernel_rfl) Tryd.ntmps86 (by rw [Tryd.results86]) (by kernel_rfl)
theorem fok87:FnOk Tryd.prog [0] 87 ⟨25,c87,[.tmp 2]⟩:=FnOk.by Tryd.func87 (by kernel_rfl) (by kernel_rfl) Tryd.ntmps87 (by rw [Tryd.results87]) (by kernel_rfl)
theorem fok88:FnOk Tryd.prog [0] 88 ⟨49,c88,[]⟩:=FnOk.by Tryd.func88 (by kernel_rfl) (by kernel_rfl) Tryd.ntmps88 (by rw [Tryd.results88]) (by kernel_rfl)
theorem fok89:FnOk Tryd.prog [0] 89 ⟨56,c89,[]⟩:=FnOk.by Tryd.func89 (by kernel_rfl) (by kernel_rfl) Tryd.ntmps89 (by rw [Tryd.results89]) (by kernel_rfl)
theorem fok90:FnOk Tryd.prog [0] 90 ⟨65,c90,[]⟩:=FnOk.by Tryd.func90 (by kernel_rfl) (by kernel_rfl) Tryd.ntmps90 (by rw [Tryd.results90]) (by kernel_rfl)
end Go.Proofs.YtokbaaeimejjlaaDoor.BkP
set_option maxRecDepth 100000
namespace Go.Proofs.YtokbaaeimejjlaaDoor.BkP
open Go Go.Sp Go.BkP
theorem fok91:FnOk Tryd.prog [0] 91 ⟨57,c91,[.tmp 6,.tmp 7]⟩:=FnOk.by Tryd.func91 (by kernel_rfl) (by kernel_rfl) Tryd.ntmps91 (by rw [Tryd.results91]) (by kernel_rfl)
theorem fok92:FnOk Tryd.prog [0] 92 ⟨32,c92,[]⟩:=FnOk.by Tryd.func92 (by kernel_rfl) (by kernel_rfl) Tryd.ntmps92 (by rw [Tryd.results92]) (by kernel_rfl)
theorem fok93:FnOk Tryd.prog [0] 93 ⟨133,c93,[.tmp 6]⟩:=FnOk.by Tryd.func93 (by kernel_rfl) (by kernel_rfl) Tryd.ntmps93 (by rw [Tryd.results93]) (by kernel_rfl)
theorem fok94:FnOk Tryd.prog [0] 94 ⟨17,c94,[.tmp 4]⟩:=FnOk.by Tryd.func94 (by kernel_rfl) (by kernel_rfl) Tryd.ntmps94 (by rw [Tryd.results94]) (by kernel_rfl)
theorem fok95:FnOk Tryd.prog [0] 95 ⟨84,c95,[.tmp 8]⟩:=FnOk.by Tryd.func95 (by kernel_rfl) (by kernel_rfl) Tryd.ntmps95 (by rw [Tryd.results95]) (by kernel_rfl)
theorem fok96:FnOk Tryd.prog [0] 96 ⟨168,c96,[.tmp 8,.tmp 9]⟩:=FnOk.by Tryd.func96 (by kernel_rfl) (by kernel_rfl) Tryd.ntmps96 (by rw [Tryd.results96]) (by kernel_rfl)
theorem fok98:FnOk Tryd.prog [0] 98 ⟨82,c98,[]⟩:=FnOk.by Tryd.func98 (by kernel_rfl) (by kernel_rfl) Tryd.ntmps98 (by rw [Tryd.results98]) (by kernel_rfl)
theorem fok99:FnOk Tryd.prog [0] 99 ⟨7,c99,[.tmp 2]⟩:=FnOk.by Tryd.func99 (by kernel_rfl) (by kernel_rfl) Tryd.ntmps99 (by rw [Tryd.results99]) (by kernel_rfl)
theorem fok100:FnOk Tryd.prog [0] 100 ⟨33,c100,[.tmp 2]⟩:=FnOk.by Tryd.func100 (by kernel_rfl) (by kernel_rfl) Tryd.ntmps100 (by rw [Tryd.results100]) (by kernel_rfl)
theorem fok101:FnOk Tryd.prog [0] 101 ⟨18,c101,[.tmp 8]⟩:=FnOk.by Tryd.func101 (by kernel_rfl) (by kernel_rfl) Tryd.ntmps101 (by rw [Tryd.results101]) (by kernel_rfl)
theorem fok102:FnOk Tryd.prog [0] 102 ⟨41,c102,[.tmp 12]⟩:=FnOk.by Tryd.func102 (by kernel_rfl) (by kernel_rfl) Tryd.ntmps102 (by rw [Tryd.results102]) (by kernel_rfl)
theorem fok103:FnOk Tryd.prog [0] 103 ⟨76,c103,[]⟩:=FnOk.by Tryd.func103 (by kernel_rfl) (by kernel_rfl) Tryd.ntmps103 (by rw [Tryd.results103]) (by kernel_rfl)
theorem fok104:FnOk Tryd.prog [0] 104 ⟨15,c104,[.tmp 6]⟩:=FnOk.by Tryd.func104 (by kernel_rfl) (by kernel_rfl) Tryd.ntmps104 (by rw [Tryd.results104]) (by kernel_rfl)
theorem fok105:FnOk Tryd.prog [0] 105 ⟨36,c105,[.tmp 10]⟩:=FnOk.by Tryd.func105 (by kernel_rfl) (by kernel_rfl) Tryd.ntmps105 (by rw [Tryd.results105]) (by kernel_rfl)
theorem fok107:FnOk Tryd.prog [0] 107 ⟨32,c107,[.tmp 10,.tmp 11]⟩:=FnOk.by Tryd.func107 (by kernel_rfl) (by kernel_rfl) Tryd.ntmps107 (by rw [Tryd.results107]) (by kernel_rfl)
theorem fok108:FnOk Tryd.prog [0] 108 ⟨28,c108,[.tmp 8,.tmp 9]⟩:=FnOk.by Tryd.func108 (by kernel_rfl) (by kernel_rfl) Tryd.ntmps108 (by rw [Tryd.results108]) (by kernel_rfl)
end Go.Proofs.YtokbaaeimejjlaaDoor.BkP
set_option maxRecDepth 100000
namespace Go.Proofs.YtokbaaeimejjlaaDoor.BkP
open Go Go.Sp Go.BkP
theorem tok3:TyOk Tryd.prog 3 ti3:=TyOk.by Tryd.underlying3 (inf:=Tryd.t3) (by kernel_rfl) (by kernel_rfl) (by kernel_rfl) (by kernel_rfl) (by kernel_rfl) (fun h=>by cases h)
theorem tok4:TyOk Tryd.prog 4 ti4:=TyOk.by Tryd.underlying4 (inf:=Tryd.t4) (by kernel_rfl) (by kernel_rfl) (by kernel_rfl) (by kernel_rfl) (by kernel_rfl) (fun h=>by cases h)
theorem tok5:TyOk Tryd.prog 5 ti5:=TyOk.by Tryd.underlying5 (inf:=Tryd.t5) (by kernel_rfl) (by kernel_rfl) (by kernel_rfl) (by kernel_rfl) (by kernel_rfl) (fun h=>by cases h)
theorem tok9:TyOk Tryd.prog 9 ti9:=TyOk.by Tryd.underlying9 (inf:=Tryd.t9) (by kernel_rfl) (by kernel_rfl) (by kernel_rfl) (by kernel_rfl) (by kernel_rfl) (fun h=>by cases h)
theorem tok25:TyOk Tryd.prog 25 ti25:=TyOk.by Tryd.underlying25 (inf:=Tryd.t25) (by kernel_rfl) (by kernel_rfl) (by kernel_rfl) (by kernel_rfl) (by kernel_rfl) (fun h=>by cases h)
theorem tok27:TyOk Tryd.prog 27 ti27:=TyOk.by Tryd.underlying27 (inf:=Tryd.t27) (by kernel_rfl) (by kernel_rfl) (by kernel_rfl) (by kernel_rfl) (by kernel_rfl) (fun h=>by cases h)
theorem tok30:TyOk Tryd.prog 30 ti30:=TyOk.by Tryd.underlying30 (inf:=Tryd.t30) (by kernel_rfl) (by kernel_rfl) (by kernel_rfl) (by kernel_rfl) (by kernel_rfl) (fun h=>by cases h)
theorem tok32:TyOk Tryd.prog 32 ti32:=TyOk.by Tryd.underlying32 (inf:=Tryd.t32) (by kernel_rfl) (by kernel_rfl) (by kernel_rfl) (by kernel_rfl) (by kernel_rfl) (fun h=>by cases h)
theorem tok35:TyOk Tryd.prog 35 ti35:=TyOk.by Tryd.underlying35 (inf:=Tryd.t35) (by kernel_rfl) (by kernel_rfl) (by kernel_rfl) (by kernel_rfl) (by kernel_rfl) (fun h=>by cases h)
theorem tok48:TyOk Tryd.prog 48 ti48:=TyOk.by Tryd.underlying48 (inf:=Tryd.t48) (by kernel_rfl) (by kernel_rfl) (by kernel_rfl) (by kernel_rfl) (by kernel_rfl) (fun _=>⟨_,rfl,Fl.ok (d:=8) (⟨by kernel_rfl,.inr (.inr (.inr (.inl ⟨9,5,[(.int .u8 0)],Tryd.underlying48,⟨by kernel_rfl,.inl ⟨⟨_,Tryd.underlying5⟩,_,_,rfl⟩⟩,by kernel_rfl⟩)))⟩) (by decide) ⟨_,Tryd.underlying48,rfl⟩ (by kernel_rfl)⟩)
theorem tok61:TyOk Tryd.prog 61 ti61:=TyOk.by Tryd.underlying61 (inf:=Tryd.t61) (by kernel_rfl) (by kernel_rfl) (by kernel_rfl) (by kernel_rfl) (by kernel_rfl) (fun h=>by cases h)
theorem tok66:TyOk Tryd.prog 66 ti66:=TyOk.by Tryd.underlying66 (inf:=Tryd.t66) (by kernel_rfl) (by kernel_rfl) (by kernel_rfl) (by kernel_rfl) (by kernel_rfl) (fun h=>by cases h)
theorem tok69:TyOk Tryd.prog 69 ti69:=TyOk.by Tryd.underlying69 (inf:=Tryd.t69) (by kernel_rfl) (by kernel_rfl) (by kernel_rfl) (by kernel_rfl) (by kernel_rfl) (fun h=>by cases h)
theorem tok72:TyOk Tryd.prog 72 ti72:=TyOk.by Tryd.underlying72 (inf:=Tryd.t72) (by kernel_rfl) (by kernel_rfl) (by kernel_rfl) (by kernel_rfl) (by kernel_rfl) (fun h=>by cases h)
theorem tok74:TyOk Tryd.prog 74 ti74:=TyOk.by Tryd.underlying74 (inf:=Tryd.t74) (by kernel_rfl) (by kernel_rfl) (by kernel_rfl) (by kernel_rfl) (by kernel_rfl) (fun h=>by cases h)
theorem tok77:TyOk Tryd.prog 77 ti77:=TyOk.by Tryd.underlying77 (inf:=Tryd.t77) (by kernel_rfl) (by kernel_rfl) (by kernel_rfl) (by kernel_rfl) (by kernel_rfl) (fun h=>by cases h)
theorem tok79:TyOk Tryd.prog 79 ti79:=TyOk.by Tryd.underlying79 (inf:=Tryd.t79) (by kernel_rfl) (by kernel_rfl) (by kernel_rfl) (by kernel_rfl) (by kernel_rfl) (fun h=>by cases h)
theorem tok86:TyOk Tryd.prog 86 ti86:=TyOk.by Tryd.underlying86 (inf:=Tryd.t86) (by kernel_rfl) (by kernel_rfl) (by kernel_rfl) (by kernel_rfl) (by kernel_rfl) (fun _=>⟨_,rfl,Fl.ok (d:=8) (⟨by kernel_rfl,.inr (.inr (.inr (.inr ⟨_,Tryd.underlying86,by kernel_rfl,⟨by decide,rfl,[(.int .i64 0)],[(.bool false)],rfl,⟨by kernel_rfl,.inl ⟨⟨_,Tryd.underlying3⟩,_,_,rfl⟩⟩,⟨by decide,rfl,[(.bool false)],[],rfl,⟨by kernel_rfl,.inr (.inl ⟨Tryd.underlying4,_,rfl⟩)⟩,rfl⟩⟩⟩)))⟩) (by decide) ⟨_,Tryd.underlying86,rfl⟩ (by kernel_rfl)⟩)
theorem tok91:TyOk Tryd.prog 91 ti91:=TyOk.by Tryd.underlying91 (inf:=Tryd.t91) (by kernel_rfl) (by kernel_rfl) (by kernel_rfl) (by kernel_rfl) (by kernel_rfl) (fun _=>⟨_,rfl,Fl.ok (d:=8) (⟨by kernel_rfl,.inr (.inr (.inr (.inl ⟨17,3,[(.int .i64 0)],Tryd.underlying91,⟨by kernel_rfl,.inl ⟨⟨_,Tryd.underlying3⟩,_,_,rfl⟩⟩,by kernel_rfl⟩)))⟩) (by decide) ⟨_,Tryd.underlying91,rfl⟩ (by kernel_rfl)⟩)
theorem tok98:TyOk Tryd.prog 98 ti98:=TyOk.by Tryd.underlying98 (inf:=Tryd.t98) (by kernel_rfl) (by kernel_rfl) (by kernel_rfl) (by kernel_rfl) (by kernel_rfl) (fun _=>⟨_,rfl,Fl.ok (d:=8) (⟨by kernel_rfl,.inr (.inr (.inr (.inl ⟨32,5,[(.int .u8 0)],Tryd.underlying98,⟨by kernel_rfl,.inl ⟨⟨_,Tryd.underlying5⟩,_,_,rfl⟩⟩,by kernel_rfl⟩)))⟩) (by decide) ⟨_,Tryd.underlying98,rfl⟩ (by kernel_rfl)⟩)
theorem tok99:TyOk Tryd.prog 99 ti99:=TyOk.by Tryd.underlying99 (inf:=Tryd.t99) (by kernel_rfl) (by kernel_rfl) (by kernel_rfl) (by kernel_rfl) (by kernel_rfl) (fun h=>by cases h)
theorem tok100:TyOk Tryd.prog 100 ti100:=TyOk.by Tryd.underlying100 (inf:=Tryd.t100) (by kernel_rfl) (by kernel_rfl) (by kernel_rfl) (by kernel_rfl) (by kernel_rfl) (fun h=>by cases h)
theorem tok102:TyOk Tryd.prog 102 ti102:=TyOk.by Tryd.underlying102 (inf:=Tryd.t102) (by kernel_rfl) (by kernel_rfl) (by kernel_rfl) (by kernel_rfl) (by kernel_rfl) (fun h=>by cases h)
theorem tok109:TyOk Tryd.prog 109 ti109:=TyOk.by Tryd.underlying109 (inf:=Tryd.t109) (by kernel_rfl) (by kernel_rfl) (by kernel_rfl) (by kernel_rfl) (by kernel_rfl) (fun h=>by cases h)
theorem tok118:TyOk Tryd.prog 118 ti118:=TyOk.by Tryd.underlying118 (inf:=Tryd.t118) (by kernel_rfl) (by kernel_rfl) (by kernel_rfl) (by kernel_rfl) (by kernel_rfl) (fun h=>by cases h)
theorem tok128:TyOk Tryd.prog 128 ti128:=TyOk.by Tryd.underlying128 (inf:=Tryd.t128) (by kernel_rfl) (by kernel_rfl) (by kernel_rfl) (by kernel_rfl) (by kernel_rfl) (fun h=>by cases h)
theorem tok132:TyOk Tryd.prog 132 ti132:=TyOk.by Tryd.underlying132 (inf:=Tryd.t132) (by kernel_rfl) (by kernel_rfl) (by kernel_rfl) (by kernel_rfl) (by kernel_rfl) (fun h=>by cases h)
theorem ttOk:TOk Tryd.prog tt:=TOk.of_all (t:=ttTr) ⟨trivial,⟨trivial,⟨tok3,⟨trivial,⟨trivial,trivial,⟨trivial,⟨tok79,trivial,trivial⟩,trivial⟩⟩,trivial⟩,⟨trivial,⟨trivial,⟨tok35,trivial,⟨tok99,trivial,trivial⟩⟩,trivial⟩,⟨tok27,trivial,⟨trivial,⟨tok91,trivial,trivial⟩,trivial⟩⟩⟩⟩,⟨tok5,⟨tok9,trivial,⟨tok25,trivial,trivial⟩⟩,⟨trivial,⟨trivial,⟨trivial,⟨tok69,trivial,trivial⟩,trivial⟩,trivial⟩,⟨trivial,⟨trivial,⟨tok77,trivial,trivial⟩,⟨tok109,trivial,trivial⟩⟩,⟨tok61,trivial,trivial⟩⟩⟩⟩⟩,⟨trivial,⟨tok4,⟨trivial,⟨trivial,⟨tok32,⟨trivial,⟨tok128,trivial,trivial⟩,trivial⟩,trivial⟩,⟨tok48,trivial,trivial⟩⟩,⟨trivial,⟨trivial,⟨tok72,trivial,trivial⟩,trivial⟩,trivial⟩⟩,⟨trivial,⟨trivial,⟨trivial,⟨trivial,⟨tok132,trivial,trivial⟩,trivial⟩,⟨tok100,trivial,trivial⟩⟩,trivial⟩,trivial⟩⟩,⟨trivial,⟨trivial,⟨trivial,⟨trivial,⟨tok66,trivial,trivial⟩,⟨tok98,trivial,trivial⟩⟩,trivial⟩,⟨trivial,⟨trivial,⟨tok74,trivial,trivial⟩,trivial⟩,trivial⟩⟩,⟨trivial,⟨trivial,⟨trivial,trivial,⟨tok102,trivial,trivial⟩⟩,⟨trivial,⟨tok86,trivial,trivial⟩,⟨tok118,trivial,trivial⟩⟩⟩,⟨tok30,trivial,trivial⟩⟩⟩⟩⟩
theorem fnAll:fnTr.All (FnOk Tryd.prog [0]):=⟨trivial,⟨trivial,⟨trivial,⟨trivial,⟨fok15,⟨fok31,⟨fok63,trivial,trivial⟩,⟨fok95,trivial,trivial⟩⟩,⟨fok47,⟨fok79,trivial,trivial⟩,trivial⟩⟩,⟨fok23,⟨fok39,⟨fok71,trivial,trivial⟩,⟨fok103,trivial,trivial⟩⟩,⟨fok55,⟨fok87,trivial,trivial⟩,trivial⟩⟩⟩,⟨fok11,⟨fok19,⟨fok35,⟨fok67,trivial,trivial⟩,⟨fok99,trivial,trivial⟩⟩,⟨fok51,⟨fok83,trivial,trivial⟩,trivial⟩⟩,⟨trivial,⟨fok43,⟨fok75,trivial,trivial⟩,⟨fok107,trivial,trivial⟩⟩,⟨fok59,⟨fok91,trivial,trivial⟩,trivial⟩⟩⟩⟩,⟨trivial,⟨trivial,⟨fok17,⟨fok33,⟨fok65,trivial,trivial⟩,trivial⟩,⟨fok49,⟨fok81,trivial,trivial⟩,trivial⟩⟩,⟨fok25,⟨fok41,⟨fok73,trivial,trivial⟩,⟨fok105,trivial,trivial⟩⟩,⟨fok57,⟨fok89,trivial,trivial⟩,trivial⟩⟩⟩,⟨trivial,⟨fok21,⟨fok37,⟨fok69,trivial,trivial⟩,⟨fok101,trivial,trivial⟩⟩,⟨fok53,⟨fok85,trivial,trivial⟩,trivial⟩⟩,⟨fok29,⟨fok45,trivial,trivial⟩,⟨fok61,⟨fok93,trivial,trivial⟩,trivial⟩⟩⟩⟩⟩,⟨trivial,⟨trivial,⟨trivial,⟨fok16,⟨fok32,⟨fok64,trivial,trivial⟩,⟨fok96,trivial,trivial⟩⟩,⟨fok48,⟨fok80,trivial,trivial⟩,trivial⟩⟩,⟨fok24,⟨fok40,trivial,⟨fok104,trivial,trivial⟩⟩,⟨fok56,⟨fok88,trivial,trivial⟩,trivial⟩⟩⟩,⟨fok12,⟨fok20,⟨fok36,⟨fok68,trivial,trivial⟩,⟨fok100,trivial,trivial⟩⟩,⟨fok52,⟨fok84,trivial,trivial⟩,trivial⟩⟩,⟨trivial,⟨fok44,⟨fok76,trivial,trivial⟩,⟨fok108,trivial,trivial⟩⟩,⟨fok60,⟨fok92,trivial,trivial⟩,trivial⟩⟩⟩⟩,⟨fok6,⟨fok10,⟨fok18,⟨fok34,⟨fok66,trivial,trivial⟩,⟨fok98,trivial,trivial⟩⟩,⟨fok50,⟨fok82,trivial,trivial⟩,trivial⟩⟩,⟨trivial,⟨fok42,⟨fok74,trivial,trivial⟩,trivial⟩,⟨fok58,⟨fok90,trivial,trivial⟩,trivial⟩⟩⟩,⟨fok14,⟨fok22,⟨fok38,⟨fok70,trivial,trivial⟩,⟨fok102,trivial,trivial⟩⟩,⟨trivial,⟨fok86,trivial,trivial⟩,trivial⟩⟩,⟨fok30,⟨fok46,⟨fok78,trivial,trivial⟩,trivial⟩,⟨fok62,⟨fok94,trivial,trivial⟩,trivial⟩⟩⟩⟩⟩⟩
theorem fnsOk (f:FuncId) (r:RFn) (h:fns f = some r):FnOk Tryd.prog [0] f r:=fnAll.get h
end Go.Proofs.YtokbaaeimejjlaaDoor.BkP
set_option maxRecDepth 100000
namespace Go.Proofs.YtokbaaeimejjlaaDoor.BkP
open Go Go.Sp Go.BkPM Go.BkP
noncomputable section
theorem fk6:FnOk Tryd.prog (List.range tabs.length) 6 ⟨158,c6_96,[.tmp 4]⟩:=by
 have h:c6 = c6_96:=by kernel_rfl
 rw [←h];exact fok6
theorem fk10:FnOk Tryd.prog (List.range tabs.length) 10 ⟨103,c10_95,[.tmp 8]⟩:=by
 have h:c10 = c10_95:=by kernel_rfl
 rw [←h];exact fok10
theorem fk11:FnOk Tryd.prog (List.range tabs.length) 11 ⟨34,c11_19,[.tmp 6,.tmp 7]⟩:=by
 have h:c11 = c11_19:=by kernel_rfl
 rw [←h];exact fok11
theorem fk12:FnOk Tryd.prog (List.range tabs.length) 12 ⟨26,c12_26,[.tmp 4]⟩:=by
 have h:c12 = c12_26:=by kernel_rfl
 rw [←h];exact fok12
theorem fk22:FnOk Tryd.prog (List.range tabs.length) 22 ⟨4,c22_3,[.tmp 2]⟩:=by
 have h:c22 = c22_3:=by kernel_rfl
 rw [←h];exact fok22
theorem fk24:FnOk Tryd.prog (List.range tabs.length) 24 ⟨20,c24_9,[.tmp 4,.tmp 5]⟩:=by
 have h:c24 = c24_9:=by kernel_rfl
 rw [←h];exact fok24
theorem fk32:FnOk Tryd.prog (List.range tabs.length) 32 ⟨33,c32_32,[.tmp 4,.tmp 5]⟩:=by
 have h:c32 = c32_32:=by kernel_rfl
 rw [←h];exact fok32
theorem fk33:FnOk Tryd.prog (List.range tabs.length) 33 ⟨19,c33_22,[.tmp 4]⟩:=by
 have h:c33 = c33_22:=by kernel_rfl
 rw [←h];exact fok33
theorem fk34:FnOk Tryd.prog (List.range tabs.length) 34 ⟨35,c34_20,[.tmp 6]⟩:=by
 have h:c34 = c34_20:=by kernel_rfl
 rw [←h];exact fok34
theorem fk48:FnOk Tryd.prog (List.range tabs.length) 48 ⟨15,c48_3,[.tmp 6]⟩:=by
 have h:c48 = c48_3:=by kernel_rfl
 rw [←h];exact fok48
theorem fk49:FnOk Tryd.prog (List.range tabs.length) 49 ⟨110,c49_91,[.tmp 2,.tmp 3]⟩:=by
 have h:c49 = c49_91:=by kernel_rfl
 rw [←h];exact fok49
theorem fk51:FnOk Tryd.prog (List.range tabs.length) 51 ⟨18,c51_27,[.cell 2 86]⟩:=by
 have h:c51 = c51_27:=by kernel_rfl
 rw [←h];exact fok51
theorem fk52:FnOk Tryd.prog (List.range tabs.length) 52 ⟨22,c52_8,[.cell 4 86]⟩:=by
 have h:c52 = c52_8:=by kernel_rfl
 rw [←h];exact fok52
theorem fk53:FnOk Tryd.prog (List.range tabs.length) 53 ⟨22,c53_27,[.tmp 2]⟩:=by
 have h:c53 = c53_27:=by kernel_rfl
 rw [←h];exact fok53
theorem fk58:FnOk Tryd.prog (List.range tabs.length) 58 ⟨34,c58_15,[.tmp 4]⟩:=by
 have h:c58 = c58_15:=by kernel_rfl
 rw [←h];exact fok58
theorem fk68:FnOk Tryd.prog (List.range tabs.length) 68 ⟨25,c68_23,[.tmp 2]⟩:=by
 have h:c68 = c68_23:=by kernel_rfl
 rw [←h];exact fok68
theorem fk69:FnOk Tryd.prog (List.range tabs.length) 69 ⟨25,c69_23,[.tmp 2]⟩:=by
 have h:c69 = c69_23:=by kernel_rfl
 rw [←h];exact fok69
theorem fk25:FnOk Tryd.prog (List.range tabs.length) 25 ⟨11,c25_5,[.tmp 2]⟩:=by
 have h:c25 = c25_5:=by kernel_rfl
 rw [←h];exact fok25
theorem tabs_ne:∀ t ∈ tabs,t ≠ []:=by intro t ht;simp [tabs] at ht;subst ht;intro h;cases h
theorem tabs_pl:∀ t ∈ tabs,∀ x ∈ t,plain1 x = true:=by intro t ht x hx;simp [tabs] at ht;subst ht;simp [tab0] at hx;rcases hx with rfl | rfl | rfl | rfl | rfl | rfl | rfl | rfl | rfl | rfl | rfl | rfl | rfl | rfl | rfl | rfl | rfl | rfl | rfl | rfl | rfl | rfl | rfl | rfl | rfl | rfl | rfl | rfl | rfl | rfl | rfl | rfl <;> rfl
theorem inl_ok (hm:Tryd.prog.follows .mixedOrders = true) {pu:PureF} (hg22:PureOk Tryd.prog tabs 22 (pu 22)) (hg77:PureOk Tryd.prog tabs 77 (pu 77)) (hg32:PureOk Tryd.prog tabs 32 (pu 32)) (h0:ObjOk Tryd.prog tabs 1 0 25 (pu 10250)):CallOk Tryd.prog (List.range tabs.length) (inl pu):=fun g args H v H' h=>by
 replace h:bb (Nat.beq g 22) (giveF tabs 1 (pu 22) args H) (bb (Nat.beq g 77) (giveF tabs 1 (pu 77) args H) (bb (Nat.beq g 32) (giveF tabs 1 (pu 32) args H) (bb (Nat.beq g 25) (objG tabs [[none,none,none,some 1]] 1 [] [] (pu 10250) args H) (none)))) = some (v,H'):=h
 have hq:=bb_cases h;clear h;rcases hq with ⟨e,h⟩ | ⟨_,h⟩
 ·obtain rfl := Nat.eq_of_beq_eq_true e
  exact giveF_ok tabs_ne tabs_pl hg22 h
 have hq:=bb_cases h;clear h;rcases hq with ⟨e,h⟩ | ⟨_,h⟩
 ·obtain rfl := Nat.eq_of_beq_eq_true e
  exact giveF_ok tabs_ne tabs_pl hg77 h
 have hq:=bb_cases h;clear h;rcases hq with ⟨e,h⟩ | ⟨_,h⟩
 ·obtain rfl := Nat.eq_of_beq_eq_true e
  exact giveF_ok tabs_ne tabs_pl hg32 h
 have hq:=bb_cases h;clear h;rcases hq with ⟨e,h⟩ | ⟨_,h⟩
 ·obtain rfl := Nat.eq_of_beq_eq_true e
  exact objG_ok (rs:=[]) tabs_ne tabs_pl h0 h
 cases h
theorem disp_ok (hm:Tryd.prog.follows .mixedOrders = true) (hw:PureOk Tryd.prog tabs 19 orc19∧PureOk Tryd.prog tabs 66 orc66∧PureOk Tryd.prog tabs 77 orc77) {pu:PureF} (hall:(∀ g,isP g = true→PureOk Tryd.prog tabs g (pu g))∧PureOk Tryd.prog tabs 22 (pu 22)∧PureOk Tryd.prog tabs 77 (pu 77)∧PureOk Tryd.prog tabs 32 (pu 32)∧ObjOk Tryd.prog tabs 1 0 25 (pu 10250)):(∀ g,isP g = true→PureOk Tryd.prog tabs g (disp pu g))∧PureOk Tryd.prog tabs 22 (disp pu 22)∧PureOk Tryd.prog tabs 77 (disp pu 77)∧PureOk Tryd.prog tabs 32 (disp pu 32)∧ObjOk Tryd.prog tabs 1 0 25 (disp pu 10250):=by
 obtain ⟨hpu,hg22,hg77,hg32,h0⟩:=hall
 have hcall:=callP_ok (P:=Tryd.prog) (tabs:=tabs) tabs_ne tabs_pl (inl_ok hm hg22 hg77 hg32 h0) hpu
 refine ⟨fun g hg=>?_,?_,?_,?_,?_⟩
 ·have hg : g ∈ plist := memN_iff.1 hg
  simp only [plist,List.mem_cons,List.not_mem_nil,or_false] at hg
  rcases hg with rfl | rfl | rfl | rfl | rfl | rfl | rfl | rfl | rfl | rfl | rfl | rfl | rfl | rfl | rfl | rfl | rfl
  ·exact pureOk_of_run (tabs:=tabs) (f:=m6 pu L) ttOk hm hcall fk6 fun args v h hc=>r6 pu L rfl h hc
  ·exact pureOk_of_run (tabs:=tabs) (f:=m10 pu L) ttOk hm hcall fk10 fun args v h hc=>r10 pu L rfl h hc
  ·exact pureOk_of_run (tabs:=tabs) (f:=m11 pu L) ttOk hm hcall fk11 fun args v h hc=>r11 pu L rfl h hc
  ·exact pureOk_of_run (tabs:=tabs) (f:=m12 pu L) ttOk hm hcall fk12 fun args v h hc=>r12 pu L rfl h hc
  ·exact hw.1
  ·exact pureOk_of_run (tabs:=tabs) (f:=m24 pu L) ttOk hm hcall fk24 fun args v h hc=>r24 pu L rfl h hc
  ·exact pureOk_of_run (tabs:=tabs) (f:=m33 pu L) ttOk hm hcall fk33 fun args v h hc=>r33 pu L rfl h hc
  ·exact pureOk_of_run (tabs:=tabs) (f:=m34 pu L) ttOk hm hcall fk34 fun args v h hc=>r34 pu L rfl h hc
  ·exact pureOk_of_run (tabs:=tabs) (f:=m48 pu L) ttOk hm hcall fk48 fun args v h hc=>r48 pu L rfl h hc
  ·exact pureOk_of_run (tabs:=tabs) (f:=m49 pu L) ttOk hm hcall fk49 fun args v h hc=>r49 pu L rfl h hc
  ·exact pureOk_of_run (tabs:=tabs) (f:=m51 pu L) ttOk hm hcall fk51 fun args v h hc=>r51 pu L rfl h hc
  ·exact pureOk_of_run (tabs:=tabs) (f:=m52 pu L) ttOk hm hcall fk52 fun args v h hc=>r52 pu L rfl h hc
  ·exact pureOk_of_run (tabs:=tabs) (f:=m53 pu L) ttOk hm hcall fk53 fun args v h hc=>r53 pu L rfl h hc
  ·exact pureOk_of_run (tabs:=tabs) (f:=m58 pu L) ttOk hm hcall fk58 fun args v h hc=>r58 pu L rfl h hc
  ·exact hw.2.1
  ·exact pureOk_of_run (tabs:=tabs) (f:=m68 pu L) ttOk hm hcall fk68 fun args v h hc=>r68 pu L rfl h hc
  ·exact pureOk_of_run (tabs:=tabs) (f:=m69 pu L) ttOk hm hcall fk69 fun args v h hc=>r69 pu L rfl h hc
 ·exact pureOk_of_run (tabs:=tabs) (f:=m22 pu L) ttOk hm hcall fk22 fun args v h hc=>r22 pu L rfl h hc
 ·exact hw.2.2
 ·exact pureOk_of_run (tabs:=tabs) (f:=m32 pu L) ttOk hm hcall fk32 fun args v h hc=>r32 pu L rfl h hc
 ·exact objOk_of_run (tabs:=tabs) (f:=m10250 pu L) ttOk hm hcall fk25 fun args os z h1 h2 h3 h=>r10250 pu L rfl h1 h2 h3 h
theorem all_ok (hm:Tryd.prog.follows .mixedOrders = true) (hw:PureOk Tryd.prog tabs 19 orc19∧PureOk Tryd.prog tabs 66 orc66∧PureOk Tryd.prog tabs 77 orc77):∀ n,(∀ g,isP g = true→PureOk Tryd.prog tabs g (puN n g))∧PureOk Tryd.prog tabs 22 (puN n 22)∧PureOk Tryd.prog tabs 77 (puN n 77)∧PureOk Tryd.prog tabs 32 (puN n 32)∧ObjOk Tryd.prog tabs 1 0 25 (puN n 10250):=fun n=>by
 induction n with
 | zero =>
  refine ⟨fun g hg=>?_,?_,?_,?_,?_⟩
  ·have hg : g ∈ plist := memN_iff.1 hg
   simp only [plist,List.mem_cons,List.not_mem_nil,or_false] at hg
   rcases hg with rfl | rfl | rfl | rfl | rfl | rfl | rfl | rfl | rfl | rfl | rfl | rfl | rfl | rfl | rfl | rfl | rfl
   ·exact ⟨enter_ok fk6,fun args v h=>by cases h⟩
   ·exact ⟨enter_ok fk10,fun args v h=>by cases h⟩
   ·exact ⟨enter_ok fk11,fun args v h=>by cases h⟩
   ·exact ⟨enter_ok fk12,fun args v h=>by cases h⟩
   ·exact ⟨(hw.1).1,fun args v h=>by cases h⟩
   ·exact ⟨enter_ok fk24,fun args v h=>by cases h⟩
   ·exact ⟨enter_ok fk33,fun args v h=>by cases h⟩
   ·exact ⟨enter_ok fk34,fun args v h=>by cases h⟩
   ·exact ⟨enter_ok fk48,fun args v h=>by cases h⟩
   ·exact ⟨enter_ok fk49,fun args v h=>by cases h⟩
   ·exact ⟨enter_ok fk51,fun args v h=>by cases h⟩
   ·exact ⟨enter_ok fk52,fun args v h=>by cases h⟩
   ·exact ⟨enter_ok fk53,fun args v h=>by cases h⟩
   ·exact ⟨enter_ok fk58,fun args v h=>by cases h⟩
   ·exact ⟨(hw.2.1).1,fun args v h=>by cases h⟩
   ·exact ⟨enter_ok fk68,fun args v h=>by cases h⟩
   ·exact ⟨enter_ok fk69,fun args v h=>by cases h⟩
  ·exact ⟨enter_ok fk22,fun args v h=>by cases h⟩
  ·exact ⟨(hw.2.2).1,fun args v h=>by cases h⟩
  ·exact ⟨enter_ok fk32,fun args v h=>by cases h⟩
  ·exact ⟨enter_ok fk25,fun args os z h1 h2 h3 h=>by cases h⟩
 | succ n ih=>exact disp_ok hm hw ih
theorem pu_ok (hm:Tryd.prog.follows .mixedOrders = true) (hw:PureOk Tryd.prog tabs 19 orc19∧PureOk Tryd.prog tabs 66 orc66∧PureOk Tryd.prog tabs 77 orc77):∀ n g,isP g = true→PureOk Tryd.prog tabs g (puN n g):=fun n=>(all_ok hm hw n).1
end
end Go.Proofs.YtokbaaeimejjlaaDoor.BkP
namespace Go.Proofs
open Go Go.RowKit Go.Shelf
attribute [local go_sem] Oper.semAt_some

def BkUp {r:Nat} (hr:0 < r) (k:Nat):List (Fin r):=(List.range k).map fun i=>⟨i % r,Nat.mod_lt _ hr⟩
theorem BkUp_succ {r:Nat} (hr:0 < r) (k:Nat):BkUp hr (k + 1) = BkUp hr k ++ [⟨k % r,Nat.mod_lt _ hr⟩]:=by simp [BkUp,List.range_succ]
theorem BkUp_len {r:Nat} (hr:0 < r) (k:Nat):(BkUp hr k).length = k:=by simp [BkUp]

set_option maxRecDepth 100000 in
set_option maxHeartbeats 4000000 in
theorem bkChunk1 (F : Fence) (n : Nat) (h7 : F.fn 106) (hro : F.round = none) (hn : 1 ≤ n) (l Bs Bn b off r c N cap : Nat) (hr : 0 < r) (hc : 1 ≤ c) (hc4 : c ≤ 4) (hN : N = r * c) (hrc : N ≤ 16) (hcap : N ≤ cap) (J Jx : List (Fin r) → World → Prop) (hJd : ∀ s W, J s W → J s W.drew)
 (hY : ∀ pre (x : Fin r) W, J pre W → pre.length < r → YieldAt F (n - 1) Tryd.prog l #[.slice (some ⟨b, off + x.1 * c, none⟩) c c] W fun e W' =>
   (e = .returned (.bool true)∧J (pre ++ [x]) W'∧(W'.cell? ⟨Bs,0,none⟩ = W.cell? ⟨Bs,0,none⟩∧W'.cell? ⟨Bn,0,none⟩ = W.cell? ⟨Bn,0,none⟩))∨(e = .returned (.bool false)∧Jx (pre ++ [x]) W'))
 (W:World) (hBs:W.cell? ⟨Bs,0,none⟩ = some (.slice (some ⟨b,off,none⟩) N cap)) (hBn:W.cell? ⟨Bn,0,none⟩ = some (.int .i64 c)) (h0:J [] W) :
 CallsIn F n Tryd.prog 106 #[.func (.yield l) #[] #[], .pointer (some ⟨Bs, 0, none⟩), .pointer (some ⟨Bn, 0, none⟩)] W fun e W' => (∃ v, e = .returned v) ∧
  ((∃ ys,ys = BkUp hr r∧J ys W')∨(∃ pre,True∧Jx pre W')):=by
 refine callsIn_of_wp Tryd.func106 rfl h7 ?_ hro
 simp only [Tryd.ntmps106,List.size_toArray,List.length_cons,List.length_nil,Nat.reduceAdd,Nat.reduceSub,Array.replicate_succ,Array.replicate_zero,List.push_toArray,List.append_toArray,List.nil_append,List.cons_append]
 gi_wp2
 gi_loopw [4] (fun i wr => ∃ k q : Nat, k ≤ r ∧ q = k * c ∧ i = .int .i64 q ∧ J (BkUp hr k) wr ∧ wr.cell? ⟨Bs, 0, none⟩ = some (.slice (some ⟨b, off, none⟩) N cap) ∧ wr.cell? ⟨Bn, 0, none⟩ = some (.int .i64 c))
  (fun i _=>N - (intOf i).toNat)
 case atStart=>exact ⟨0,0,Nat.zero_le _,by simp,rfl,h0,hBs,hBn⟩
 case round=>
  obtain ⟨k,q,hk,hq,rfl,hJs,hs,hnn⟩:=hrel
  by_cases hlt:k < r
  ·obtain ⟨fn, tmps, assign, body, hy, hR⟩ := hY _ ⟨k, hlt⟩ wr.drew (hJd _ _ hJs) (by rw [BkUp_len]; exact hlt)
   have e1:q + c≤N:=by rw [hq,hN,←Nat.succ_mul];exact Nat.mul_le_mul_right c hlt
   have hq2:Hid ((k + 1) * c = q + c):=by show (k + 1) * c = q + c;rw [Nat.succ_mul,hq]
   dsimp only at hy
   rw [←hq] at hy
   have hmod:(⟨k % r,Nat.mod_lt _ hr⟩:Fin r) = ⟨k,hlt⟩:=by simp [Nat.mod_eq_of_lt hlt]
   have hJn:Hid (∀ W',J (BkUp hr k ++ [⟨k,hlt⟩]) W'→J (BkUp hr (k + 1)) W'):=fun W' h=>by rw [BkUp_succ,hmod];exact h
   have hnc:c≤N - q:=by omega
   clear hq hN hmod hY hJd hBs hBn h0 hJs
   gi_wp2
   gi_region
   all_goals (try rw [if_neg (show ¬ N - q < c by omega)])
   all_goals gi_wp2
   all_goals
    refine hR.mono ?_
    rintro e W3 (⟨rfl,hJ3,hs3,hn3⟩ | ⟨rfl,hJx3⟩)
    ·have hs4 : W3.cell? ⟨Bs, 0, none⟩ = some (.slice (some ⟨b, off, none⟩) N cap) := hs3.trans hs
     have hn4:W3.cell? ⟨Bn,0,none⟩ = some (.int .i64 c):=hn3.trans hnn
     clear hs3 hn3 hs hnn
     gi_wp2
     go_roundw
     case rel=>exact ⟨k + 1,q + c,by omega,hq2.out.symm,by simp,hJn.out _ hJ3,hs4,hn4⟩
     case measure=>simp [intOf];omega
    ·gi_wp2
     refine bodyPost_ret (results_none rfl _ _ _) rfl ?_
     exact ⟨⟨_,rfl⟩,.inr ⟨_,trivial,hJx3⟩⟩
  ·obtain rfl : k = r := by omega
   obtain rfl:q = N:=by rw [hq,hN]
   gi_wp2
   go_end0
   exact ⟨⟨_,rfl⟩,.inl ⟨_,rfl,hJs⟩⟩
end Go.Proofs
