/- lemmas -/
import Derived.Test.YtiochmbenflhhaaGreatAmF
import Derived.KernelRfl
import Derived.Test.YtiochmbenflhhaaGreatMdTA
import Derived.Test.YtiochmbenflhhaaGreatProg
set_option linter.all false
set_option linter.unusedSectionVars false
set_option linter.unusedVariables false
set_option linter.unusedSimpArgs false
noncomputable section
set_option maxRecDepth 100000
namespace Go.Proofs.ZzM
open Go Go.Am
def Mj:Nat→Bool
  |154=>true
  |227=>true
  |228=>true
  |229=>true
  |230=>true
  |231=>true
  |_=>false
def Vk:Nat→Bool
  |223=>true
  |_=>false
def xD:Nat→Bool
  |224=>true
  |_=>false
def isInl:Nat→Bool
  |2=>true
  |41=>true
  |47=>true
  |48=>true
  |67=>true
  |104=>true
  |112=>true
  |115=>true
  |117=>true
  |120=>true
  |121=>true
  |122=>true
  |123=>true
  |124=>true
  |125=>true
  |126=>true
  |127=>true
  |128=>true
  |129=>true
  |130=>true
  |142=>true
  |143=>true
  |149=>true
  |150=>true
  |151=>true
  |152=>true
  |153=>true
  |161=>true
  |163=>true
  |164=>true
  |165=>true
  |171=>true
  |178=>true
  |186=>true
  |187=>true
  |188=>true
  |189=>true
  |191=>true
  |192=>true
  |194=>true
  |195=>true
  |206=>true
  |209=>true
  |210=>true
  |211=>true
  |212=>true
  |213=>true
  |216=>true
  |219=>true
  |220=>true
  |221=>true
  |225=>true
  |226=>true
  |232=>true
  |234=>true
  |236=>true
  |247=>true
  |248=>true
  |251=>true
  |252=>true
  |263=>true
  |264=>true
  |265=>true
  |266=>true
  |267=>true
  |268=>true
  |270=>true
  |271=>true
  |277=>true
  |278=>true
  |280=>true
  |281=>true
  |283=>true
  |284=>true
  |287=>true
  |288=>true
  |290=>true
  |292=>true
  |293=>true
  |_=>false
def isFz:Nat→Bool
  |13=>true
  |46=>true
  |79=>true
  |100=>true
  |_=>false
def isEat:Nat→Nat→Bool
  |36,4=>true
  |36,5=>true
  |41,67=>true
  |91,15=>true
  |91,91=>true
  |161,30=>true
  |167,8=>true
  |167,11=>true
  |171,25=>true
  |248,0=>true
  |_,_=>false
def afA:List Nat→Nat→Bool
  |p,117=>Nat.ble 10 p.length
  |_,_=>false
def æ {ρ:Type} (pt:List (Nat×â)) (tab:List (ä ρ)):Env ρ :=
  {P:=Tryz.prog,eat:=isEat,clone:=Mj,sort:=Vk,compact:=xD,inl:=isInl,fz:=isFz,stop:=afA,pure:=aag pt,loops:=qx tab}
def afy {ρ:Type} (pt:List (Nat×â)) (tab:List (ä ρ)) (us:List adP):Env ρ :=
  {P:=Tryz.prog,eat:=isEat,clone:=Mj,sort:=Vk,compact:=xD,inl:=isInl,fz:=isFz,stop:=afA,pure:=aag pt,loops:=Vb (æ pt tab) us}
abbrev bi:jj:=.cells [.con tI,.con tI,.con ae,.con aa,.con af,.con ac,.con aa]
abbrev bj:jj:=.cells [.con tI,.con tI,.con tI,.con tI,.con tI,.con tI,.con tI,.con tI]
abbrev bm:jj:=.cells [.con tI,.con tI,.con tI,.con tI]
abbrev bn:jj:=.cells [.con ab]
abbrev bo:jj:=.cells [.con tI]
abbrev bp:jj:=.cells [.con tI,.con tI,.con ab,.con ab,.con tI,.con tI,.con tI,.con tI]
abbrev bq:jj:=.cells [.con tI,.con tI]
abbrev br:jj:=.cells [.con tI,.con ai]
abbrev bt:jj:=.cells [.own 6]
abbrev bu:jj:=.cells [.con tI,.con tI,.nils,.nils,.nils,.nils,.nils]
abbrev bv:jj:=.cells [.con tI,.con tI,.own 9,.own 10,.own 11,.con ac,.own 12]
abbrev bw:jj:=.cells [.con tI,.con tI,.con ae,.con aa,.con af,.con ac,.con aa,.con aa,.con tI,.own 3,.own 4]
abbrev bz:jj:=.cells [.con tI,.con tI,.con ae,.con aa,.con af,.con ac,.con aa,.con aa,.con tI,.own 2,.own 3]
abbrev bB:jj:=.cells [.var tI,.var tI,.var ae,.var aa,.var af,.var ac,.var aa]
abbrev bC:jj:=.cells [.con tI,.con tI,.con tI]
abbrev bD:jj:=.cells [.con tI,.con tI,.nils,.nils,.nils,.nils,.nils,.con tI,.con tI,.con .bool,.con tI,.nils]
abbrev bE:jj:=.cells [.con tI,.con tI,.own 11,.own 12,.own 13,.con ac,.own 14]
abbrev bG:jj:=.cells [.con tI,.con tI,.con ae,.con aa,.con af,.con ac,.con aa,.con tI,.own 6]
abbrev bH:jj:=.cells [.omp 3]
abbrev bI:jj:=.cells [.con ae]
abbrev bJ:jj:=.cells [.fn 122 []]
abbrev bK:jj:=.cells [.con aa]
abbrev bL:jj:=.cells [.fn 123 [(2,0)]]
abbrev bM:jj:=.cells [.con af]
abbrev bN:jj:=.cells [.fn 124 [(2,0)]]
abbrev bO:jj:=.cells [.con ak]
abbrev bP:jj:=.cells [.own 3]
abbrev bQ:jj:=.cells [.fn 117 [(1,0),(2,0),(4,0),(0,0),(5,0)]]
abbrev bR:List jj:=[bj,.rowv tI]
abbrev bS:List jj:=[bi,bp,.rowc tI]
abbrev bT:List jj:=[br,.rowc tI,br,bt,.rowv .bool,.rowc tI,.rowv tI]
abbrev bU:List jj:=[br,.rowv tI,br,bt,.rowv .bool,.rowc tI,.rowv tI]
abbrev bV:List jj:=[br,.rowv tI,br,bt,.rowv .bool,.rowv tI,.rowv tI]
abbrev bW:List jj:=[bi,bq,bu,bi,bu,.dead,bv,bu,.rowv Î,.rowc Ï,.rowc Ã,.rowc Ł,.rowc Ã]
abbrev bX:List jj:=[bi,bz,.rowv ğ,.rowv Ã]
abbrev bY:List jj:=[bi,bq,bq,.rowc Ã,bB]
abbrev bZ:List jj:=[bi,bq,bq,bq,.rowc Ã,bB]
abbrev b7:List jj:=[.rowc ab,br,.dead,.dead,.rowv tI]
abbrev b8:List jj:=[br,.rowc ar,bC,br,.rowv tI]
abbrev b9:List jj:=[br,bo,bo,br,.rowv tI]
abbrev ca:List jj:=[bi,.dead,.dead,bD,.rowc Ã,bB]
abbrev cd:List jj:=[bi,.dead,.dead,bD,.rowc Ã,bi,br,.dead,.rowf Ã 0,bi,bi]
abbrev ce:List jj:=[bi,bp,bu,.dead,.dead,bi,bu,.dead,bE,bu,.rowv Î,.rowc Ï,.rowc Ã,.rowc Ł,.rowc Ã]
abbrev cf:List jj:=[bi,bq,bp,.rowc Ã,bB]
abbrev cg:List jj:=[bi,bq,bq,bp,.rowc Ã,bB]
abbrev ci:List jj:=[bi,bq,bq,bp,.rowc Ã,bi,br,.dead,bj,.rowf ab 0,.rowf ab 0,.rowf ab 0]
abbrev cj:List jj:=[bi,bi,bH,.mapc tI .bool,bp,bp]
abbrev cm:List jj:=[bi,bi,bH,.mapc tI .bool,bp]
abbrev cn:List jj:=[bi,bi,bH,.mapc tI .bool]
abbrev cp:List jj:=[bi,bi,bH,.mapc tI .bool,bI,bJ]
abbrev cq:List jj:=[bi,bi,bH,.mapc tI .bool,bI,bJ,bK,bL]
abbrev cr:List jj:=[bi,bi,bH,.mapc tI .bool,bI,bJ,bK,bL,bK,bL]
abbrev cu:List jj:=[bi,bi,bH,.mapc tI .bool,bI,bJ,bK,bL,bK,bL,bM,bN]
abbrev cw:List jj:=[bi,bi,bH,.mapc tI .bool,bI,bJ,bK,bL,bK,bL,bM,bN,bM,bN]
abbrev cz:List jj:=[bO,bn,bn,.rowc .bool,bP,bQ]
abbrev cA:List jj:=[bO,bn,bn,.rowv .bool,bP,bQ]
abbrev cB:List jj:=[bi,bn,bq,.rowf ab 0,bB]
def rG:â:=⟨[Ã,tI,tI],[.bool],fun(x:Val ü)=>Θ x.1 x.2.1 x.2.2⟩
def RN:List (Nat×â):=[]
def Ar (ρ:Type):List (ä ρ):=[]
def Ia (ρ:Type):Env ρ:=æ RN (Ar ρ)
def i9:â:=⟨[tI,tI,tI],[.bool],fun(x:Val ğ)=>ď x.1 x.2.1 x.2.2⟩
def RB:List (Nat×â):=[]
def Aj (ρ:Type):List (ä ρ):=[]
def H5 (ρ:Type):Env ρ:=æ RB (Aj ρ)
def Cz:â:=⟨[tI],[.bool],fun(x:Val tI)=>mO x⟩
def U0:List (Nat×â):=[(144,i9)]
def Eu (ρ:Type):List (ä ρ):=[]
def L5 (ρ:Type):Env ρ:=æ U0 (Eu ρ)
def Qz:â:=⟨[tI],[(.int .u64)],fun(x:Val tI)=>qE x⟩
def Xf:List (Nat×â):=[]
def HW (ρ:Type):List (ä ρ):=[]
def Pv (ρ:Type):Env ρ:=æ Xf (HW ρ)
def WQ:â:=⟨[(.int .u64),(.int .u64)],[(.int .u64)],fun(x:Val bf)=>MB x.1 x.2⟩
def UK:Ç:={pin:=0,cs:=[],vs:=[(.int .u64),(.int .u64)],head:=⟨12,[.var (.int .u64),.var (.int .u64)],[]⟩,exits:=[(.exit 0,⟨12,[.var (.int .u64)],[]⟩,[(.int .u64)])]}
def HX (ρ:Type):ä ρ:=⟨[],250,0,UK,fun(p:Unit) (v:Val bf) a b=>ym v.1 v.2 (fun c d=>a (c,d)) (b 0)⟩
def Z5:List (Nat×â):=[]
def LF (ρ:Type):List (ä ρ):=[HX ρ]
def LG (ρ:Type):Env ρ:=æ Z5 (LF ρ)
def Cv:â:=⟨[Ã],[.bool],fun(x:Val Ã)=>sX x⟩
def UN:List (Nat×â):=[(249,Qz),(250,WQ)]
def D7 (ρ:Type):List (ä ρ):=[]
def LK (ρ:Type):Env ρ:=æ UN (D7 ρ)
def Kz:â:=⟨[Ï],[.bool],fun(x:Val Ï)=>uO x⟩
def Oq:List (Nat×â):=[(109,rG),(144,i9),(176,Cz),(218,Cv)]
def xx (ρ:Type):List (ä ρ):=[]
def Et (ρ:Type):Env ρ:=æ Oq (xx ρ)
def wn:â:=⟨[Ä],[tI],fun(x:Val Ä)=>ŵ x⟩
def zh:Ç:={pin:=0,cs:=[ae,tI,tI,tI,ae,aa,af,ac,aa],vs:=[tI],head:=⟨31,.any::.box 0 0::aN 4 [.con ae,.con tI,.var tI],[bi]⟩,exits:=[(.ret,⟨31,[.any,.box 0 0,.var tI,.any,.any,.any,.con ae,.con tI],[bi]⟩,[tI]),(.exit 0,⟨31,.any::.box 0 0::aN 4 [.con ae,.con tI],[bi]⟩,[])]}
def nj (ρ:Type):ä ρ:=⟨[],110,0,zh,fun(p:Val (.pair ae aE)) (v:Val tI) b a=>iO p.1 p.2.1 p.2.2.2.2.1 v (fun c=>b c) (a 0) (a 1)⟩
def EC:List (Nat×â):=[(174,Kz)]
def oS (ρ:Type):List (ä ρ):=[nj ρ]
def lR (ρ:Type):Env ρ:=æ EC (oS ρ)
def AW:â:=⟨[Ä],[au],fun(x:Val Ä)=>θ x⟩
def Jh:Ç:={pin:=0,cs:=[ae,tI],vs:=[tI,au],head:=⟨20,aN 3 (.omp 0::aN 4 [.con ae,.con tI,.var tI]),[.mapv tI Ï]⟩,exits:=[(.exit 0,⟨20,aN 3 (.omp 0::aN 4 [.con ae,.con tI]),[.mapv tI Ï]⟩,[au])]}
def vG (ρ:Type):ä ρ:=⟨[],111,0,Jh,fun(p:Val (.pair ae tI)) (v:Val (.pair tI au)) a b=>mc p.1 p.2 v.1 v.2 (fun c d=>a (c,d)) (b 0)⟩
def Oc:List (Nat×â):=[]
def xo (ρ:Type):List (ä ρ):=[vG ρ]
def ud (ρ:Type):Env ρ:=æ Oc (xo ρ)
def rC:â:=⟨[ab,tI],[tI],fun(x:Val aG)=>jf x.1 x.2⟩
def vP:Ç:={pin:=0,cs:=[ab,tI,tI],vs:=[tI],head:=⟨19,.con ab::.con tI::aN 5 [.con tI,.var tI],[]⟩,exits:=[(.ret,⟨19,[.con ab,.con tI,.any,.any,.var tI,.any,.any,.con tI],[]⟩,[tI]),(.exit 0,⟨19,.con ab::.con tI::aN 5 [.con tI],[]⟩,[])]}
def ld (ρ:Type):ä ρ:=⟨[],116,0,vP,fun(p:Val (.pair ab Ã)) (v:Val tI) b a=>gH p.1 p.2.1 p.2.2 v (fun c=>b c) (a 0) (a 1)⟩
def yO:List (Nat×â):=[]
def mm (ρ:Type):List (ä ρ):=[ld ρ]
def jH (ρ:Type):Env ρ:=æ yO (mm ρ)
def gG:â:=⟨[ab,tI],[.bool],fun(x:Val aG)=>đ x.1 x.2⟩
def tE:List (Nat×â):=[(116,rC)]
def j3 (ρ:Type):List (ä ρ):=[]
def lf (ρ:Type):Env ρ:=æ tE (j3 ρ)
def QC:â:=⟨[Ä,Ï],[ab],fun(x:Val (.pair Ä Ï))=>nD x.1 x.2⟩
def RQ:Ç:={pin:=0,cs:=[ac,tI,tI,tI,ae,aa,af,ac,aa,tI,tI,tI,tI,tI,tI,tI,tI],vs:=[tI,ab],head:=⟨59,aN 2 (.box 0 0::.box 1 0::.any::.own 2::aN 8 [.con ac,.con tI,.var tI]),[bi,bj,.rowv tI]⟩,exits:=[(.exit 0,⟨59,aN 2 (.box 0 0::.box 1 0::.any::.own 2::aN 8 [.con ac,.con tI]),[bi,bj,.rowv tI]⟩,[ab])]}
def Ez (ρ:Type):ä ρ:=⟨[],181,0,RQ,fun(p:Val (.pair ac aM)) (v:Val az) a b=>uz p.1 p.2.1 p.2.2.2.2.2.2.2.2.2.1 v.1 v.2 (fun c d=>a (c,d)) (b 0)⟩
def Ey:Ç:={pin:=0,cs:=[aa,tI,tI,tI,tI,tI,tI,tI,tI,tI],vs:=[tI,ab],head:=⟨59,aN 3 (.box 0 0::.any::.own 1::aN 32 [.con aa,.con tI,.var tI]),bR⟩,exits:=[(.exit 2,⟨59,aN 3 (.box 0 0::.any::.own 1::aN 32 [.con aa,.con tI]),bR⟩,[ab])]}
def Ex (ρ:Type):ä ρ:=⟨[],181,2,Ey,fun(p:Val (tyL Ey.cs)) (v:Val az) a b=>uw p.1 p.2.1 p.2.2.1 v.1 v.2 (fun c d=>a (c,d)) (b 0)⟩
def Xt:List (Nat×â):=[(49,gG)]
def Ic (ρ:Type):List (ä ρ):=[Ez ρ,Ex ρ]
def yp (ρ:Type):Env ρ:=æ Xt (Ic ρ)
def Cy:â:=⟨[Ä],[aa],fun(x:Val Ä)=>pf x⟩
def Al:Ç:={pin:=0,cs:=[ae,tI,tI,ab,tI,tI,tI,ae,aa,af,ac,aa,tI,tI,tI,tI,tI,tI,tI,tI],vs:=[tI,aa],head:=⟨33,.any::.box 0 0::.any::.own 1::.any::.box 2 0::aN 3 (.con ae::.con tI::.con tI::aN 5 [.con ab,.con tI,.var tI]),[bi,.rowv Ã,bj]⟩,exits:=[(.exit 2,⟨33,.any::.box 0 0::.any::.own 1::.any::.box 2 0::aN 3 (.con ae::.con tI::.con tI::aN 5 [.con ab,.con tI]),[bi,.rowv Ã,bj]⟩,[aa])]}
def Ak (ρ:Type):ä ρ:=⟨[],113,2,Al,fun(p:Val (tyL Al.cs)) (v:Val aD) a b=>qr p.2.2.2.1 p.2.2.2.2.1 p.2.2.2.2.2.2.2.2.2.2.2.2.1 v.1 v.2 (fun c d=>a (c,d)) (b 0)⟩
def Oe:Ç:={pin:=0,cs:=[ae,tI,tI,tI,ae,aa,af,ac,aa],vs:=[tI,aa],head:=⟨33,.any::.box 0 0::.any::.own 1::aN 5 [.con ae,.con tI,.var tI],[bi,.rowv Ã]⟩,exits:=[(.exit 0,⟨33,.any::.box 0 0::.any::.own 1::aN 5 [.con ae,.con tI],[bi,.rowv Ã]⟩,[aa])]}
def Ao (ρ:Type):ä ρ:=⟨[],113,0,Oe,fun(p:Val (.pair ae aE)) (v:Val aD) a b=>let A:=p.2.2.2.2;qt p.1 p.2.1 p.2.2.1 p.2.2.2.1 A.1 A.2.1 A.2.2.1 A.2.2.2.1 A.2.2.2.2 v.1 v.2 (fun c d=>a (c,d)) (b 0)⟩
def UW:List (Nat×â):=[(181,QC)]
def Ee (ρ:Type):List (ä ρ):=[Ak ρ,Ao ρ]
def ug (ρ:Type):Env ρ:=æ UW (Ee ρ)
def lZ:â:=⟨[au,tI,tI],[tI],fun(x:Val (.pair au Ã))=>iF x.1 x.2.1 x.2.2⟩
def Gs:List (Nat×â):=[]
def qq (ρ:Type):List (ä ρ):=[]
def vH (ρ:Type):Env ρ:=æ Gs (qq ρ)
def WS:â:=⟨[tI,tI,(.ptr au)],[tI],fun(x:Val (.pair tI (.pair tI (.ptr au))))=>ĸ x.1 x.2.1 x.2.2⟩
def Od:List (Nat×â):=[(176,Cz),(177,lZ)]
def xr (ρ:Type):List (ä ρ):=[]
def Ed (ρ:Type):Env ρ:=æ Od (xr ρ)
def QD:â:=⟨[Ä,au,tI],[tI],fun(x:Val bh)=>Τ x.1 x.2.1 x.2.2⟩
def EB:Ç:={pin:=2,cs:=[af,tI,tI,tI,ae,aa,af,ac,aa,tI,tI,tI,tI],vs:=[tI],head:=⟨19,.con af::.fn 219 [(1,0)]::aN 5 [.con tI,.var tI],[bi,bm]⟩,exits:=[(.ret,⟨19,[.con af,.fn 219 [(1,0)],.any,.any,.var tI,.any,.any,.con tI],[bi,bm]⟩,[tI]),(.exit 0,⟨19,.con af::.fn 219 [(1,0)]::aN 5 [.con tI],[bi,bm]⟩,[])]}
def qw (ρ:Type):ä ρ:=⟨[9,5,1,2],236,0,EB,fun(p:Val (.pair af aJ)) (v:Val tI) b a=>let A:=p.2.2.2.2.2.2.2.2.2;jB p.1 p.2.1 A.1 A.2.1 A.2.2.1 v (fun c=>b c) (a 0) (a 1)⟩
def EA:Ç:={pin:=2,cs:=[aa,tI,tI,tI,ae,aa,af,ac,aa,tI,tI,tI,tI],vs:=[tI],head:=⟨19,.con aa::.fn 220 [(1,0)]::aN 5 [.con tI,.var tI],[bi,bm]⟩,exits:=[(.ret,⟨19,[.con aa,.fn 220 [(1,0)],.any,.any,.var tI,.any,.any,.con tI],[bi,bm]⟩,[tI]),(.exit 0,⟨19,.con aa::.fn 220 [(1,0)]::aN 5 [.con tI],[bi,bm]⟩,[])]}
def qv (ρ:Type):ä ρ:=⟨[9,10,1,2],234,0,EA,fun(p:Val (.pair aa aJ)) (v:Val tI) b a=>let A:=p.2.2.2.2.2.2.2.2.2;Η p.1 p.2.1 A.1 A.2.1 A.2.2.1 v (fun c=>b c) (a 0) (a 1)⟩
def Jm:List (Nat×â):=[(109,rG),(144,i9),(177,lZ)]
def sM (ρ:Type):List (ä ρ):=[qw ρ,qv ρ]
def kG (ρ:Type):Env ρ:=æ Jm (sM ρ)
def ŗ:â:=⟨[ar],[ab],fun(x:Val ar)=>ì x⟩
def kz:Ç:={pin:=0,cs:=[ar,ar,tI],vs:=[tI,tI],head:=⟨36,.con ar::aN 2 (.var tI::aN 5 [.con ar,.con tI,.var tI]),[]⟩,exits:=[(.exit 0,⟨36,.con ar::aN 2 (.var tI::aN 5 [.con ar,.con tI]),[]⟩,[tI])]}
def ky (ρ:Type):ä ρ:=⟨[],100,0,kz,fun(p:Val (tyL kz.cs)) (v:Val Ã) a b=>Ī p.2.1 p.2.2 v.1 v.2 (fun c d=>a (c,d)) (b 0)⟩
def tF:Ç:={pin:=0,cs:=[ar,tI],vs:=[tI,ab],head:=⟨36,aN 6 (.own 0::aN 18 [.con ar,.con tI,.var tI]),[.rowv tI]⟩,exits:=[(.exit 2,⟨36,aN 6 (.own 0::aN 18 [.con ar,.con tI]),[.rowv tI]⟩,[ab])]}
def kw (ρ:Type):ä ρ:=⟨[],100,2,tF,fun(p:Val (.pair ar tI)) (v:Val az) a b=>î p.1 p.2 v.1 v.2 (fun c d=>a (c,d)) (b 0)⟩
def wA:List (Nat×â):=[]
def lg (ρ:Type):List (ä ρ):=[ky ρ,kw ρ]
def gI (ρ:Type):Env ρ:=æ wA (lg ρ)
def FM:â:=⟨[ab],[.bool],fun(x:Val ab)=>lW x⟩
def L3:Ç:={pin:=0,cs:=[ab,ab,tI],vs:=[tI],head:=⟨32,.con ab::aN 4 [.con ab,.con tI,.var tI],[]⟩,exits:=[(.ret,⟨32,[.con ab,.any,.var .bool,.any,.any,.con ab,.con tI],[]⟩,[.bool]),(.exit 0,⟨32,.con ab::aN 4 [.con ab,.con tI],[]⟩,[])]}
def xv (ρ:Type):ä ρ:=⟨[],182,0,L3,fun(p:Val (.pair ab aG)) (v:Val tI) b a=>nv p.1 p.2.1 p.2.2 v (fun c=>b c) (a 0) (a 1)⟩
def RL:List (Nat×â):=[(144,i9)]
def Aq (ρ:Type):List (ä ρ):=[xv ρ]
def xw (ρ:Type):Env ρ:=æ RL (Aq ρ)
def yc:â:=⟨[ab,ab],[ab],fun(x:Val bc)=>Ŧ x.1 x.2⟩
def RJ:Ç:={pin:=2,cs:=[tI,ab,ab],vs:=[tI],head:=⟨19,.own 1::.fn 226 [(0,0)]::aN 5 [.con tI,.var tI],[bn,.rowc tI]⟩,exits:=[(.ret,⟨19,[.own 1,.fn 226 [(0,0)],.any,.any,.var tI,.any,.any,.con tI],[bn,.rowc tI]⟩,[tI]),(.exit 0,⟨19,.own 1::.fn 226 [(0,0)]::aN 5 [.con tI],[bn,.rowc tI]⟩,[])]}
def Es (ρ:Type):ä ρ:=⟨[1,3,1,2],115,0,RJ,fun(p:Val (.pair tI bc)) (v:Val tI) b a=>ut p.1 p.2.1 p.2.2 v (fun c=>b c) (a 0) (a 1)⟩
def RI:Ç:={pin:=2,cs:=[ab],vs:=[tI,tI,ab],head:=⟨42,[.own 1,.fn 226 [(0,0)],.any,.any,.any,.var tI,.var tI],[bn,.rowv tI]⟩,exits:=[(.exit 0,⟨42,[.own 1,.fn 226 [(0,0)],.any,.any,.any,.var tI],[bn,.rowv tI]⟩,[tI,ab])]}
def Er (ρ:Type):ä ρ:=⟨[1,3],225,0,RI,fun(p:Val ab) (v:Val (.pair tI az)) a b=>jO p v.1 v.2.1 v.2.2 (fun c d e=>a (c,d,e)) (b 0)⟩
def Xs:List (Nat×â):=[(49,gG)]
def H9 (ρ:Type):List (ä ρ):=[Es ρ,Er ρ]
def yo (ρ:Type):Env ρ:=æ Xs (H9 ρ)
def YL:â:=⟨[Ä,tI,tI],[Ł,.bool],fun(x:Val aO)=>yB x.1 x.2.1 x.2.2⟩
def EE:Ç:={pin:=4,cs:=[af,tI,tI,tI,ae,aa,af,ac,aa,tI,tI,tI,tI,tI,tI],vs:=[tI],head:=⟨19,.con af::.fn 251 [(1,0),(2,0)]::aN 5 [.con tI,.var tI],[bi,bo,bo,bm]⟩,exits:=[(.ret,⟨19,[.con af,.fn 251 [(1,0),(2,0)],.any,.any,.var tI,.any,.any,.con tI],[bi,bo,bo,bm]⟩,[tI]),(.exit 0,⟨19,.con af::.fn 251 [(1,0),(2,0)]::aN 5 [.con tI],[bi,bo,bo,bm]⟩,[])]}
def ED (ρ:Type):ä ρ:=⟨[1,3],236,0,EE,fun(p:Val (tyL EE.cs)) (v:Val tI) b a=>uB p.1 p.2.1 p.2.2.2.2.2.2.2.2.2.1 p.2.2.2.2.2.2.2.2.2.2.1 v (fun c=>b c) (a 0) (a 1)⟩
def Xu:List (Nat×â):=[(144,i9)]
def Ie (ρ:Type):List (ä ρ):=[ED ρ]
def GA (ρ:Type):Env ρ:=æ Xu (Ie ρ)
def IQ:â:=⟨[Ä,au,tI],[tI],fun(x:Val bh)=>Ļ x.1 x.2.1 x.2.2⟩
def mH:Ç:={pin:=2,cs:=[ac,tI,tI,tI,ae,aa,af,ac,aa,tI,tI,ab,ab,tI,tI,tI,tI],vs:=[tI],head:=⟨19,.con ac::.fn 221 [(1,0)]::aN 5 [.con tI,.var tI],[bi,bp]⟩,exits:=[(.ret,⟨19,[.con ac,.fn 221 [(1,0)],.any,.any,.var tI,.any,.any,.con tI],[bi,bp]⟩,[tI]),(.exit 0,⟨19,.con ac::.fn 221 [(1,0)]::aN 5 [.con tI],[bi,bp]⟩,[])]}
def mG (ρ:Type):ä ρ:=⟨[4,5,1,2],187,0,mH,fun(p:Val (tyL mH.cs)) (v:Val tI) b a=>ik p.1 p.2.1 p.2.2.2.2.2.2.2.2.2.1 v (fun c=>b c) (a 0) (a 1)⟩
def mD:Ç:={pin:=0,cs:=[au,ab,tI,tI,tI,ab,tI,tI,tI,ae,aa,af,ac,aa,tI,tI,ab,ab,tI,tI,tI,tI,ab],vs:=[tI],head:=⟨140,.any::.con au::.any::.box 0 0::aN 3 (.box 1 0::.con ab::.any::.con tI::aN 65 [.own 2,.con tI,.con tI,.any,.any,.any,.con ab,.con tI,.var tI]),bS⟩,exits:=[(.ret,⟨140,.any::.con au::.any::.box 0 0::aN 2 (.var tI::.box 1 0::.con ab::.any::.con tI::aN 65 [.own 2,.con tI,.con tI,.any,.any,.any,.con ab,.con tI]),bS⟩,[tI]),(.exit 2,⟨140,.any::.con au::.any::.box 0 0::aN 3 (.box 1 0::.con ab::.any::.con tI::aN 65 [.own 2,.con tI,.con tI,.any,.any,.any,.con ab,.con tI]),bS⟩,[])]}
def mC (ρ:Type):ä ρ:=⟨[],180,2,mD,fun(p:Val (tyL mD.cs)) (v:Val tI) b a=>let A:=p.2.2.2.2.2;ij p.1 p.2.2.1 A.1 A.2.1 A.2.2.2.2.2.2.2.2.2.2.1 v (fun c=>b c) (a 0) (a 1)⟩
def mF:Ç:={pin:=0,cs:=[au,ab,tI,tI,tI,ae,aa,af,ac,aa,tI,tI,ab,ab,tI,tI,tI,tI,ab],vs:=[tI],head:=⟨140,.any::.con au::.any::.box 0 0::aN 3 (.box 1 0::.con ab::aN 67 [.own 2,.con tI,.var tI]),bS⟩,exits:=[(.ret,⟨140,.any::.con au::.any::.box 0 0::aN 2 (.var tI::.box 1 0::.con ab::aN 67 [.own 2,.con tI]),bS⟩,[tI]),(.exit 0,⟨140,.any::.con au::.any::.box 0 0::aN 3 (.box 1 0::.con ab::aN 67 [.own 2,.con tI]),bS⟩,[])]}
def mE (ρ:Type):ä ρ:=⟨[],180,0,mF,fun(p:Val (tyL mF.cs)) (v:Val tI) b a=>ň p.1 p.2.1 p.2.2.1 p.2.2.2.2.2.2.2.2.2.2.2.1 p.2.2.2.2.2.2.2.2.2.2.2.2.2.2.2.2.2.2 v (fun c=>b c) (a 0) (a 1)⟩
def mB:Ç:={pin:=0,cs:=[ab,tI,tI,tI,ae,aa,af,ac,aa,tI,tI,ab,ab,tI,tI,tI,tI],vs:=[tI],head:=⟨140,aN 3 (.box 0 0::aN 3 (.box 1 0::aN 90 [.con ab,.con tI,.var tI])),[bi,bp]⟩,exits:=[(.ret,⟨140,aN 3 (.box 0 0::aN 2 (.var tI::.box 1 0::aN 90 [.con ab,.con tI])),[bi,bp]⟩,[tI]),(.exit 4,⟨140,aN 3 (.box 0 0::aN 3 (.box 1 0::aN 90 [.con ab,.con tI])),[bi,bp]⟩,[])]}
def mA (ρ:Type):ä ρ:=⟨[],180,4,mB,fun(p:Val (tyL mB.cs)) (v:Val tI) b a=>let A:=p.2.2.2.2;Ň p.1 p.2.1 p.2.2.1 p.2.2.2.1 A.1 A.2.1 A.2.2.1 A.2.2.2.1 A.2.2.2.2.1 A.2.2.2.2.2.2.1 v (fun c=>b c) (a 0) (a 1)⟩
def BQ:List (Nat×â):=[(100,ŗ),(109,rG),(144,i9),(176,Cz),(177,lZ),(182,FM),(183,yc),(222,YL)]
def nk (ρ:Type):List (ä ρ):=[mG ρ,mC ρ,mE ρ,mA ρ]
def Ś (ρ:Type):Env ρ:=æ BQ (nk ρ)
def ł:â:=⟨[Ä],[tI],fun(x:Val Ä)=>ñ x⟩
def oi:â:=⟨[Ä,aa,aa],[Ä],fun(x:Val (.pair Ä (.pair aa aa)))=>MA x.1 x.2.1 x.2.2⟩
noncomputable def Ut:Ç:={pin:=8,cs:=[ab,tI,tI,tI,ae,aa,af,ac,aa,tI,tI,ao,tI,tI],vs:=[tI,ao],head:=⟨34,.any::.any::.any::.box 2 0::aN 21 [.con ab,.con tI,.var tI],[.cells [.con tI,.con tI,.con ae,.con aa,.con af,.con ac,.con aa],.cells [.con tI,.con tI,.nils,.nils,.nils,.nils,.nils],.cells [.omp 5],.cells [.omp 6],.cells [.nilfn,.fn 151 [(2,0),(0,0)],.fn 151 [(2,0),(0,0)],.fn 152 [(3,0),(0,0),(2,0)]],.mapv tI .bool,.mapc tI .bool,.cells [.con tI,.con tI]]⟩,exits:=[(.exit 0,⟨34,.any::.any::.any::.box 2 0::aN 21 [.con ab,.con tI],[.cells [.con tI,.con tI,.con ae,.con aa,.con af,.con ac,.con aa],.cells [.con tI,.con tI,.nils,.nils,.nils,.nils,.nils],.cells [.omp 5],.cells [.omp 6],.cells [.nilfn,.fn 151 [(2,0),(0,0)],.fn 151 [(2,0),(0,0)],.fn 152 [(3,0),(0,0),(2,0)]],.mapv tI .bool,.mapc tI .bool,.cells [.con tI,.con tI]]⟩,[ao])]}
noncomputable def HI (ρ:Type):ä ρ:=⟨[7,5],152,0,Ut,fun(p:Val (.pair ab (.pair tI (.pair tI (.pair tI (.pair ae (.pair aa (.pair af (.pair ac (.pair aa (.pair tI (.pair tI (.pair ao Ã))))))))))))) (v:Val (.pair tI ao)) kn kx=>si p.1 p.2.1 v.1 v.2 (fun u0 u1=>kn (u0,u1)) (kx 0)⟩
noncomputable def Uu:Ç:={pin:=0,cs:=[aa,aa,tI,tI,tI,ae,aa,af,ac,aa,tI,tI],vs:=[tI,ao,ao],head:=⟨130,.any::.any::.con aa::.box 0 0::.any::.any::.box 1 0::.box 2 0::.box 3 0::.any::.box 4 0::aN 19 [.con aa,.con tI,.var tI],[.cells [.con tI,.con tI,.con ae,.con aa,.con af,.con ac,.con aa],.cells [.con tI,.con tI,.nils,.nils,.nils,.nils,.nils],.cells [.omp 5],.cells [.omp 6],.cells [.nilfn,.fn 151 [(2,0),(0,0)],.fn 151 [(2,0),(0,0)],.fn 152 [(3,0),(0,0),(2,0)]],.mapv tI .bool,.mapv tI .bool]⟩,exits:=[(.exit 0,⟨130,.any::.any::.con aa::.box 0 0::.any::.any::.box 1 0::.box 2 0::.box 3 0::.any::.box 4 0::aN 19 [.con aa,.con tI],[.cells [.con tI,.con tI,.con ae,.con aa,.con af,.con ac,.con aa],.cells [.con tI,.con tI,.nils,.nils,.nils,.nils,.nils],.cells [.omp 5],.cells [.omp 6],.cells [.nilfn,.fn 151 [(2,0),(0,0)],.fn 151 [(2,0),(0,0)],.fn 152 [(3,0),(0,0),(2,0)]],.mapv tI .bool,.mapv tI .bool]⟩,[ao,ao])]}
noncomputable def HJ (ρ:Type):ä ρ:=⟨[],79,0,Uu,fun(p:Val (.pair aa (.pair aa (.pair tI (.pair tI (.pair tI (.pair ae (.pair aa (.pair af (.pair ac aY)))))))))) (v:Val (.pair tI (.pair ao ao))) kn kx=>yi p.2.1 p.2.2.1 p.2.2.2.2.2.1 p.2.2.2.2.2.2.2.2.1 v.1 v.2.1 v.2.2 (fun u0 u1 u2=>kn (u0,u1,u2)) (kx 0)⟩
noncomputable def Us:Ç:={pin:=0,cs:=[aa,aa,tI,tI,tI,ae,aa,af,ac,aa,tI,tI,ao],vs:=[tI,ao],head:=⟨130,.any::.any::.con aa::.box 0 0::.any::.any::.box 1 0::.box 2 0::.box 3 0::aN 34 [.con aa,.con tI,.var tI],[.cells [.con tI,.con tI,.con ae,.con aa,.con af,.con ac,.con aa],.cells [.con tI,.con tI,.nils,.nils,.nils,.nils,.nils],.cells [.omp 4],.cells [.omp 5],.mapv tI .bool,.mapc tI .bool]⟩,exits:=[(.exit 2,⟨130,.any::.any::.con aa::.box 0 0::.any::.any::.box 1 0::.box 2 0::.box 3 0::aN 34 [.con aa,.con tI],[.cells [.con tI,.con tI,.con ae,.con aa,.con af,.con ac,.con aa],.cells [.con tI,.con tI,.nils,.nils,.nils,.nils,.nils],.cells [.omp 4],.cells [.omp 5],.mapv tI .bool,.mapc tI .bool]⟩,[ao])]}
noncomputable def HH (ρ:Type):ä ρ:=⟨[],79,2,Us,fun(p:Val (.pair aa (.pair aa (.pair tI (.pair tI (.pair tI (.pair ae (.pair aa (.pair af (.pair ac (.pair aa (.pair tI (.pair tI ao))))))))))))) (v:Val (.pair tI ao)) kn kx=>sh p.2.1 p.2.2.1 v.1 v.2 (fun u0 u1=>kn (u0,u1)) (kx 0)⟩
noncomputable def Ur:Ç:={pin:=0,cs:=[aa,tI,tI,tI,ae,aa,af,ac,aa,tI,tI,ae,aa,af,ac,aa,tI,tI,aa,ao,ao,ae],vs:=[tI,aa],head:=⟨130,.any::.any::.any::.box 0 0::.any::.any::.box 1 0::.box 2 0::.box 3 0::aN 6 (.box 4 0::aN 52 [.con aa,.con tI,.var tI]),[.cells [.con tI,.con tI,.con ae,.con aa,.con af,.con ac,.con aa],.cells [.con tI,.con tI,.con ae,.con aa,.con af,.con ac,.con aa],.cells [.omp 5],.cells [.omp 6],.cells [.con tI,.con tI,.own 7,.own 8,.nils,.nils,.con aa],.mapc tI .bool,.mapc tI .bool,.rowc Ï,.rowv Ã]⟩,exits:=[(.exit 6,⟨130,.any::.any::.any::.box 0 0::.any::.any::.box 1 0::.box 2 0::.box 3 0::aN 6 (.box 4 0::aN 52 [.con aa,.con tI]),[.cells [.con tI,.con tI,.con ae,.con aa,.con af,.con ac,.con aa],.cells [.con tI,.con tI,.con ae,.con aa,.con af,.con ac,.con aa],.cells [.omp 5],.cells [.omp 6],.cells [.con tI,.con tI,.own 7,.own 8,.nils,.nils,.con aa],.mapc tI .bool,.mapc tI .bool,.rowc Ï,.rowv Ã]⟩,[aa])]}
noncomputable def qd (ρ:Type):ä ρ:=⟨[],79,6,Ur,fun(p:Val (.pair aa (.pair tI (.pair tI (.pair tI (.pair ae (.pair aa (.pair af (.pair ac (.pair aa (.pair tI (.pair tI (.pair ae (.pair aa (.pair af (.pair ac (.pair aa (.pair tI (.pair tI (.pair aa (.pair ao (.pair ao ae)))))))))))))))))))))) (v:Val aD) kn kx=>sg p.1 p.2.1 p.2.2.2.2.2.2.2.2.2.2.2.2.2.2.2.2.2.2.2.1 v.1 v.2 (fun u0 u1=>kn (u0,u1)) (kx 0)⟩
noncomputable def Uq:Ç:={pin:=0,cs:=[af,tI,tI,tI,ae,aa,af,ac,aa,tI,tI,ae,aa,af,ac,aa,tI,tI,aa,ao,ao,ae,aa],vs:=[tI,af],head:=⟨130,.any::.any::.any::.box 0 0::.any::.any::.box 1 0::.box 2 0::.box 3 0::aN 6 (.box 4 0::aN 70 [.con af,.con tI,.var tI]),[.cells [.con tI,.con tI,.con ae,.con aa,.con af,.con ac,.con aa],.cells [.con tI,.con tI,.con ae,.con aa,.con af,.con ac,.con aa],.cells [.omp 5],.cells [.omp 6],.cells [.con tI,.con tI,.own 7,.own 8,.own 9,.nils,.con aa],.mapc tI .bool,.mapc tI .bool,.rowc Ï,.rowc Ã,.rowv Ł]⟩,exits:=[(.exit 8,⟨130,.any::.any::.any::.box 0 0::.any::.any::.box 1 0::.box 2 0::.box 3 0::aN 6 (.box 4 0::aN 70 [.con af,.con tI]),[.cells [.con tI,.con tI,.con ae,.con aa,.con af,.con ac,.con aa],.cells [.con tI,.con tI,.con ae,.con aa,.con af,.con ac,.con aa],.cells [.omp 5],.cells [.omp 6],.cells [.con tI,.con tI,.own 7,.own 8,.own 9,.nils,.con aa],.mapc tI .bool,.mapc tI .bool,.rowc Ï,.rowc Ã,.rowv Ł]⟩,[af])]}
noncomputable def pZ (ρ:Type):ä ρ:=⟨[],79,8,Uq,fun(p:Val (.pair af (.pair tI (.pair tI (.pair tI (.pair ae (.pair aa (.pair af (.pair ac (.pair aa (.pair tI (.pair tI (.pair ae (.pair aa (.pair af (.pair ac (.pair aa (.pair tI (.pair tI (.pair aa (.pair ao (.pair ao (.pair ae aa))))))))))))))))))))))) (v:Val (.pair tI af)) kn kx=>sf p.1 p.2.1 p.2.2.2.2.2.2.2.2.2.2.2.2.2.2.2.2.2.2.2.1 v.1 v.2 (fun u0 u1=>kn (u0,u1)) (kx 0)⟩
noncomputable def Up:Ç:={pin:=0,cs:=[ac,tI,tI,tI,ae,aa,af,ac,aa,tI,tI,aa,ao,ae,aa,af],vs:=[tI,ac],head:=⟨130,aN 6 (.box 0 0::.any::.box 1 0::aN 6 (.box 2 0::aN 88 [.con ac,.con tI,.var tI])),[.cells [.con tI,.con tI,.con ae,.con aa,.con af,.con ac,.con aa],.cells [.omp 3],.cells [.con tI,.con tI,.own 4,.own 5,.own 6,.own 7,.con aa],.mapc tI .bool,.rowc Ï,.rowc Ã,.rowc Ł,.rowv Î]⟩,exits:=[(.exit 10,⟨130,aN 6 (.box 0 0::.any::.box 1 0::aN 6 (.box 2 0::aN 88 [.con ac,.con tI])),[.cells [.con tI,.con tI,.con ae,.con aa,.con af,.con ac,.con aa],.cells [.omp 3],.cells [.con tI,.con tI,.own 4,.own 5,.own 6,.own 7,.con aa],.mapc tI .bool,.rowc Ï,.rowc Ã,.rowc Ł,.rowv Î]⟩,[ac])]}
noncomputable def pY (ρ:Type):ä ρ:=⟨[],79,10,Up,fun(p:Val (.pair ac (.pair tI (.pair tI (.pair tI (.pair ae (.pair aa (.pair af (.pair ac (.pair aa (.pair tI (.pair tI (.pair aa (.pair ao (.pair ae (.pair aa af)))))))))))))))) (v:Val (.pair tI ac)) kn kx=>se p.1 p.2.1 p.2.2.2.2.2.2.2.2.2.2.2.2.1 v.1 v.2 (fun u0 u1=>kn (u0,u1)) (kx 0)⟩
noncomputable def F4:List (Nat×â):=[(100,ŗ)]
noncomputable def Bv (ρ:Type):List (ä ρ):=[HI ρ,HJ ρ,HH ρ,qd ρ,pZ ρ,pY ρ]
noncomputable def ų (ρ:Type):Env ρ:=æ F4 (Bv ρ)
noncomputable def sd:Tpl:=⟨130,.any::.any::.any::.box 0 0::.any::.any::.box 1 0::.box 2 0::.box 3 0::aN 6 (.box 4 0::aN 43 [.fn 212 [(5,0),(6,0)]]),[.cells [.var tI,.var tI,.var ae,.var aa,.var af,.var ac,.var aa],.cells [.var tI,.var tI,.var ae,.var aa,.var af,.var ac,.var aa],.cells [.omp 7],.cells [.omp 8],.cells [.con tI,.con tI,.own 9,.nils,.nils,.nils,.con aa],.cells [.var tI,.var tI,.var ae,.var aa,.var af,.var ac,.var aa],.cells [.omp 7],.mapv tI .bool,.mapv tI .bool,.rowv Ï]⟩
noncomputable def K5:Tpl:=⟨130,.any::.any::.any::.box 0 0::.any::.any::.box 1 0::.box 2 0::.box 3 0::aN 6 (.box 4 0::.box 10 0::aN 42 [.fn 212 [(5,0),(6,0)]]),[.cells [.var tI,.var tI,.var ae,.var aa,.var af,.var ac,.var aa],.cells [.var tI,.var tI,.var ae,.var aa,.var af,.var ac,.var aa],.cells [.omp 7],.cells [.omp 8],.cells [.con tI,.con tI,.own 9,.nils,.nils,.nils,.con aa],.cells [.var tI,.var tI,.var ae,.var aa,.var af,.var ac,.var aa],.cells [.omp 7],.mapv tI .bool,.mapv tI .bool,.rowv Ï,.cells [.var tI,.var tI,.var tI,.var tI,.var tI,.var tI,.var tI,.var tI]]⟩
noncomputable def pW (ρ:Type):List (ä ρ):=[qd ρ,pZ ρ,pY ρ]
noncomputable def ė (ρ:Type):Env ρ:={æ F4 (pW ρ) with inl:=fun _=>false}
noncomputable def oO:Tpl:=⟨130,aN 6 [.box 0 0],[.cells [.var tI,.var tI,.var ae,.var aa,.var af,.var ac,.var aa]]⟩
abbrev jc:List Ty:=[tI,tI,ae,aa,af,ac,aa]
noncomputable def j4 (y:Val Ä):Val aj:=(y.1.1,y.1.2,y.2.1,y.2.2.1,y.2.2.2.1,y.2.2.2.2.1,y.2.2.2.2.2)
noncomputable def Ĝ:Code:=(qF Tryz.prog 79).getD .skip
abbrev iE:List Ty:=[tI,tI,aa]
abbrev lO:List Ty:=[tI,tI,ae,aa,af,ac,aa,tI,tI,ae,aa,af,ac,aa,tI,tI,ae,aa,af,ac,aa,ao,ao,ae]
abbrev yh:List Ty:=[tI,tI,ae,aa,af,ac,aa,tI,tI,ae,aa,af,ac,aa,tI,tI,ae,aa,af,ac,aa,ao,ao,ae,tI,tI,tI,tI,tI,tI,tI,tI]
abbrev ï (v:Val ah):List (Val Ï):=v.2.2.2.2.2.2.2.2.2.2.2.2.2.2.2.2.1
abbrev ř (v:Val ah):List (Int×Bool):=v.2.2.2.2.2.2.2.2.2.2.2.2.2.2.2.2.2.2.2.2.2.1
abbrev tO (v:Val ah):List (Val Ï):=v.2.2.2.2.2.2.2.2.2.2.2.2.2.2.2.2.2.2.2.2.2.2.2
noncomputable def ě (v:Val ah) (z:List (Val Ï)):Val ah:=(v.1,v.2.1,v.2.2.1,v.2.2.2.1,v.2.2.2.2.1,v.2.2.2.2.2.1,v.2.2.2.2.2.2.1,v.2.2.2.2.2.2.2.1,v.2.2.2.2.2.2.2.2.1,v.2.2.2.2.2.2.2.2.2.1,v.2.2.2.2.2.2.2.2.2.2.1,v.2.2.2.2.2.2.2.2.2.2.2.1,v.2.2.2.2.2.2.2.2.2.2.2.2.1,v.2.2.2.2.2.2.2.2.2.2.2.2.2.1,v.2.2.2.2.2.2.2.2.2.2.2.2.2.2.1,v.2.2.2.2.2.2.2.2.2.2.2.2.2.2.2.1,v.2.2.2.2.2.2.2.2.2.2.2.2.2.2.2.2.1,v.2.2.2.2.2.2.2.2.2.2.2.2.2.2.2.2.2.1,v.2.2.2.2.2.2.2.2.2.2.2.2.2.2.2.2.2.2.1,v.2.2.2.2.2.2.2.2.2.2.2.2.2.2.2.2.2.2.2.1,v.2.2.2.2.2.2.2.2.2.2.2.2.2.2.2.2.2.2.2.2.1,v.2.2.2.2.2.2.2.2.2.2.2.2.2.2.2.2.2.2.2.2.2.1,v.2.2.2.2.2.2.2.2.2.2.2.2.2.2.2.2.2.2.2.2.2.2.1,z)
noncomputable def Bw (v:Val ah) (x:Val Ï):Val (.pair tI (.pair tI (.pair ae (.pair aa (.pair af (.pair ac (.pair aa (.pair tI (.pair tI (.pair ae (.pair aa (.pair af (.pair ac (.pair aa (.pair tI (.pair tI (.pair ae (.pair aa (.pair af (.pair ac (.pair aa (.pair ao (.pair ao (.pair ae ay)))))))))))))))))))))))):=(v.1,v.2.1,v.2.2.1,v.2.2.2.1,v.2.2.2.2.1,v.2.2.2.2.2.1,v.2.2.2.2.2.2.1,v.2.2.2.2.2.2.2.1,v.2.2.2.2.2.2.2.2.1,v.2.2.2.2.2.2.2.2.2.1,v.2.2.2.2.2.2.2.2.2.2.1,v.2.2.2.2.2.2.2.2.2.2.2.1,v.2.2.2.2.2.2.2.2.2.2.2.2.1,v.2.2.2.2.2.2.2.2.2.2.2.2.2.1,v.2.2.2.2.2.2.2.2.2.2.2.2.2.2.1,v.2.2.2.2.2.2.2.2.2.2.2.2.2.2.2.1,v.2.2.2.2.2.2.2.2.2.2.2.2.2.2.2.2.1,v.2.2.2.2.2.2.2.2.2.2.2.2.2.2.2.2.2.1,v.2.2.2.2.2.2.2.2.2.2.2.2.2.2.2.2.2.2.1,v.2.2.2.2.2.2.2.2.2.2.2.2.2.2.2.2.2.2.2.1,v.2.2.2.2.2.2.2.2.2.2.2.2.2.2.2.2.2.2.2.2.1,v.2.2.2.2.2.2.2.2.2.2.2.2.2.2.2.2.2.2.2.2.2.1,v.2.2.2.2.2.2.2.2.2.2.2.2.2.2.2.2.2.2.2.2.2.2.1,v.2.2.2.2.2.2.2.2.2.2.2.2.2.2.2.2.2.2.2.2.2.2.2,x.1,x.2.1,x.2.2.1,x.2.2.2.1.1,x.2.2.2.1.2,x.2.2.2.2.1.1,x.2.2.2.2.1.2,x.2.2.2.2.2)
def O6:â:=⟨[Î],[.bool],fun(x:Val Î)=>yw x⟩
def QW:List (Nat×â):=[]
def zD (ρ:Type):List (ä ρ):=[]
def HC (ρ:Type):Env ρ:=æ QW (zD ρ)
def YH:â:=⟨[Ä],[.bool],fun(x:Val Ä)=>JU x⟩
def QU:Ç:={pin:=0,cs:=[tI,tI,ae,aa,af,ac,aa],vs:=[tI],head:=⟨50,[.any,.box 0 0,.any,.var tI],[bi]⟩,exits:=[(.ret,⟨50,[.any,.box 0 0,.var .bool],[bi]⟩,[.bool]),(.exit 0,⟨50,[.any,.box 0 0],[bi]⟩,[])]}
def CM (ρ:Type):ä ρ:=⟨[],7,0,QU,fun(p:Val aj) (v:Val tI) b a=>tB p.2.2.2.2.2.1 v (fun c=>b c) (a 0) (a 1)⟩
def WY:List (Nat×â):=[(33,O6)]
def HB (ρ:Type):List (ä ρ):=[CM ρ]
def FS (ρ:Type):Env ρ:=æ WY (HB ρ)
def Ů:â:=⟨[aa,Ã],[tI],fun(x:Val aY)=>ö x.1 x.2⟩
def kW:Ç:={pin:=0,cs:=[aa,tI,tI,tI],vs:=[tI],head:=⟨19,[.con aa,.any,.any,.box 0 0,.any,.any,.any,.con tI,.var tI],[bq]⟩,exits:=[(.ret,⟨19,[.con aa,.any,.any,.box 0 0,.var tI,.any,.any,.con tI],[bq]⟩,[tI]),(.exit 0,⟨19,[.con aa,.any,.any,.box 0 0,.any,.any,.any,.con tI],[bq]⟩,[])]}
def ο (ρ:Type):ä ρ:=⟨[],119,0,kW,fun(p:Val (.pair aa ğ)) (v:Val tI) b a=>Ģ p.1 p.2.1 p.2.2.1 p.2.2.2 v (fun c=>b c) (a 0) (a 1)⟩
def mo:List (Nat×â):=[]
def gN (ρ:Type):List (ä ρ):=[ο ρ]
def ŝ (ρ:Type):Env ρ:=æ mo (gN ρ)
def gM:â:=⟨[Ä,Ã],[tI,tI],fun(x:Val aO)=>ĝ x.1 x.2⟩
def U7:List (Nat×â):=[(43,ł),(113,Cy),(119,Ů)]
def EK (ρ:Type):List (ä ρ):=[]
def Ma (ρ:Type):Env ρ:=æ U7 (EK ρ)
def iT:â:=⟨[ak,Ã],[tI],fun(x:Val aT)=>š x.1 x.2⟩
def ND:List (Nat×â):=[(53,gM)]
def wG (ρ:Type):List (ä ρ):=[]
def C5 (ρ:Type):Env ρ:=æ ND (wG ρ)
def JF:â:=⟨[Ð,tI],[.bool],fun(x:Val (.pair Ð tI))=>qD x.1 x.2⟩
def W9:List (Nat×â):=[]
def HN (ρ:Type):List (ä ρ):=[]
def Pm (ρ:Type):Env ρ:=æ W9 (HN ρ)
def oj:â:=⟨[Ð],[tI,tI],fun(x:Val Ð)=>kP x⟩
def N8:Ç:={pin:=0,cs:=[ai,tI,tI,ai],vs:=[tI],head:=⟨57,.any::.box 0 0::aN 17 [.con ai,.con tI,.var tI],[br]⟩,exits:=[(.ret,⟨57,.any::.box 0 0::.var tI::.var tI::aN 15 [.con ai,.con tI],[br]⟩,[tI,tI]),(.exit 0,⟨57,.any::.box 0 0::aN 17 [.con ai,.con tI],[br]⟩,[])]}
def Ab (ρ:Type):ä ρ:=⟨[],146,0,N8,fun(p:Val (.pair ai aK)) (v:Val tI) b a=>qi p.1 p.2.1 p.2.2.1 p.2.2.2 v (fun c=>b c) (a 0) (a 1)⟩
def UF:List (Nat×â):=[(173,JF)]
def DZ (ρ:Type):List (ä ρ):=[Ab ρ]
def BF (ρ:Type):Env ρ:=æ UF (DZ ρ)
def pB:â:=⟨[Ð,ao],[ab,.bool],fun(x:Val (.pair Ð ao))=>j9 x.1 x.2⟩
def sI:Ç:={pin:=2,cs:=[ao,ai,tI,tI,ai,ab,tI,ai,am,ab],vs:=[tI,tI],head:=⟨140,.any::.con ao::.own 1::.box 2 0::aN 3 (.box 3 0::.own 4::.own 5::.var tI::aN 14 [.con ai,.con tI,.var tI]),[br,.rowc tI,br,.cells [.nils],.rowc .bool,.rowc tI]⟩,exits:=[(.exit 0,⟨140,.any::.con ao::.own 1::.box 2 0::aN 3 (.box 3 0::.own 4::.own 5::.var tI::aN 14 [.con ai,.con tI]),[br,.rowc tI,br,.cells [.nils],.rowc .bool,.rowc tI]⟩,[tI])]}
def sH (ρ:Type):ä ρ:=⟨[2,3],210,0,sI,fun(p:Val (tyL sI.cs)) (v:Val Ã) a b=>gQ p.2.1 p.2.2.1 v.1 v.2 (fun c d=>a (c,d)) (b 0)⟩
def sG:Ç:={pin:=2,cs:=[ao,tI,tI,tI,ai,ab,tI,ai,ab],vs:=[tI,am,ab],head:=⟨140,.any::.con ao::.own 1::.box 2 0::aN 3 (.box 3 0::.own 4::.own 5::.con tI::aN 27 [.con tI,.var tI]),bT⟩,exits:=[(.exit 2,⟨140,.any::.con ao::.own 1::.box 2 0::aN 3 (.box 3 0::.own 4::.own 5::.con tI::aN 27 [.con tI]),bT⟩,[am,ab])]}
def sF (ρ:Type):ä ρ:=⟨[2,3],210,2,sG,fun(p:Val (tyL sG.cs)) (v:Val (.pair tI aP)) a b=>Œ p.2.2.1 p.2.2.2.2.2.1 v.1 v.2.1 v.2.2 (fun c d e=>a (c,d,e)) (b 0)⟩
def su:Ç:={pin:=2,cs:=[ao,tI,tI,ai,tI,tI,ai,tI,ai,ab],vs:=[tI,ab,am,ab],head:=⟨140,.any::.con ao::.own 1::.box 2 0::aN 3 (.box 3 0::.own 4::.own 5::.con tI::aN 3 (.con tI::aN 62 [.con ai,.con tI,.var tI])),bU⟩,exits:=[(.ret,⟨140,.any::.con ao::.own 1::.box 2 0::aN 2 (.var .bool::.box 3 0::.own 4::.own 5::.con tI::aN 3 (.con tI::aN 62 [.con ai,.con tI])),bU⟩,[.bool,ab,am,ab]),(.exit 6,⟨140,.any::.con ao::.own 1::.box 2 0::aN 3 (.box 3 0::.own 4::.own 5::.con tI::aN 3 (.con tI::aN 62 [.con ai,.con tI])),bU⟩,[ab,am,ab])]}
def sr (ρ:Type):ä ρ:=⟨[2,3],210,6,su,fun(p:Val (tyL su.cs)) (v:Val (.pair tI (.pair ab aP))) b a=>iV p.1 p.2.1 p.2.2.1 p.2.2.2.1 p.2.2.2.2.1 v.1 v.2.1 v.2.2.1 v.2.2.2 (fun c d e f=>b (c,d,e,f)) (a 0) (a 1)⟩
def sw:Ç:={pin:=2,cs:=[ao,tI,tI,ai,tI,ai],vs:=[ab,am,ab,ab],head:=⟨140,[.any,.con ao,.own 1,.box 2 0,.any,.any,.any,.box 3 0,.own 4,.own 5,.con tI],bV⟩,exits:=[(.ret,⟨140,[.any,.con ao,.own 1,.box 2 0,.any,.any,.var .bool,.box 3 0,.own 4,.own 5,.con tI],bV⟩,[.bool,ab,am,ab,ab])]}
def sv (ρ:Type):ä ρ:=⟨[2,3],210,4,sw,fun(p:Val (tyL sw.cs)) (v:Val aQ) a b=>Ħ p.1 p.2.1 p.2.2.2.2.1 p.2.2.2.2.2 v.1 v.2.1 v.2.2.1 v.2.2.2 (fun c d e f=>a (c,d,e,f)) (b 0)⟩
def Gh:Ç:={pin:=0,cs:=[tI,tI],vs:=[tI,ab],head:=⟨34,aN 6 (.own 0::.con tI::aN 13 [.con tI,.var tI]),[.rowv tI]⟩,exits:=[(.exit 0,⟨34,aN 6 (.own 0::.con tI::aN 13 [.con tI]),[.rowv tI]⟩,[ab])]}
def sq (ρ:Type):ä ρ:=⟨[],147,0,Gh,fun(p:Val Ã) (v:Val az) a b=>iU p.1 p.2 v.1 v.2 (fun c d=>a (c,d)) (b 0)⟩
def Lg:List (Nat×â):=[]
def vA (ρ:Type):List (ä ρ):=[sH ρ,sF ρ,sr ρ,sv ρ,sq ρ]
def δ (ρ:Type):Env ρ:=æ Lg (vA ρ)
def TT:â:=⟨[Ð,ab],[tI],fun(x:Val aW)=>E8 x.1 x.2⟩
def N4:Ç:={pin:=0,cs:=[ab,tI,tI,ai],vs:=[tI],head:=⟨37,aN 2 (.box 0 0::aN 16 [.con ab,.con tI,.var tI]),[br]⟩,exits:=[(.ret,⟨37,aN 2 (.box 0 0::.any::.var tI::aN 14 [.con ab,.con tI]),[br]⟩,[tI]),(.exit 0,⟨37,aN 2 (.box 0 0::aN 16 [.con ab,.con tI]),[br]⟩,[])]}
def zR (ρ:Type):ä ρ:=⟨[],184,0,N4,fun(p:Val (.pair ab aK)) (v:Val tI) b a=>qf p.1 p.2.1 p.2.2.1 p.2.2.2 v (fun c=>b c) (a 0) (a 1)⟩
def UC:List (Nat×â):=[(146,oj),(147,pB),(173,JF)]
def DS (ρ:Type):List (ä ρ):=[zR ρ]
def BD (ρ:Type):Env ρ:=æ UC (DS ρ)
def Pa:â:=⟨[Ð,ao,tI],[ab],fun(x:Val (.pair Ð (.pair ao tI)))=>yy x.1 x.2.1 x.2.2⟩
def xm:Ç:={pin:=0,cs:=[ao,tI,tI,tI,ai],vs:=[tI,ab],head:=⟨29,.any::.con ao::.con tI::.box 0 0::aN 3 (.own 1::aN 5 [.con tI,.var tI]),[br,.rowv tI]⟩,exits:=[(.exit 0,⟨29,.any::.con ao::.con tI::.box 0 0::aN 3 (.own 1::aN 5 [.con tI]),[br,.rowv tI]⟩,[ab])]}
def xl (ρ:Type):ä ρ:=⟨[],185,0,xm,fun(p:Val (tyL xm.cs)) (v:Val az) a b=>nu p.2.2.1 v.1 v.2 (fun c d=>a (c,d)) (b 0)⟩
def xj:Ç:={pin:=2,cs:=[ao,ai,tI,tI,ai,ab,tI,ai,am,ab],vs:=[tI,tI],head:=⟨140,.any::.con ao::.own 1::.box 2 0::aN 3 (.box 3 0::.own 4::.own 5::.var tI::aN 14 [.con ai,.con tI,.var tI]),[br,.rowc tI,br,.cells [.nils],.rowc .bool,.rowc tI]⟩,exits:=[(.exit 0,⟨140,.any::.con ao::.own 1::.box 2 0::aN 3 (.box 3 0::.own 4::.own 5::.var tI::aN 14 [.con ai,.con tI]),[br,.rowc tI,br,.cells [.nils],.rowc .bool,.rowc tI]⟩,[tI])]}
def xi (ρ:Type):ä ρ:=⟨[8,3],210,0,xj,fun(p:Val (tyL xj.cs)) (v:Val Ã) a b=>tZ p.2.1 p.2.2.1 v.1 v.2 (fun c d=>a (c,d)) (b 0)⟩
def xh:Ç:={pin:=2,cs:=[ao,tI,tI,tI,ai,ab,tI,ai,ab],vs:=[tI,am,ab],head:=⟨140,.any::.con ao::.own 1::.box 2 0::aN 3 (.box 3 0::.own 4::.own 5::.con tI::aN 27 [.con tI,.var tI]),bT⟩,exits:=[(.exit 2,⟨140,.any::.con ao::.own 1::.box 2 0::aN 3 (.box 3 0::.own 4::.own 5::.con tI::aN 27 [.con tI]),bT⟩,[am,ab])]}
def xg (ρ:Type):ä ρ:=⟨[8,3],210,2,xh,fun(p:Val (tyL xh.cs)) (v:Val (.pair tI aP)) a b=>tY p.2.2.1 p.2.2.2.2.2.1 v.1 v.2.1 v.2.2 (fun c d e=>a (c,d,e)) (b 0)⟩
def xd:Ç:={pin:=2,cs:=[ao,tI,tI,ai,tI,tI,ai,tI,ai,ab],vs:=[tI,ab,am,ab],head:=⟨140,.any::.con ao::.own 1::.box 2 0::aN 3 (.box 3 0::.own 4::.own 5::.con tI::aN 3 (.con tI::aN 62 [.con ai,.con tI,.var tI])),bU⟩,exits:=[(.ret,⟨140,.any::.con ao::.own 1::.box 2 0::aN 2 (.var .bool::.box 3 0::.own 4::.own 5::.con tI::aN 3 (.con tI::aN 62 [.con ai,.con tI])),bU⟩,[.bool,ab,am,ab]),(.exit 6,⟨140,.any::.con ao::.own 1::.box 2 0::aN 3 (.box 3 0::.own 4::.own 5::.con tI::aN 3 (.con tI::aN 62 [.con ai,.con tI])),bU⟩,[ab,am,ab])]}
def xc (ρ:Type):ä ρ:=⟨[8,3],210,6,xd,fun(p:Val (tyL xd.cs)) (v:Val (.pair tI (.pair ab aP))) b a=>DR p.1 p.2.1 p.2.2.1 p.2.2.2.1 p.2.2.2.2.1 v.1 v.2.1 v.2.2.1 v.2.2.2 (fun c d e f=>b (c,d,e,f)) (a 0) (a 1)⟩
def xf:Ç:={pin:=2,cs:=[ao,tI,tI,ai,tI,ai],vs:=[ab,am,ab,ab],head:=⟨140,[.any,.con ao,.own 1,.box 2 0,.any,.any,.any,.box 3 0,.own 4,.own 5,.con tI],bV⟩,exits:=[(.ret,⟨140,[.any,.con ao,.own 1,.box 2 0,.any,.any,.var .bool,.box 3 0,.own 4,.own 5,.con tI],bV⟩,[.bool,ab,am,ab,ab])]}
def xe (ρ:Type):ä ρ:=⟨[8,3],210,4,xf,fun(p:Val (tyL xf.cs)) (v:Val aQ) a b=>tX p.1 p.2.1 p.2.2.2.2.1 p.2.2.2.2.2 v.1 v.2.1 v.2.2.1 v.2.2.2 (fun c d e f=>a (c,d,e,f)) (b 0)⟩
def Rk:List (Nat×â):=[]
def zQ (ρ:Type):List (ä ρ):=[xl ρ,xi ρ,xg ρ,xc ρ,xe ρ]
def iW (ρ:Type):Env ρ:=æ Rk (zQ ρ)
def Cu:â:=⟨[Ð,tI,tI],[tI,tI],fun(x:Val aZ)=>pb x.1 x.2.1 x.2.2⟩
def UH:List (Nat×â):=[(184,TT),(185,Pa)]
def D3 (ρ:Type):List (ä ρ):=[]
def Lz (ρ:Type):Env ρ:=æ UH (D3 ρ)
def iD:â:=⟨[ak,tI,tI],[tI],fun(x:Val aT)=>É x.1 x.2.1 x.2.2⟩
def FZ:List (Nat×â):=[(118,Cu)]
def pT (ρ:Type):List (ä ρ):=[]
def vn (ρ:Type):Env ρ:=æ FZ (pT ρ)
def qJ:â:=⟨[ak,Ã],[tI],fun(x:Val aT)=>η x.1 x.2⟩
def FY:List (Nat×â):=[(50,iT),(52,iD)]
def pS (ρ:Type):List (ä ρ):=[]
def vm (ρ:Type):Env ρ:=æ FY (pS ρ)
def lu:â:=⟨[ak,Ã],[tI],fun(x:Val aT)=>gT x.1 x.2⟩
def zd:List (Nat×â):=[(50,iT),(52,iD)]
def mu (ρ:Type):List (ä ρ):=[]
def oK (ρ:Type):Env ρ:=æ zd (mu ρ)
def i8:â:=⟨[ak,Ã],[Ã],fun(x:Val aT)=>Ŭ x.1 x.2⟩
def zc:List (Nat×â):=[(96,qJ),(97,lu)]
def mr (ρ:Type):List (ä ρ):=[]
def jK (ρ:Type):Env ρ:={æ zc (mr ρ) with hint:=GQ [(12,96),(16,97)]}
def l5:â:=⟨[Ä,Ã],[Ä,tI],fun(x:Val aO)=>ŷ x.1 x.2⟩
def EJ:Ç:={pin:=6,cs:=[tI,tI,tI,ae,aa,af,ac,aa,tI,tI,tI,tI,tI,tI,ae,aa,af,ac,aa,tI,tI,tI,tI,ac,tI,tI,ae,aa,af,aa],vs:=[tI,ac],head:=⟨50,.any::.box 6 0::.box 7 0::.own 8::aN 21 [.own 8,.con tI,.var tI],bW⟩,exits:=[(.exit 0,⟨50,.any::.box 6 0::.box 7 0::.own 8::aN 21 [.own 8,.con tI],bW⟩,[ac])]}
def EI (ρ:Type):ä ρ:=⟨[1,2,4,1],186,0,EJ,fun(p:Val (tyL EJ.cs)) (v:Val (.pair tI ac)) a b=>uD p.1 v.1 v.2 (fun c d=>a (c,d)) (b 0)⟩
def Xx:List (Nat×â):=[(43,ł)]
def Ii (ρ:Type):List (ä ρ):=[EI ρ]
def GD (ρ:Type):Env ρ:=æ Xx (Ii ρ)
def wm:â:=⟨[aF,ab,tI],[tI],fun(x:Val (.pair aF aG))=>g9 x.1 x.2.1 x.2.2⟩
def L2:List (Nat×â):=[(119,Ů)]
def vJ (ρ:Type):List (ä ρ):=[]
def Ap (ρ:Type):Env ρ:=æ L2 (vJ ρ)
def YK:â:=⟨[Ä,Ï,tI,tI],[tI],fun(x:Val (.pair Ä (.pair Ï Ã)))=>yA x.1 x.2.1 x.2.2.1 x.2.2.2⟩
def Ep:Ç:={pin:=0,cs:=[tI,tI,af,tI,tI,tI,ae,aa,af,ac,aa,tI,tI,tI,tI,tI,tI,tI,tI],vs:=[tI,tI],head:=⟨88,aN 2 (.con tI::.con tI::.box 0 0::.box 1 0::aN 3 (.var tI::aN 7 [.con af,.con tI,.var tI])),[bi,bj]⟩,exits:=[(.exit 0,⟨88,aN 2 (.con tI::.con tI::.box 0 0::.box 1 0::aN 3 (.var tI::aN 7 [.con af,.con tI])),[bi,bj]⟩,[tI])]}
def Eo (ρ:Type):ä ρ:=⟨[],207,0,Ep,fun(p:Val (tyL Ep.cs)) (v:Val Ã) a b=>ur p.1 p.2.1 p.2.2.1 p.2.2.2.1 p.2.2.2.2.2.2.2.2.2.2.2.1 v.1 v.2 (fun c d=>a (c,d)) (b 0)⟩
def En:Ç:={pin:=0,cs:=[tI,tI,tI,aa,tI,tI,tI,tI,tI,tI,tI,tI,tI],vs:=[tI,ab],head:=⟨88,aN 2 (.con tI::.con tI::.any::.box 0 0::aN 3 (.con tI::aN 3 (.own 1::aN 39 [.con aa,.con tI,.var tI]))),bR⟩,exits:=[(.exit 2,⟨88,aN 2 (.con tI::.con tI::.any::.box 0 0::aN 3 (.con tI::aN 3 (.own 1::aN 39 [.con aa,.con tI]))),bR⟩,[ab])]}
def Em (ρ:Type):ä ρ:=⟨[],207,2,En,fun(p:Val (tyL En.cs)) (v:Val az) a b=>uq p.1 p.2.1 p.2.2.2.1 p.2.2.2.2.1 p.2.2.2.2.2.1 v.1 v.2 (fun c d=>a (c,d)) (b 0)⟩
def Xr:List (Nat×â):=[(144,i9)]
def H8 (ρ:Type):List (ä ρ):=[Eo ρ,Em ρ]
def yn (ρ:Type):Env ρ:=æ Xr (H8 ρ)
def uX:â:=⟨[au,ab],[Ã],fun(x:Val (.pair au ab))=>iB x.1 x.2⟩
def BK:List (Nat×â):=[]
def ni (ρ:Type):List (ä ρ):=[]
def qp (ρ:Type):Env ρ:=æ BK (ni ρ)
def rD:â:=⟨[aa],[tI],fun(x:Val aa)=>jw x⟩
def N9:Ç:={pin:=0,cs:=[aa,tI],vs:=[tI],head:=⟨15,aN 5 [.con aa,.con tI,.var tI],[]⟩,exits:=[(.ret,⟨15,[.any,.any,.var tI,.any,.any,.con aa,.con tI],[]⟩,[tI]),(.exit 0,⟨15,aN 5 [.con aa,.con tI],[]⟩,[])]}
def Ai (ρ:Type):ä ρ:=⟨[],261,0,N9,fun(p:Val (.pair aa tI)) (v:Val tI) b a=>qn p.1 p.2 v (fun c=>b c) (a 0) (a 1)⟩
def UI:List (Nat×â):=[(218,Cv)]
def D4 (ρ:Type):List (ä ρ):=[Ai ρ]
def BG (ρ:Type):Env ρ:=æ UI (D4 ρ)
def AU:â:=⟨[tI,tI],[Ã,tI],fun(x:Val Ã)=>pd x.1 x.2⟩
def Oa:List (Nat×â):=[(249,Qz),(250,WQ)]
def xn (ρ:Type):List (ä ρ):=[]
def D5 (ρ:Type):Env ρ:=æ Oa (xn ρ)
def abB:â:=⟨[Ã,Ã],[Ã,tI],fun(x:Val ü)=>Ss x.1 x.2⟩
def Z7:List (Nat×â):=[(261,rD),(285,AU)]
def LM (ρ:Type):List (ä ρ):=[]
def UO (ρ:Type):Env ρ:=æ Z7 (LM ρ)
def Cx:â:=⟨[Ã,Ã],[Ã],fun(x:Val ü)=>uN x.1 x.2⟩
def Jj:List (Nat×â):=[(275,abB)]
def sK (ρ:Type):List (ä ρ):=[]
def xq (ρ:Type):Env ρ:=æ Jj (sK ρ)
def WR:â:=⟨[Ã,Ã],[tI],fun(x:Val ü)=>MC x.1 x.2⟩
def Z6:List (Nat×â):=[]
def LJ (ρ:Type):List (ä ρ):=[]
def UM (ρ:Type):Env ρ:=æ Z6 (LJ ρ)
def zu:â:=⟨[ü],[.bool],fun(x:Val ü)=>ro x⟩
def Gp:List (Nat×â):=[(261,rD),(291,WR)]
def qo (ρ:Type):List (ä ρ):=[]
def vF (ρ:Type):Env ρ:=æ Gp (qo ρ)
def abC:â:=⟨[Ã,Ã],[Ã,tI],fun(x:Val ü)=>ME x.1 x.2⟩
def Z8:List (Nat×â):=[(261,rD),(285,AU)]
def LO (ρ:Type):List (ä ρ):=[]
def UQ (ρ:Type):Env ρ:=æ Z8 (LO ρ)
def TW:â:=⟨[ü,Ã],[ü,tI],fun(x:Val (.pair ü Ã))=>MD x.1 x.2⟩
def HZ:List (Nat×â):=[(218,Cv),(286,zu),(289,abC),(291,WR)]
def t8 (ρ:Type):List (ä ρ):=[]
def HY:List adP:=[⟨[3,2],287,0,4⟩]
def UP (ρ:Type):Env ρ:=æ HZ (t8 ρ)
def BI (ρ:Type):Env ρ:=afy HZ (t8 ρ) HY
def Cw:â:=⟨[Ã,Ã],[ü],fun(x:Val ü)=>nB x.1 x.2⟩
def Ji:List (Nat×â):=[(276,TW)]
def sJ (ρ:Type):List (ä ρ):=[]
def xp (ρ:Type):Env ρ:=æ Ji (sJ ρ)
def FN:â:=⟨[Ä,Î],[ü],fun(x:Val aL)=>nY x.1 x.2⟩
def RO:List (Nat×â):=[(111,AW),(183,yc),(258,uX),(259,Cx),(260,Cw)]
def As (ρ:Type):List (ä ρ):=[]
def Ib (ρ:Type):Env ρ:=æ RO (As ρ)
def KA:â:=⟨[Ä,Î],[Ã],fun(x:Val aL)=>sZ x.1 x.2⟩
def U1:List (Nat×â):=[]
def Ew (ρ:Type):List (ä ρ):=[]
def L7 (ρ:Type):Env ρ:=æ U1 (Ew ρ)
def Kx:â:=⟨[tI,tI],[tI],fun(x:Val Ã)=>xM x.1 x.2⟩
def UL:List (Nat×â):=[]
def D6 (ρ:Type):List (ä ρ):=[]
def LH (ρ:Type):Env ρ:=æ UL (D6 ρ)
def Ky:â:=⟨[Ã],[tI,tI],fun(x:Val Ã)=>xN x⟩
def UR:List (Nat×â):=[(261,rD),(262,Kx)]
def D9 (ρ:Type):List (ä ρ):=[]
def LP (ρ:Type):Env ρ:=æ UR (D9 ρ)
def QA:â:=⟨[Ã],[tI,tI],fun(x:Val Ã)=>E9 x⟩
def Xo:List (Nat×â):=[(261,rD),(262,Kx)]
def H4 (ρ:Type):List (ä ρ):=[]
def Pw (ρ:Type):Env ρ:=æ Xo (H4 ρ)
def QB:â:=⟨[Ä,Î],[Ã],fun(x:Val aL)=>uM x.1 x.2⟩
def Xp:List (Nat×â):=[(243,FN),(244,KA),(245,Ky),(246,QA)]
def H6 (ρ:Type):List (ä ρ):=[]
def Px (ρ:Type):Env ρ:=æ Xp (H6 ρ)
def JG:â:=⟨[Ä],[aF],fun(x:Val Ä)=>yz x⟩
def Ej:Ç:={pin:=2,cs:=[tI,ab,tI,ae,tI,tI,tI,tI,ae,aa,af,ac,aa,tI,tI,ae,aa,af,ac,aa,aa,tI,tI,tI,tI,tI,tI,tI,tI,tI],vs:=[tI,ai,aa],head:=⟨144,.box 1 0::.any::.con tI::.box 2 0::.con ab::.con tI::.var tI::aN 24 [.con ae,.con tI,.con tI],[bi,bw,bj,.rowv ğ,.rowv Ã]⟩,exits:=[(.exit 2,⟨144,.box 1 0::.any::.con tI::.box 2 0::.con ab::.con tI::aN 25 [.con ae,.con tI,.con tI],[bi,bw,bj,.rowv ğ,.rowv Ã]⟩,[ai,aa])]}
def Ei (ρ:Type):ä ρ:=⟨[2,1],142,2,Ej,fun(p:Val (tyL Ej.cs)) (v:Val (.pair tI Cd)) a b=>let A:=p.2.2.2.2.2.2.2.2.2.2.2.2.2;let B:=A.2.2.2.2;let C:=B.2.2.2.2.2;let D:=C.2.2.2.2;uk p.1 p.2.1 p.2.2.1 A.1 A.2.1 A.2.2.1 A.2.2.2.1 B.1 B.2.1 B.2.2.1 C.1 C.2.1 C.2.2.1 C.2.2.2.1 D.1 D.2.1 D.2.2.1 D.2.2.2 v.1 v.2.1 v.2.2 (fun c d e=>a (c,d,e)) (b 0)⟩
def El:Ç:={pin:=2,cs:=[ae,tI,tI,tI,ae,aa,af,ac,aa,tI,tI,ae,aa,af,ac,aa,aa,tI],vs:=[tI,ai,aa],head:=⟨144,.box 1 0::aN 30 [.con ae,.con tI,.var tI],bX⟩,exits:=[(.exit 0,⟨144,.box 1 0::aN 30 [.con ae,.con tI],bX⟩,[ai,aa])]}
def Ek (ρ:Type):ä ρ:=⟨[2,1],142,0,El,fun(p:Val (tyL El.cs)) (v:Val (.pair tI Cd)) a b=>let A:=p.2.2.2.2.2.2.2.2.2;let B:=A.2.2.2.2;un p.1 p.2.1 A.1 A.2.1 A.2.2.1 A.2.2.2.1 B.1 B.2.1 B.2.2.1 B.2.2.2.1 B.2.2.2.2 v.1 v.2.1 v.2.2 (fun c d e=>a (c,d,e)) (b 0)⟩
def Eh:Ç:={pin:=2,cs:=[ac,tI,tI,tI,ae,aa,af,ac,aa,tI,tI,ae,aa,af,ac,aa,aa,tI],vs:=[tI,ai,aa],head:=⟨144,.box 1 0::aN 107 [.con ac,.con tI,.var tI],bX⟩,exits:=[(.exit 4,⟨144,.box 1 0::aN 107 [.con ac,.con tI],bX⟩,[ai,aa])]}
def Eg (ρ:Type):ä ρ:=⟨[2,1],142,4,Eh,fun(p:Val (tyL Eh.cs)) (v:Val (.pair tI Cd)) a b=>let A:=p.2.2.2.2.2.2.2.2.2;let B:=A.2.2.2.2;uj p.1 p.2.1 A.1 A.2.1 A.2.2.1 A.2.2.2.1 B.1 B.2.1 B.2.2.1 B.2.2.2.1 B.2.2.2.2 v.1 v.2.1 v.2.2 (fun c d e=>a (c,d,e)) (b 0)⟩
def Xq:List (Nat×â):=[(113,Cy),(181,QC),(183,yc),(205,wm),(207,YK),(208,QB)]
def H7 (ρ:Type):List (ä ρ):=[Ei ρ,Ek ρ,Eg ρ]
def sL (ρ:Type):Env ρ:=æ Xq (H7 ρ)
def Ř:â:=⟨[Ä],[Ð,aa,tI],fun(x:Val Ä)=>Đ x⟩
def RV:List (Nat×â):=[(43,ł),(74,JG)]
def Au (ρ:Type):List (ä ρ):=[]
def Ig (ρ:Type):Env ρ:=æ RV (Au ρ)
def Ō:â:=⟨[Ð],[.bool,tI],fun(x:Val Ð)=>þ x⟩
def Gl:List (Nat×â):=[(146,oj),(147,pB)]
def qg (ρ:Type):List (ä ρ):=[]
def vC (ρ:Type):Env ρ:=æ Gl (qg ρ)
def Hx:â:=⟨[Ä,Ã],[Ã,tI],fun(x:Val aO)=>mN x.1 x.2⟩
def sl:Ç:={pin:=4,cs:=[tI,tI,tI,ae,aa,af,ac,aa,tI,tI,tI,tI,aa],vs:=[tI,tI,tI,ae,aa,af,ac,aa],head:=⟨68,aN 2 (.box 4 0::aN 20 [.own 3,.con tI,.var tI]),bY⟩,exits:=[(.ret,⟨68,aN 2 (.box 4 0::.any::.nilp::.var tI::aN 17 [.own 3,.con tI]),bY⟩,[tI,tI,tI,ae,aa,af,ac,aa]),(.exit 0,⟨68,aN 2 (.box 4 0::aN 20 [.own 3,.con tI]),bY⟩,[tI,tI,ae,aa,af,ac,aa])]}
def sk (ρ:Type):ä ρ:=⟨[1,3],41,0,sl,fun(p:Val (tyL sl.cs)) (v:Val aE) b a=>ā p.1 p.2.2.2.2.2.2.2.2.2.2.2.2 v.1 v.2.1 v.2.2.1 v.2.2.2.1 v.2.2.2.2.1 v.2.2.2.2.2.1 v.2.2.2.2.2.2.1 v.2.2.2.2.2.2.2 (fun c d e f g h i j=>b (c,d,e,f,g,h,i,j)) (a 0) (a 1)⟩
def Lb:List (Nat×â):=[(42,i8),(43,ł),(53,gM),(54,l5),(77,Ř),(108,Ō)]
def vr (ρ:Type):List (ä ρ):=[sk ρ]
def qT (ρ:Type):Env ρ:=æ Lb (vr ρ)
def FO:â:=⟨[ab,ab],[ab,ab,tI],fun(x:Val bc)=>s7 x.1 x.2⟩
def R0:List (Nat×â):=[(182,FM),(183,yc)]
def Aw (ρ:Type):List (ä ρ):=[]
def Ik (ρ:Type):Env ρ:=æ R0 (Aw ρ)
def Qw:â:=⟨[ab,tI],[.bool],fun(x:Val aG)=>qC x.1 x.2⟩
def WZ:List (Nat×â):=[(114,FO)]
def HD (ρ:Type):List (ä ρ):=[]
def Pl (ρ:Type):Env ρ:=æ WZ (HD ρ)
def Ks:â:=⟨[tI],[.bool],fun(x:Val tI)=>sV x⟩
def Un:List (Nat×â):=[]
def Dt (ρ:Type):List (ä ρ):=[]
def KZ (ρ:Type):Env ρ:=æ Un (Dt ρ)
def Kr:â:=⟨[tI,ar],[aa],fun(x:Val (.pair tI ar))=>Ţ x.1 x.2⟩
def NP:Ç:={pin:=0,cs:=[tI,ab,tI],vs:=[tI,aa],head:=⟨23,.con tI::aN 4 [.own 0,.any,.any,.any,.con ab,.con tI,.var tI],[.rowv Ã]⟩,exits:=[(.exit 0,⟨23,.con tI::aN 4 [.own 0,.any,.any,.any,.con ab,.con tI],[.rowv Ã]⟩,[aa])]}
def zE (ρ:Type):ä ρ:=⟨[],46,0,NP,fun(p:Val (.pair tI aG)) (v:Val aD) a b=>pU p.1 p.2.1 p.2.2 v.1 v.2 (fun c d=>a (c,d)) (b 0)⟩
def Um:List (Nat×â):=[(100,ŗ)]
def Ds (ρ:Type):List (ä ρ):=[zE ρ]
def Bu (ρ:Type):Env ρ:=æ Um (Ds ρ)
def Qx:â:=⟨[Ä,tI,ab],[Ã,tI],fun(x:Val (.pair Ä az))=>E4 x.1 x.2.1 x.2.2⟩
def DE:Ç:={pin:=3,cs:=[aa,tI,tI,tI,ae,aa,af,ac,aa,tI,tI,ar],vs:=[tI,tI,tI,ae,aa,af,ac,aa],head:=⟨68,aN 2 (.box 3 0::aN 20 [.con aa,.con tI,.var tI]),[bi,bq,.rowf ab 0,bB]⟩,exits:=[(.ret,⟨68,aN 2 (.box 3 0::.any::.nilp::.var tI::aN 17 [.con aa,.con tI]),[bi,bq,.rowf ab 0,bB]⟩,[tI,tI,tI,ae,aa,af,ac,aa]),(.exit 0,⟨68,aN 2 (.box 3 0::aN 20 [.con aa,.con tI]),[bi,bq,.rowf ab 0,bB]⟩,[tI,tI,ae,aa,af,ac,aa])]}
def DD (ρ:Type):ä ρ:=⟨[7,2],41,0,DE,fun(p:Val (tyL DE.cs)) (v:Val aE) b a=>oQ p.1 p.2.1 v.1 v.2.1 v.2.2.1 v.2.2.2.1 v.2.2.2.2.1 v.2.2.2.2.2.1 v.2.2.2.2.2.2.1 v.2.2.2.2.2.2.2 (fun c d e f g h i j=>b (c,d,e,f,g,h,i,j)) (a 0) (a 1)⟩
def DC:Ç:={pin:=0,cs:=[ak,aa,tI,tI,tI],vs:=[tI,tI,tI],head:=⟨87,aN 6 (.box 0 0::aN 3 (.con ak::aN 2 (.box 1 0::aN 51 [.con aa,.con tI,.var tI]))),[bq,.cells [.var tI,.var tI]]⟩,exits:=[(.exit 0,⟨87,aN 6 (.box 0 0::aN 3 (.con ak::aN 2 (.box 1 0::aN 51 [.con aa,.con tI]))),[bq,.cells [.var tI,.var tI]]⟩,[tI,tI])]}
def DB (ρ:Type):ä ρ:=⟨[],10,0,DC,fun(p:Val (tyL DC.cs)) (v:Val ğ) a b=>tR p.1 p.2.1 p.2.2.1 v.1 v.2.1 v.2.2 (fun c d e=>a (c,d,e)) (b 0)⟩
def W7:List (Nat×â):=[(42,i8),(43,ł),(44,Qw),(45,Ks),(46,Kr),(53,gM),(54,l5),(77,Ř),(108,Ō)]
def HL (ρ:Type):List (ä ρ):=[DD ρ,DB ρ]
def yj (ρ:Type):Env ρ:=æ W7 (HL ρ)
def Kv:â:=⟨[Ä,Ã,Ã],[Ã,tI],fun(x:Val (.pair Ä ü))=>uL x.1 x.2.1 x.2.2⟩
def vz:Ç:={pin:=5,cs:=[tI,tI,tI,ae,aa,af,ac,aa,tI,tI,tI,tI,tI,tI,aa],vs:=[tI,tI,tI,ae,aa,af,ac,aa],head:=⟨68,aN 2 (.box 5 0::aN 20 [.own 4,.con tI,.var tI]),bZ⟩,exits:=[(.ret,⟨68,aN 2 (.box 5 0::.any::.nilp::.var tI::aN 17 [.own 4,.con tI]),bZ⟩,[tI,tI,tI,ae,aa,af,ac,aa]),(.exit 0,⟨68,aN 2 (.box 5 0::aN 20 [.own 4,.con tI]),bZ⟩,[tI,tI,ae,aa,af,ac,aa])]}
def vy (ρ:Type):ä ρ:=⟨[1,4],41,0,vz,fun(p:Val (tyL vz.cs)) (v:Val aE) b a=>qX p.1 p.2.2.2.2.2.2.2.2.2.2.2.2.2.2 v.1 v.2.1 v.2.2.1 v.2.2.2.1 v.2.2.2.2.1 v.2.2.2.2.2.1 v.2.2.2.2.2.2.1 v.2.2.2.2.2.2.2 (fun c d e f g h i j=>b (c,d,e,f,g,h,i,j)) (a 0) (a 1)⟩
def N0:List (Nat×â):=[(43,ł),(50,iT),(52,iD),(53,gM),(54,l5),(77,Ř),(108,Ō)]
def w9 (ρ:Type):List (ä ρ):=[vy ρ]
def tU (ρ:Type):Env ρ:=æ N0 (w9 ρ)
def Kw:â:=⟨[Ð,tI,tI],[ar],fun(x:Val aZ)=>xJ x.1 x.2.1 x.2.2⟩
def Pu:Ç:={pin:=0,cs:=[tI,tI,tI,tI,ai],vs:=[tI,ab],head:=⟨45,.any::.con tI::.con tI::.box 0 0::aN 3 (.own 1::aN 7 [.con tI,.var tI]),[br,.rowv tI]⟩,exits:=[(.exit 0,⟨45,.any::.con tI::.con tI::.box 0 0::aN 3 (.own 1::aN 7 [.con tI]),[br,.rowv tI]⟩,[ab])]}
def Ps (ρ:Type):ä ρ:=⟨[],148,0,Pu,fun(p:Val (tyL Pu.cs)) (v:Val az) a b=>yk p.2.2.1 v.1 v.2 (fun c d=>a (c,d)) (b 0)⟩
def Pq:Ç:={pin:=4,cs:=[ab,tI,ar,tI,ai],vs:=[tI,ab],head:=⟨53,.con ab::.box 1 0::aN 2 (.own 4::aN 7 [.con tI,.var tI]),b7⟩,exits:=[(.exit 0,⟨53,.con ab::.box 1 0::aN 2 (.own 4::aN 7 [.con tI]),b7⟩,[ab])]}
def Pp (ρ:Type):ä ρ:=⟨[12,8],211,0,Pq,fun(p:Val (tyL Pq.cs)) (v:Val az) a b=>Rj p.2.1 v.1 v.2 (fun c d=>a (c,d)) (b 0)⟩
def Po:Ç:={pin:=4,cs:=[ab,ai,tI,ar,tI,ai],vs:=[tI,ab],head:=⟨53,.con ab::aN 3 (.own 4::aN 16 [.con ai,.con tI,.var tI]),b7⟩,exits:=[(.exit 2,⟨53,.con ab::aN 3 (.own 4::aN 16 [.con ai,.con tI]),b7⟩,[ab])]}
def Pn (ρ:Type):ä ρ:=⟨[12,8],211,2,Po,fun(p:Val (tyL Po.cs)) (v:Val az) a b=>DQ p.1 p.2.1 p.2.2.1 v.1 v.2 (fun c d=>a (c,d)) (b 0)⟩
def Z4:Ç:={pin:=0,cs:=[tI,tI,ai],vs:=[tI,ar],head:=⟨45,aN 9 (.own 0::.fn 211 [(1,0)]::aN 18 [.con tI,.var tI]),[.rowv ab,br]⟩,exits:=[(.exit 2,⟨45,aN 9 (.own 0::.fn 211 [(1,0)]::aN 18 [.con tI]),[.rowv ab,br]⟩,[ar])]}
def Pr (ρ:Type):ä ρ:=⟨[],148,2,Z4,fun(p:Val aK) (v:Val (.pair tI ar)) a b=>JN p.1 p.2.1 p.2.2 v.1 v.2 (fun c d=>a (c,d)) (b 0)⟩
def aes:List (Nat×â):=[]
def UB (ρ:Type):List (ä ρ):=[Ps ρ,Pp ρ,Pn ρ,Pr ρ]
def Gj (ρ:Type):Env ρ:=æ aes (UB ρ)
def TU:â:=⟨[Ð],[ab,tI],fun(x:Val Ð)=>xK x⟩
def N7:Ç:={pin:=0,cs:=[tI,tI,ai],vs:=[tI,aR],head:=⟨93,.any::.box 0 0::aN 6 (.own 1::aN 24 [.con tI,.var tI]),[br,.rowv ar]⟩,exits:=[(.exit 0,⟨93,.any::.box 0 0::aN 6 (.own 1::aN 24 [.con tI]),[br,.rowv ar]⟩,[aR])]}
def Aa (ρ:Type):ä ρ:=⟨[],78,0,N7,fun(p:Val aK) (v:Val (.pair tI aR)) a b=>HU p.1 p.2.1 p.2.2 v.1 v.2 (fun c d=>a (c,d)) (b 0)⟩
def zT:Ç:={pin:=3,cs:=[tI,ar,ai,tI,tI,ai,aR,tI,tI,tI,tI,ai],vs:=[tI,tI,tI,ab],head:=⟨73,.any::.var tI::.con tI::.con ar::.fn 149 []::.box 3 0::aN 5 (.own 4::.var tI::aN 7 [.con ai,.con tI,.var tI]),b8⟩,exits:=[(.exit 2,⟨73,.any::.var tI::.con tI::.con ar::.fn 149 []::.box 3 0::aN 5 (.own 4::.var tI::aN 7 [.con ai,.con tI]),b8⟩,[tI,tI,ab])]}
def zS (ρ:Type):ä ρ:=⟨[22,10],150,2,zT,fun(p:Val (tyL zT.cs)) (v:Val aH) a b=>HP p.1 p.2.1 p.2.2.1 p.2.2.2.1 v.1 v.2.1 v.2.2.1 v.2.2.2 (fun c d e f=>a (c,d,e,f)) (b 0)⟩
def zV:Ç:={pin:=3,cs:=[ar,tI,ai,aR,tI,tI,tI,tI,ai],vs:=[tI,tI,tI,ab],head:=⟨73,.any::.var tI::.var tI::.con ar::.fn 149 []::.box 3 0::aN 5 [.own 4,.var tI],b8⟩,exits:=[(.exit 0,⟨73,aN 3 (.con ar::.fn 149 []::.box 3 0::aN 5 [.own 4]),b8⟩,[ab])]}
def zU (ρ:Type):ä ρ:=⟨[22,10],150,0,zV,fun(p:Val (tyL zV.cs)) (v:Val aH) a b=>HQ p.1 p.2.2.2.2.2.2.2.2 v.1 v.2.1 v.2.2.1 v.2.2.2 (fun c d e f=>a (c,d,e,f)) (b 0)⟩
def zX:Ç:={pin:=0,cs:=[tI,ai,tI,tI,ai,aR],vs:=[tI],head:=⟨93,.any::.box 0 0::aN 6 (.own 1::.any::.fn 149 []::.con tI::aN 37 [.con ai,.con tI,.var tI]),[br,.rowc ar]⟩,exits:=[(.exit 2,⟨93,.any::.box 0 0::aN 6 (.own 1::.any::.fn 149 []::.con tI::aN 37 [.con ai,.con tI]),[br,.rowc ar]⟩,[]),(.ret,⟨93,.any::.box 0 0::.own 2::.var tI::aN 4 (.own 1::.any::.fn 149 []::.con tI::aN 37 [.con ai,.con tI]),[br,.rowc ar,.rowv tI]⟩,[tI,ab]),(.exit 4,⟨93,.any::.box 0 0::aN 6 (.own 1::.any::.fn 149 []::.con tI::aN 37 [.con ai,.con tI]),[br,.rowc ar]⟩,[])]}
def zW (ρ:Type):ä ρ:=⟨[],78,4,zX,fun(p:Val (tyL zX.cs)) (v:Val tI) b a=>HS p.1 p.2.1 p.2.2.1 p.2.2.2.1 p.2.2.2.2.1 p.2.2.2.2.2 v (fun c=>b c) (a 0) (a 1) (a 2)⟩
def zZ:Ç:={pin:=0,cs:=[tI,ai,aR],vs:=[tI],head:=⟨93,.any::.box 0 0::aN 6 [.own 1,.any,.fn 149 [],.var tI],[br,.rowc ar]⟩,exits:=[(.exit 2,⟨93,.any::.box 0 0::aN 6 [.own 1,.any,.fn 149 []],[br,.rowc ar]⟩,[]),(.ret,⟨93,.any::.box 0 0::.own 2::.var tI::aN 4 [.own 1,.any,.fn 149 []],[br,.rowc ar,.rowv tI]⟩,[tI,ab])]}
def zY (ρ:Type):ä ρ:=⟨[],78,2,zZ,fun(p:Val (tyL zZ.cs)) (v:Val tI) b a=>HT p.1 p.2.1 p.2.2 v (fun c=>b c) (a 0) (a 1)⟩
def UE:List (Nat×â):=[(146,oj),(147,pB),(148,Kw)]
def DY (ρ:Type):List (ä ρ):=[Aa ρ,zS ρ,zU ρ,zW ρ,zY ρ]
def jM (ρ:Type):Env ρ:=æ UE (DY ρ)
def AQ:â:=⟨[Ä,ab],[aa],fun(x:Val (.pair Ä ab))=>oZ x.1 x.2⟩
def IV:Ç:={pin:=0,cs:=[aa,ab,tI],vs:=[tI,aa],head:=⟨32,aN 6 (.con aa::.any::.own 0::aN 8 [.con ab,.con tI,.var tI]),[.rowv Ã]⟩,exits:=[(.exit 0,⟨32,aN 6 (.con aa::.any::.own 0::aN 8 [.con ab,.con tI]),[.rowv Ã]⟩,[aa])]}
def vc (ρ:Type):ä ρ:=⟨[],80,0,IV,fun(p:Val (.pair aa aG)) (v:Val aD) a b=>l7 p.1 p.2.1 p.2.2 v.1 v.2 (fun c d=>a (c,d)) (b 0)⟩
def NC:List (Nat×â):=[(77,Ř)]
def wD (ρ:Type):List (ä ρ):=[vc ρ]
def tG (ρ:Type):Env ρ:=æ NC (wD ρ)
def TS:â:=⟨[Ä],[ι,tI],fun(x:Val Ä)=>E6 x⟩
def Uy:List (Nat×â):=[(77,Ř),(78,TU),(79,oi),(80,AQ)]
def DH (ρ:Type):List (ä ρ):=[]
def Lc (ρ:Type):Env ρ:=æ Uy (DH ρ)
def Hu:â:=⟨[],[Ä],fun(_:Unit)=>xH⟩
def KR:List (Nat×â):=[]
def uY (ρ:Type):List (ä ρ):=[]
def zC (ρ:Type):Env ρ:=æ KR (uY ρ)
def AP:â:=⟨[Ã,Ã],[tI],fun(x:Val ü)=>oY x.1 x.2⟩
def NB:List (Nat×â):=[]
def wC (ρ:Type):List (ä ρ):=[]
def CQ (ρ:Type):Env ρ:=æ NB (wC ρ)
def TR:â:=⟨[Ä,Ã,Ã],[tI,tI],fun(x:Val (.pair Ä ü))=>E5 x.1 x.2.1 x.2.2⟩
def zO:Ç:={pin:=4,cs:=[tI,tI,tI,ae,aa,af,ac,aa,tI,tI,tI,tI,aa],vs:=[tI,tI,tI,ae,aa,af,ac,aa],head:=⟨68,aN 2 (.box 4 0::aN 20 [.own 3,.con tI,.var tI]),bY⟩,exits:=[(.ret,⟨68,aN 2 (.box 4 0::.any::.nilp::.var tI::aN 17 [.own 3,.con tI]),bY⟩,[tI,tI,tI,ae,aa,af,ac,aa]),(.exit 0,⟨68,aN 2 (.box 4 0::aN 20 [.own 3,.con tI]),bY⟩,[tI,tI,ae,aa,af,ac,aa])]}
def zN (ρ:Type):ä ρ:=⟨[1,3],41,0,zO,fun(p:Val (tyL zO.cs)) (v:Val aE) b a=>wP p.1 p.2.2.2.2.2.2.2.2.2.2.2.2 v.1 v.2.1 v.2.2.1 v.2.2.2.1 v.2.2.2.2.1 v.2.2.2.2.2.1 v.2.2.2.2.2.2.1 v.2.2.2.2.2.2.2 (fun c d e f g h i j=>b (c,d,e,f,g,h,i,j)) (a 0) (a 1)⟩
def Ux:List (Nat×â):=[(42,i8),(43,ł),(53,gM),(54,l5),(77,Ř),(93,AP),(108,Ō)]
def DF (ρ:Type):List (ä ρ):=[zN ρ]
def Bz (ρ:Type):Env ρ:=æ Ux (DF ρ)
def TV:â:=⟨[Ð,tI,tI],[ab,tI],fun(x:Val aZ)=>xL x.1 x.2.1 x.2.2⟩
def Ah:Ç:={pin:=3,cs:=[ar,tI,tI,ai,tI,tI],vs:=[tI],head:=⟨19,.con ar::.fn 164 [(1,0),(2,0)]::aN 5 [.con tI,.var tI],[br,bo,bo]⟩,exits:=[(.ret,⟨19,[.con ar,.fn 164 [(1,0),(2,0)],.any,.any,.var tI,.any,.any,.con tI],[br,bo,bo]⟩,[tI]),(.exit 0,⟨19,.con ar::.fn 164 [(1,0),(2,0)]::aN 5 [.con tI],[br,bo,bo]⟩,[])]}
def Ag (ρ:Type):ä ρ:=⟨[5,2],163,0,Ah,fun(p:Val (tyL Ah.cs)) (v:Val tI) b a=>qm p.1 p.2.1 p.2.2.2.2.1 p.2.2.2.2.2 v (fun c=>b c) (a 0) (a 1)⟩
def Ad:Ç:={pin:=3,cs:=[tI,ar,ai,tI,tI,ai,tI,tI,tI,ai],vs:=[tI,tI,tI,ab],head:=⟨73,.any::.var tI::.con tI::.con ar::.fn 165 [(2,0)]::.box 3 0::aN 5 (.own 4::.var tI::aN 7 [.con ai,.con tI,.var tI]),b9⟩,exits:=[(.exit 2,⟨73,.any::.var tI::.con tI::.con ar::.fn 165 [(2,0)]::.box 3 0::aN 5 (.own 4::.var tI::aN 7 [.con ai,.con tI]),b9⟩,[tI,tI,ab])]}
def Ac (ρ:Type):ä ρ:=⟨[6,5],150,2,Ad,fun(p:Val (tyL Ad.cs)) (v:Val aH) a b=>HV p.1 p.2.1 p.2.2.1 p.2.2.2.1 p.2.2.2.2.2.2.2.1 v.1 v.2.1 v.2.2.1 v.2.2.2 (fun c d e f=>a (c,d,e,f)) (b 0)⟩
def Af:Ç:={pin:=3,cs:=[ar,tI,ai,tI,tI,tI,ai],vs:=[tI,tI,tI,ab],head:=⟨73,.any::.var tI::.var tI::.con ar::.fn 165 [(2,0)]::.box 3 0::aN 5 [.own 4,.var tI],b9⟩,exits:=[(.exit 0,⟨73,aN 3 (.con ar::.fn 165 [(2,0)]::.box 3 0::aN 5 [.own 4]),b9⟩,[ab])]}
def Ae (ρ:Type):ä ρ:=⟨[6,5],150,0,Af,fun(p:Val (tyL Af.cs)) (v:Val aH) a b=>ql p.1 p.2.2.2.2.1 p.2.2.2.2.2.2 v.1 v.2.1 v.2.2.1 v.2.2.2 (fun c d e f=>a (c,d,e,f)) (b 0)⟩
def UG:List (Nat×â):=[(118,Cu),(148,Kw)]
def D2 (ρ:Type):List (ä ρ):=[Ag ρ,Ac ρ,Ae ρ]
def oR (ρ:Type):Env ρ:=æ UG (D2 ρ)
def Ct:â:=⟨[ak,aV,(.ptr .bool)],[ab],fun(x:Val (.pair ak (.pair aV (.ptr .bool))))=>kO x.1 x.2.1 x.2.2⟩
def I9:List (Nat×â):=[(50,iT),(95,TV)]
def sn (ρ:Type):List (ä ρ):=[]
def w8 (ρ:Type):Env ρ:=æ I9 (sn ρ)
def Ku:â:=⟨[Ä,Ã,.bool],[ι,tI],fun(x:Val (.pair Ä (.pair Ã .bool)))=>uK x.1 x.2.1 x.2.2⟩
def vx:Ç:={pin:=5,cs:=[tI,tI,tI,ae,aa,af,ac,aa,tI,tI,tI,tI,.bool,tI,aa],vs:=[tI,tI,tI,ae,aa,af,ac,aa],head:=⟨68,aN 2 (.box 5 0::aN 20 [.own 4,.con tI,.var tI]),ca⟩,exits:=[(.ret,⟨68,aN 2 (.box 5 0::.any::.nilp::.var tI::aN 17 [.own 4,.con tI]),ca⟩,[tI,tI,tI,ae,aa,af,ac,aa]),(.exit 0,⟨68,aN 2 (.box 5 0::aN 20 [.own 4,.con tI]),ca⟩,[tI,tI,ae,aa,af,ac,aa])]}
def vw (ρ:Type):ä ρ:=⟨[1,3],41,0,vx,fun(p:Val (tyL vx.cs)) (v:Val aE) b a=>qW p.1 p.2.2.2.2.2.2.2.2.2.2.2.2.2.2 v.1 v.2.1 v.2.2.1 v.2.2.2.1 v.2.2.2.2.1 v.2.2.2.2.2.1 v.2.2.2.2.2.2.1 v.2.2.2.2.2.2.2 (fun c d e f g h i j=>b (c,d,e,f,g,h,i,j)) (a 0) (a 1)⟩
def vv:Ç:={pin:=10,cs:=[tI,tI,tI,ae,aa,af,ac,aa,tI,tI,tI,tI,.bool,tI,aa,tI,tI,ae,aa,af,ac,aa,tI,ai,aa,tI,tI,ae,aa,af,ac,aa,tI,tI,ae,aa,af,ac,aa],vs:=[tI],head:=⟨68,aN 2 (.box 10 0::aN 20 [.nils,.con tI,.var tI]),cd⟩,exits:=[(.exit 0,⟨68,aN 2 (.box 10 0::aN 20 [.nils,.con tI]),cd⟩,[])]}
def vu (ρ:Type):ä ρ:=⟨[6,1],41,0,vv,fun(p:Val (tyL vv.cs)) (v:Val tI) a b=>qV p.1 v (fun c=>a c) (b 0)⟩
def NZ:List (Nat×â):=[(43,ł),(53,gM),(54,l5),(77,Ř),(79,oi),(80,AQ),(94,Ct),(96,qJ),(97,lu),(108,Ō)]
def w7 (ρ:Type):List (ä ρ):=[vw ρ,vu ρ]
def kF (ρ:Type):Env ρ:={æ NZ (w7 ρ) with hint:=GQ [(34,94),(56,94)]}
def QE:â:=⟨[Ä,Î],[Ä,tI],fun(x:Val aL)=>nE x.1 x.2⟩
def EG:Ç:={pin:=8,cs:=[tI,tI,tI,ae,aa,af,ac,aa,tI,tI,ab,ab,tI,tI,tI,tI,tI,tI,tI,tI,ae,aa,af,ac,aa,tI,tI,tI,tI,ac,tI,tI,ae,aa,af,aa],vs:=[tI,ac],head:=⟨50,.any::.box 8 0::.box 9 0::.own 10::aN 21 [.own 10,.con tI,.var tI],ce⟩,exits:=[(.exit 0,⟨50,.any::.box 8 0::.box 9 0::.own 10::aN 21 [.own 10,.con tI],ce⟩,[ac])]}
def EF (ρ:Type):ä ρ:=⟨[2,2,4,1],186,0,EG,fun(p:Val (tyL EG.cs)) (v:Val (.pair tI ac)) a b=>uC p.1 v.1 v.2 (fun c d=>a (c,d)) (b 0)⟩
def Xv:List (Nat×â):=[(43,ł)]
def If (ρ:Type):List (ä ρ):=[EF ρ]
def GB (ρ:Type):Env ρ:=æ Xv (If ρ)
def TY:â:=⟨[Ä,Î,Ã],[Ã,tI],fun(x:Val (.pair Ä (.pair Î Ã)))=>sY x.1 x.2.1 x.2.2⟩
def UU:List (Nat×â):=[(243,FN),(244,KA),(245,Ky),(246,QA)]
def Eb (ρ:Type):List (ä ρ):=[]
def LU (ρ:Type):Env ρ:=æ UU (Eb ρ)
def KB:â:=⟨[Ä,Î],[Ã,tI],fun(x:Val aL)=>uP x.1 x.2⟩
def OA:List (Nat×â):=[(74,JG),(118,Cu),(167,QE),(183,yc),(205,wm),(215,TY)]
def xz (ρ:Type):List (ä ρ):=[]
def EH (ρ:Type):Env ρ:=æ OA (xz ρ)
def TX:â:=⟨[Ä,tI],[Î,tI],fun(x:Val aS)=>Fc x.1 x.2⟩
def UT:List (Nat×â):=[(43,ł)]
def Ea (ρ:Type):List (ä ρ):=[]
def LR (ρ:Type):Env ρ:=æ UT (Ea ρ)
def YM:â:=⟨[Ä,tI],[Ã,tI],fun(x:Val aS)=>JW x.1 x.2⟩
def Xw:List (Nat×â):=[(208,QB),(217,TX)]
def Ih (ρ:Type):List (ä ρ):=[]
def Py (ρ:Type):Env ρ:=æ Xw (Ih ρ)
def Hw:â:=⟨[ab,ak,(.ptr Î)],[tI],fun(x:Val (.pair ab (.pair ak (.ptr Î))))=>mM x.1 x.2.1 x.2.2⟩
def KY:List (Nat×â):=[(50,iT)]
def vq (ρ:Type):List (ä ρ):=[]
def zH (ρ:Type):Env ρ:=æ KY (vq ρ)
def Hv:â:=⟨[tI,tI,ak,(.ptr tI),aV,(.ptr tI)],[ğ],fun(x:Val (.pair tI (.pair tI (.pair ak (.pair (.ptr tI) (.pair aV (.ptr tI)))))))=>mL x.1 x.2.1 x.2.2.1 x.2.2.2.1 x.2.2.2.2.1 x.2.2.2.2.2⟩
def KX:List (Nat×â):=[(52,iD)]
def vp (ρ:Type):List (ä ρ):=[]
def zG (ρ:Type):Env ρ:=æ KX (vp ρ)
def FL:â:=⟨[ak,Ã,Î],[ŭ,tI],fun(x:Val (.pair ak aX))=>sU x.1 x.2.1 x.2.2⟩
def wI:Ç:={pin:=0,cs:=[tI,ab,ab,aa,ai,tI,tI,tI,tI,tI,ab,ab,tI,tI,tI,tI,tI,tI,tI,tI,tI,tI,tI,tI,tI,tI,tI,tI,tI,tI,ae,aa,af,ac,aa,tI],vs:=[tI,ai],head:=⟨127,aN 4 (.box 0 0::.box 1 0::.box 2 0::.any::.box 3 0::aN 2 (.con tI::.box 4 0::.any::.con ab::.con ab::aN 2 (.con aa::.any::.box 5 0::aN 65 [.con ai,.con tI,.var tI]))),[bq,bp,bj,bq,bq,bG,.rowv ğ]⟩,exits:=[(.exit 0,⟨127,aN 4 (.box 0 0::.box 1 0::.box 2 0::.any::.box 3 0::aN 2 (.con tI::.box 4 0::.any::.con ab::.con ab::aN 2 (.con aa::.any::.box 5 0::aN 65 [.con ai,.con tI]))),[bq,bp,bj,bq,bq,bG,.rowv ğ]⟩,[ai])]}
def wH (ρ:Type):ä ρ:=⟨[],98,0,wI,fun(p:Val (tyL wI.cs)) (v:Val Ð) a b=>kB p.1 p.2.2.2.1 p.2.2.2.2.1 p.2.2.2.2.2.1 v.1 v.2 (fun c d=>a (c,d)) (b 0)⟩
def Q0:List (Nat×â):=[(50,iT),(77,Ř),(114,FO),(166,KB),(167,QE),(168,YM),(169,Hw),(170,Hv)]
def zF (ρ:Type):List (ä ρ):=[wH ρ]
def pV (ρ:Type):Env ρ:={æ Q0 (zF ρ) with hint:=GQ [(110,169),(113,169),(120,170),(123,170)]}
def tq:â:=⟨[ğ],[ab],fun(x:Val ğ)=>iq x⟩
def I0:List (Nat×â):=[]
def sa (ρ:Type):List (ä ρ):=[]
def wL (ρ:Type):Env ρ:=æ I0 (sa ρ)
def O7:â:=⟨[ğ,tI],[tI],fun(x:Val (.pair ğ tI))=>sW x.1 x.2⟩
def Q2:List (Nat×â):=[]
def zI (ρ:Type):List (ä ρ):=[]
def HF (ρ:Type):Env ρ:=æ Q2 (zI ρ)
def qH:â:=⟨[ŭ,tI],[Ã],fun(x:Val (.pair ŭ tI))=>Ŏ x.1 x.2⟩
def FU:List (Nat×â):=[(172,O7)]
def pG (ρ:Type):List (ä ρ):=[]
def uZ (ρ:Type):Env ρ:=æ FU (pG ρ)
def qI:â:=⟨[ŭ,ab],[ab],fun(x:Val (.pair ŭ ab))=>ju x.1 x.2⟩
def ov:Ç:={pin:=0,cs:=[tI,ab,tI,tI,tI,tI,tI,tI,tI,tI,tI,tI],vs:=[tI,ab],head:=⟨48,aN 2 (.box 0 0::aN 2 (.own 1::.any::.con tI::.var tI::aN 7 [.con ab,.con tI,.con tI])),bR⟩,exits:=[(.exit 2,⟨48,aN 2 (.box 0 0::aN 2 (.own 1::.any::.con tI::aN 8 [.con ab,.con tI,.con tI])),bR⟩,[ab])]}
def ou (ρ:Type):ä ρ:=⟨[],106,2,ov,fun(p:Val (tyL ov.cs)) (v:Val az) a b=>gP p.1 p.2.2.2.2.1 p.2.2.2.2.2.1 v.1 v.2 (fun c d=>a (c,d)) (b 0)⟩
def ox:Ç:={pin:=0,cs:=[ab,tI,tI,tI,tI,tI,tI,tI,tI,tI],vs:=[tI,ab],head:=⟨48,aN 2 (.box 0 0::aN 2 (.own 1::aN 10 [.con ab,.con tI,.var tI])),bR⟩,exits:=[(.exit 0,⟨48,aN 2 (.box 0 0::aN 2 (.own 1::aN 10 [.con ab,.con tI])),bR⟩,[ab])]}
def ow (ρ:Type):ä ρ:=⟨[],106,0,ox,fun(p:Val (tyL ox.cs)) (v:Val az) a b=>jb p.1 p.2.1 p.2.2.1 p.2.2.2.1 v.1 v.2 (fun c d=>a (c,d)) (b 0)⟩
def FV:List (Nat×â):=[]
def pH (ρ:Type):List (ä ρ):=[ou ρ,ow ρ]
def jz (ρ:Type):Env ρ:=æ FV (pH ρ)
def wj:â:=⟨[ŭ],[tI],fun(x:Val ŭ)=>kK x⟩
def nh:Ç:={pin:=0,cs:=[ab,tI,tI,tI,tI,tI,tI,tI,tI,tI],vs:=[tI,tI],head:=⟨34,.any::.box 0 0::.any::.var tI::aN 12 [.con ab,.con tI,.var tI],[bj]⟩,exits:=[(.exit 0,⟨34,.any::.box 0 0::.any::.var tI::aN 12 [.con ab,.con tI],[bj]⟩,[tI])]}
def ng (ρ:Type):ä ρ:=⟨[],99,0,nh,fun(p:Val (tyL nh.cs)) (v:Val Ã) a b=>let A:=p.2.2.2.2;iN p.1 p.2.1 p.2.2.1 p.2.2.2.1 A.1 A.2.1 A.2.2.1 A.2.2.2.1 A.2.2.2.2.1 A.2.2.2.2.2 v.1 v.2 (fun c d=>a (c,d)) (b 0)⟩
def CN:List (Nat×â):=[(100,ŗ),(101,tq),(105,qH),(106,qI)]
def oq (ρ:Type):List (ä ρ):=[ng ρ]
def lI (ρ:Type):Env ρ:=æ CN (oq ρ)
def TQ:â:=⟨[Ä,Ã,Î],[tI,tI],fun(x:Val (.pair Ä aX))=>xI x.1 x.2.1 x.2.2⟩
def zK:Ç:={pin:=4,cs:=[tI,tI,tI,ae,aa,af,ac,aa,tI,tI,tI,tI,ab,ab,tI,tI,tI,tI,aa],vs:=[tI,tI,tI,ae,aa,af,ac,aa],head:=⟨68,aN 2 (.box 4 0::aN 20 [.own 3,.con tI,.var tI]),cf⟩,exits:=[(.ret,⟨68,aN 2 (.box 4 0::.any::.nilp::.var tI::aN 17 [.own 3,.con tI]),cf⟩,[tI,tI,tI,ae,aa,af,ac,aa]),(.exit 0,⟨68,aN 2 (.box 4 0::aN 20 [.own 3,.con tI]),cf⟩,[tI,tI,ae,aa,af,ac,aa])]}
def zJ (ρ:Type):ä ρ:=⟨[1,3],41,0,zK,fun(p:Val (tyL zK.cs)) (v:Val aE) b a=>wN p.1 p.2.2.2.2.2.2.2.2.2.2.2.2.2.2.2.2.2.2 v.1 v.2.1 v.2.2.1 v.2.2.2.1 v.2.2.2.2.1 v.2.2.2.2.2.1 v.2.2.2.2.2.2.1 v.2.2.2.2.2.2.2 (fun c d e f g h i j=>b (c,d,e,f,g,h,i,j)) (a 0) (a 1)⟩
def Uv:List (Nat×â):=[(43,ł),(53,gM),(54,l5),(77,Ř),(98,FL),(99,wj),(108,Ō)]
def Dw (ρ:Type):List (ä ρ):=[zJ ρ]
def Bx (ρ:Type):Env ρ:=æ Uv (Dw ρ)
def Cs:â:=⟨[tI],[tI],fun(x:Val tI)=>kL x⟩
def I2:List (Nat×â):=[]
def sj (ρ:Type):List (ä ρ):=[]
def wO (ρ:Type):Env ρ:=æ I2 (sj ρ)
def Cr:â:=⟨[ğ,tI],[ab],fun(x:Val (.pair ğ tI))=>ir x.1 x.2⟩
def I1:List (Nat×â):=[]
def sc (ρ:Type):List (ä ρ):=[]
def wM (ρ:Type):Env ρ:=æ I1 (sc ρ)
def Kt:â:=⟨[Ä,Ã,Ã,Î],[.bool,tI],fun(x:Val (.pair Ä (.pair Ã aX)))=>o8 x.1 x.2.1 x.2.2.1 x.2.2.2⟩
def Ζ:Ç:={pin:=5,cs:=[tI,tI,tI,ae,aa,af,ac,aa,tI,tI,tI,tI,tI,tI,ab,ab,tI,tI,tI,tI,aa],vs:=[tI,tI,tI,ae,aa,af,ac,aa],head:=⟨68,aN 2 (.box 5 0::aN 20 [.own 4,.con tI,.var tI]),cg⟩,exits:=[(.ret,⟨68,aN 2 (.box 5 0::.any::.nilp::.var tI::aN 17 [.own 4,.con tI]),cg⟩,[tI,tI,tI,ae,aa,af,ac,aa]),(.exit 0,⟨68,aN 2 (.box 5 0::aN 20 [.own 4,.con tI]),cg⟩,[tI,tI,ae,aa,af,ac,aa])]}
def mX (ρ:Type):ä ρ:=⟨[1,3],41,0,Ζ,fun(p:Val ax) (v:Val aE) b a=>qS p.1 p.2.2.2.2.2.2.2.2.2.2.2.2.2.2.2.2.2.2.2.2 v.1 v.2.1 v.2.2.1 v.2.2.2.1 v.2.2.2.2.1 v.2.2.2.2.2.1 v.2.2.2.2.2.2.1 v.2.2.2.2.2.2.2 (fun c d e f g h i j=>b (c,d,e,f,g,h,i,j)) (a 0) (a 1)⟩
def Ε:Ç:={pin:=12,cs:=[ab,tI,tI,tI,ae,aa,af,ac,aa,tI,tI,tI,tI,tI,tI,ab,ab,tI,tI,tI,tI,aa,tI,tI,ae,aa,af,ac,aa,tI,ai,tI,tI,tI,tI,tI,tI,tI,tI,ar,ar,ar],vs:=[tI],head:=⟨19,.con ab::.fn 104 [(8,0),(2,0)]::aN 5 [.con tI,.var tI],ci⟩,exits:=[(.ret,⟨19,[.con ab,.fn 104 [(8,0),(2,0)],.any,.any,.var tI,.any,.any,.con tI],ci⟩,[tI]),(.exit 0,⟨19,.con ab::.fn 104 [(8,0),(2,0)]::aN 5 [.con tI],ci⟩,[])]}
def mW (ρ:Type):ä ρ:=⟨[18,4,1,2],115,0,Ε,fun(p:Val aq) (v:Val tI) b a=>let A:=p.2.2.2.2.2.2.2.2.2.2.2;let B:=A.2.2.2.2.2.2.2.2.2.2.2.2.2.2.2.2.2.2.2.2;let C:=B.2.2.2.2;l8 p.1 p.2.1 A.1 A.2.1 B.1 B.2.1 B.2.2.1 B.2.2.2.1 C.1 C.2.1 C.2.2.1 C.2.2.2.1 v (fun c=>b c) (a 0) (a 1)⟩
def zM:List (Nat×â):=[(43,ł),(53,gM),(54,l5),(77,Ř),(93,AP),(98,FL),(100,ŗ),(101,tq),(102,Cs),(103,Cr),(105,qH),(106,qI),(108,Ō)]
def oP (ρ:Type):List (ä ρ):=[mX ρ,mW ρ]
def qR:List adP:=[⟨[],38,0,4⟩]
def č (ρ:Type):Env ρ:={æ zM (oP ρ) with hint:=GQ [(51,102),(55,102)]}
def tP (ρ:Type):Env ρ:={{afy zM (oP ρ) qR with loops:=Vb (č ρ) qR} with hint:=GQ [(51,102),(55,102)]}
def AR:â:=⟨[Ð,ab],[tI],fun(x:Val aW)=>o9 x.1 x.2⟩
def Jb:Ç:={pin:=1,cs:=[ab,tI,tI,ai],vs:=[tI],head:=⟨19,.con ab::.fn 213 [(0,0)]::aN 5 [.con tI,.var tI],[br]⟩,exits:=[(.ret,⟨19,[.con ab,.fn 213 [(0,0)],.any,.any,.var tI,.any,.any,.con tI],[br]⟩,[tI]),(.exit 0,⟨19,.con ab::.fn 213 [(0,0)]::aN 5 [.con tI],[br]⟩,[])]}
def vB (ρ:Type):ä ρ:=⟨[3,2,1,2],115,0,Jb,fun(p:Val (.pair ab aK)) (v:Val tI) b a=>l9 p.1 p.2.1 p.2.2.2 v (fun c=>b c) (a 0) (a 1)⟩
def N2:List (Nat×â):=[]
def xb (ρ:Type):List (ä ρ):=[vB ρ]
def tW (ρ:Type):Env ρ:=æ N2 (xb ρ)
def Qy:â:=⟨[Ð,tI,ab],[tI,tI,.bool],fun(x:Val (.pair Ð az))=>E7 x.1 x.2.1 x.2.2⟩
def Rg:Ç:={pin:=0,cs:=[ab,tI,tI,ai],vs:=[tI,tI,tI],head:=⟨37,.any::.var tI::.any::.box 0 0::aN 5 [.var tI,.any,.any,.any,.con ab,.con tI,.var tI],[br]⟩,exits:=[(.ret,⟨37,aN 3 (.box 0 0::aN 2 (.var tI::.var tI::.var .bool::aN 4 [.con ab,.con tI])),[br]⟩,[tI,tI,.bool]),(.exit 0,⟨37,.any::.var tI::.any::.box 0 0::aN 5 [.var tI,.any,.any,.any,.con ab,.con tI],[br]⟩,[tI,tI])]}
def DJ (ρ:Type):ä ρ:=⟨[],156,0,Rg,fun(p:Val (.pair ab aK)) (v:Val ğ) b a=>tV p.1 p.2.1 p.2.2.2 v.1 v.2.1 v.2.2 (fun c d e=>b (c,d,e)) (a 0) (a 1)⟩
def W8:List (Nat×â):=[]
def HM (ρ:Type):List (ä ρ):=[DJ ρ]
def Gg (ρ:Type):Env ρ:=æ W8 (HM ρ)
def zr:â:=⟨[Ð,ab],[tI],fun(x:Val aW)=>me x.1 x.2⟩
def Gm:List (Nat×â):=[(146,oj),(155,AR),(156,Qy)]
def qj (ρ:Type):List (ä ρ):=[]
def vD (ρ:Type):Env ρ:=æ Gm (qj ρ)
def zq:â:=⟨[ι],[tI],fun(x:Val ι)=>md x⟩
def Ga:List (Nat×â):=[(43,ł),(77,Ř),(81,zr)]
def qe (ρ:Type):List (ä ρ):=[]
def vt (ρ:Type):Env ρ:=æ Ga (qe ρ)
def zt:â:=⟨[Ð,tI,tI,ab],[tI,tI],fun(x:Val (.pair Ð (.pair tI az)))=>jv x.1 x.2.1 x.2.2.1 x.2.2.2⟩
def Gn:List (Nat×â):=[(146,oj),(155,AR),(156,Qy),(173,JF)]
def qk (ρ:Type):List (ä ρ):=[]
def vE (ρ:Type):Env ρ:=æ Gn (qk ρ)
def tr:â:=⟨[ι],[tI],fun(x:Val ι)=>kM x⟩
def I8:List (Nat×â):=[(43,ł),(53,gM),(77,Ř),(107,zt)]
def sm (ρ:Type):List (ä ρ):=[]
def wZ (ρ:Type):Env ρ:=æ I8 (sm ρ)
def iy:â:=⟨[ae,Ï],[tI],fun(x:Val (.pair ae Ï))=>Š x.1 x.2⟩
def ż:Ç:={pin:=0,cs:=[ae,tI,tI,tI,tI,tI,tI,tI,tI,tI],vs:=[tI],head:=⟨19,[.con ae,.any,.any,.box 0 0,.any,.any,.any,.con tI,.var tI],[bj]⟩,exits:=[(.ret,⟨19,[.con ae,.any,.any,.box 0 0,.var tI,.any,.any,.con tI],[bj]⟩,[tI]),(.exit 0,⟨19,[.con ae,.any,.any,.box 0 0,.any,.any,.any,.con tI],[bj]⟩,[])]}
def Ż (ρ:Type):ä ρ:=⟨[],233,0,ż,fun(p:Val (tyL ż.cs)) (v:Val tI) b a=>let A:=p.2.2.2.2;ÿ p.1 p.2.1 p.2.2.1 p.2.2.2.1 A.1 A.2.1 A.2.2.1 A.2.2.2.1 A.2.2.2.2.1 A.2.2.2.2.2 v (fun c=>b c) (a 0) (a 1)⟩
def kX:List (Nat×â):=[]
def Ξ (ρ:Type):List (ä ρ):=[Ż ρ]
def ņ (ρ:Type):Env ρ:=æ kX (Ξ ρ)
def ξ:â:=⟨[ae,Ï],[.bool],fun(x:Val (.pair ae Ï))=>Ě x.1 x.2⟩
def jJ:List (Nat×â):=[(233,iy)]
def Ũ (ρ:Type):List (ä ρ):=[]
def ž (ρ:Type):Env ρ:=æ jJ (Ũ ρ)
def jo:â:=⟨[aa,Ã],[tI],fun(x:Val aY)=>ζ x.1 x.2⟩
def mn:Ç:={pin:=0,cs:=[aa,tI,tI,tI],vs:=[tI],head:=⟨19,[.con aa,.any,.any,.box 0 0,.any,.any,.any,.con tI,.var tI],[bq]⟩,exits:=[(.ret,⟨19,[.con aa,.any,.any,.box 0 0,.var tI,.any,.any,.con tI],[bq]⟩,[tI]),(.exit 0,⟨19,[.con aa,.any,.any,.box 0 0,.any,.any,.any,.con tI],[bq]⟩,[])]}
def gY (ρ:Type):ä ρ:=⟨[],235,0,mn,fun(p:Val (.pair aa ğ)) (v:Val tI) b a=>Ĕ p.1 p.2.1 p.2.2.1 p.2.2.2 v (fun c=>b c) (a 0) (a 1)⟩
def nr:List (Nat×â):=[]
def iz (ρ:Type):List (ä ρ):=[gY ρ]
def Ű (ρ:Type):Env ρ:=æ nr (iz ρ)
def iK:â:=⟨[aa,Ã],[.bool],fun(x:Val aY)=>Ė x.1 x.2⟩
def lH:List (Nat×â):=[(235,jo)]
def υ (ρ:Type):List (ä ρ):=[]
def gZ (ρ:Type):Env ρ:=æ lH (υ ρ)
def iS:â:=⟨[af,Ł],[tI],fun(x:Val (.pair af Ł))=>Ŵ x.1 x.2⟩
def ς:Ç:={pin:=0,cs:=[af,tI,tI,tI,tI,tI],vs:=[tI],head:=⟨19,[.con af,.any,.any,.box 0 0,.any,.any,.any,.con tI,.var tI],[bm]⟩,exits:=[(.ret,⟨19,[.con af,.any,.any,.box 0 0,.var tI,.any,.any,.con tI],[bm]⟩,[tI]),(.exit 0,⟨19,[.con af,.any,.any,.box 0 0,.any,.any,.any,.con tI],[bm]⟩,[])]}
def π (ρ:Type):ä ρ:=⟨[],237,0,ς,fun(p:Val (tyL ς.cs)) (v:Val tI) b a=>ć p.1 p.2.1 p.2.2.1 p.2.2.2.1 p.2.2.2.2.1 p.2.2.2.2.2 v (fun c=>b c) (a 0) (a 1)⟩
def mq:List (Nat×â):=[]
def gO (ρ:Type):List (ä ρ):=[π ρ]
def Ş (ρ:Type):Env ρ:=æ mq (gO ρ)
def gX:â:=⟨[af,Ł],[.bool],fun(x:Val (.pair af Ł))=>Ĉ x.1 x.2⟩
def kv:List (Nat×â):=[(237,iS)]
def Ž (ρ:Type):List (ä ρ):=[]
def χ (ρ:Type):Env ρ:=æ kv (Ž ρ)
def YI:â:=⟨[Ä,Ä],[.bool],fun(x:Val (.pair Ä Ä))=>EZ x.1 x.2⟩
def Dr:Ç:={pin:=0,cs:=[ae,tI,tI,tI,ae,aa,af,ac,aa,tI,tI,ae,aa,af,ac,aa],vs:=[tI,ao],head:=⟨87,aN 2 (.box 0 0::.box 1 0::.any::.box 2 0::aN 10 [.con ae,.con tI,.var tI]),[bi,bi,bH,.mapv tI .bool]⟩,exits:=[(.exit 0,⟨87,aN 2 (.box 0 0::.box 1 0::.any::.box 2 0::aN 10 [.con ae,.con tI]),[bi,bi,bH,.mapv tI .bool]⟩,[ao])]}
def Dq (ρ:Type):ä ρ:=⟨[],55,0,Dr,fun(p:Val (tyL Dr.cs)) (v:Val (.pair tI ao)) a b=>tK p.1 p.2.1 v.1 v.2 (fun c d=>a (c,d)) (b 0)⟩
def Dk:Ç:={pin:=6,cs:=[ab,ab,tI,tI,tI,ae,aa,af,ac,aa,tI,tI,ae,aa,af,ac,aa,ao,tI,tI,ab,ab,tI,tI,tI,tI,tI,tI,ab,ab,tI,tI,tI,tI],vs:=[tI],head:=⟨26,.con ab::.con ab::aN 10 [.con tI,.var tI],cj⟩,exits:=[(.ret,⟨26,.con ab::.con ab::aN 2 (.var .bool::aN 7 [.con tI]),cj⟩,[.bool]),(.exit 0,⟨26,.con ab::.con ab::aN 10 [.con tI],cj⟩,[])]}
def Dj (ρ:Type):ä ρ:=⟨[14,3,1,2,4,5,1,38],126,0,Dk,fun(p:Val (tyL Dk.cs)) (v:Val tI) b a=>lN p.1 p.2.1 p.2.2.1 v (fun c=>b c) (a 0) (a 1)⟩
def Di:Ç:={pin:=6,cs:=[ab,ab,tI,tI,tI,ae,aa,af,ac,aa,tI,tI,ae,aa,af,ac,aa,ao,tI,tI,ab,ab,tI,tI,tI,tI,tI,tI,ab,ab,tI,tI,tI,tI],vs:=[tI],head:=⟨26,.con ab::.con ab::aN 10 [.con tI,.var tI],cj⟩,exits:=[(.ret,⟨26,.con ab::.con ab::aN 2 (.var .bool::aN 7 [.con tI]),cj⟩,[.bool]),(.exit 0,⟨26,.con ab::.con ab::aN 10 [.con tI],cj⟩,[])]}
def Dh (ρ:Type):ä ρ:=⟨[14,3,1,2,4,5,1,45],126,0,Di,fun(p:Val (tyL Di.cs)) (v:Val tI) b a=>tJ p.1 p.2.1 p.2.2.1 v (fun c=>b c) (a 0) (a 1)⟩
def Dm:Ç:={pin:=5,cs:=[ac,tI,tI,tI,ae,aa,af,ac,aa,tI,tI,ae,aa,af,ac,aa,ao,tI,tI,ab,ab,tI,tI,tI,tI],vs:=[tI],head:=⟨19,.con ac::.fn 125 [(4,0)]::aN 5 [.con tI,.var tI],cm⟩,exits:=[(.ret,⟨19,[.con ac,.fn 125 [(4,0)],.any,.any,.var tI,.any,.any,.con tI],cm⟩,[tI]),(.exit 0,⟨19,.con ac::.fn 125 [(4,0)]::aN 5 [.con tI],cm⟩,[])]}
def Dl (ρ:Type):ä ρ:=⟨[14,3,1,2],187,0,Dm,fun(p:Val (tyL Dm.cs)) (v:Val tI) b a=>let A:=p.2.2.2.2.2.2.2.2.2.2.2.2.2.2.2.2.2;let B:=A.2.2.2.2;oM p.1 p.2.1 A.1 A.2.1 A.2.2.1 A.2.2.2.1 B.1 B.2.1 B.2.2.1 B.2.2.2 v (fun c=>b c) (a 0) (a 1)⟩
def Dp:Ç:={pin:=0,cs:=[ac,tI,tI,tI,ae,aa,af,ac,aa,tI,tI,ae,aa,af,ac,aa,ao],vs:=[tI],head:=⟨87,aN 2 (.box 0 0::.box 1 0::aN 4 (.fn 122 []::.fn 123 [(2,0)]::.fn 124 [(2,0)]::aN 18 [.con ac,.con tI,.var tI])),cn⟩,exits:=[(.ret,⟨87,aN 2 (.box 0 0::.box 1 0::.var .bool::aN 3 (.fn 122 []::.fn 123 [(2,0)]::.fn 124 [(2,0)]::aN 18 [.con ac,.con tI])),cn⟩,[.bool]),(.exit 2,⟨87,aN 2 (.box 0 0::.box 1 0::aN 4 (.fn 122 []::.fn 123 [(2,0)]::.fn 124 [(2,0)]::aN 18 [.con ac,.con tI])),cn⟩,[])]}
def Dn (ρ:Type):ä ρ:=⟨[],55,2,Dp,fun(p:Val (tyL Dp.cs)) (v:Val tI) b a=>oN p.1 p.2.1 p.2.2.2.2.2.2.2.2.2.2.2.2.2.2.1 v (fun c=>b c) (a 0) (a 1)⟩
def Dg:Ç:={pin:=6,cs:=[ae,tI,tI,tI,ae,aa,af,ac,aa,tI,tI,ae,aa,af,ac,aa,ao,ae],vs:=[tI],head:=⟨19,.con ae::.fn 189 [(5,0),(4,0)]::aN 5 [.con tI,.var tI],cp⟩,exits:=[(.ret,⟨19,[.con ae,.fn 189 [(5,0),(4,0)],.any,.any,.var tI,.any,.any,.con tI],cp⟩,[tI]),(.exit 0,⟨19,.con ae::.fn 189 [(5,0),(4,0)]::aN 5 [.con tI],cp⟩,[])]}
def Df (ρ:Type):ä ρ:=⟨[17,11,1,2,1,2],232,0,Dg,fun(p:Val (tyL Dg.cs)) (v:Val tI) b a=>oL p.1 p.2.1 p.2.2.2.2.2.2.2.2.2.2.2.2.2.2.2.2.2 v (fun c=>b c) (a 0) (a 1)⟩
def De:Ç:={pin:=8,cs:=[aa,tI,tI,tI,ae,aa,af,ac,aa,tI,tI,ae,aa,af,ac,aa,ao,ae,aa],vs:=[tI],head:=⟨19,.con aa::.fn 192 [(7,0),(6,0)]::aN 5 [.con tI,.var tI],cq⟩,exits:=[(.ret,⟨19,[.con aa,.fn 192 [(7,0),(6,0)],.any,.any,.var tI,.any,.any,.con tI],cq⟩,[tI]),(.exit 0,⟨19,.con aa::.fn 192 [(7,0),(6,0)]::aN 5 [.con tI],cq⟩,[])]}
def Dc (ρ:Type):ä ρ:=⟨[17,19,1,2,1,2],234,0,De,fun(p:Val (tyL De.cs)) (v:Val tI) b a=>jL p.1 p.2.1 p.2.2.2.2.2.2.2.2.2.2.2.2.2.2.2.2.1 p.2.2.2.2.2.2.2.2.2.2.2.2.2.2.2.2.2.2 v (fun c=>b c) (a 0) (a 1)⟩
def Db:Ç:={pin:=10,cs:=[aa,tI,tI,tI,ae,aa,af,ac,aa,tI,tI,ae,aa,af,ac,aa,ao,ae,aa,aa],vs:=[tI],head:=⟨19,.con aa::.fn 192 [(9,0),(8,0)]::aN 5 [.con tI,.var tI],cr⟩,exits:=[(.ret,⟨19,[.con aa,.fn 192 [(9,0),(8,0)],.any,.any,.var tI,.any,.any,.con tI],cr⟩,[tI]),(.exit 0,⟨19,.con aa::.fn 192 [(9,0),(8,0)]::aN 5 [.con tI],cr⟩,[])]}
def Da (ρ:Type):ä ρ:=⟨[17,27,1,2,1,2],234,0,Db,fun(p:Val (tyL Db.cs)) (v:Val tI) b a=>lM p.1 p.2.1 p.2.2.2.2.2.2.2.2.2.2.2.2.2.2.2.2.1 p.2.2.2.2.2.2.2.2.2.2.2.2.2.2.2.2.2.2.2 v (fun c=>b c) (a 0) (a 1)⟩
def C9:Ç:={pin:=12,cs:=[af,tI,tI,tI,ae,aa,af,ac,aa,tI,tI,ae,aa,af,ac,aa,ao,ae,aa,aa,af],vs:=[tI],head:=⟨19,.con af::.fn 195 [(11,0),(10,0)]::aN 5 [.con tI,.var tI],cu⟩,exits:=[(.ret,⟨19,[.con af,.fn 195 [(11,0),(10,0)],.any,.any,.var tI,.any,.any,.con tI],cu⟩,[tI]),(.exit 0,⟨19,.con af::.fn 195 [(11,0),(10,0)]::aN 5 [.con tI],cu⟩,[])]}
def C8 (ρ:Type):ä ρ:=⟨[17,35,1,2,1,2],236,0,C9,fun(p:Val (tyL C9.cs)) (v:Val tI) b a=>ķ p.1 p.2.1 p.2.2.2.2.2.2.2.2.2.2.2.2.2.2.2.2.1 p.2.2.2.2.2.2.2.2.2.2.2.2.2.2.2.2.2.2.2.2 v (fun c=>b c) (a 0) (a 1)⟩
def C7:Ç:={pin:=14,cs:=[af,tI,tI,tI,ae,aa,af,ac,aa,tI,tI,ae,aa,af,ac,aa,ao,ae,aa,aa,af,af],vs:=[tI],head:=⟨19,.con af::.fn 195 [(13,0),(12,0)]::aN 5 [.con tI,.var tI],cw⟩,exits:=[(.ret,⟨19,[.con af,.fn 195 [(13,0),(12,0)],.any,.any,.var tI,.any,.any,.con tI],cw⟩,[tI]),(.exit 0,⟨19,.con af::.fn 195 [(13,0),(12,0)]::aN 5 [.con tI],cw⟩,[])]}
def C6 (ρ:Type):ä ρ:=⟨[17,43,1,2,1,2],236,0,C7,fun(p:Val (tyL C7.cs)) (v:Val tI) b a=>Ē p.1 p.2.1 p.2.2.2.2.2.2.2.2.2.2.2.2.2.2.2.2.1 p.2.2.2.2.2.2.2.2.2.2.2.2.2.2.2.2.2.2.2.2.2 v (fun c=>b c) (a 0) (a 1)⟩
def W0:List (Nat×â):=[(190,ξ),(193,iK),(196,gX)]
def HE (ρ:Type):List (ä ρ):=[Dq ρ,Dj ρ,Dh ρ,Dl ρ,Dn ρ,Df ρ,Dc ρ,Da ρ,C8 ρ,C6 ρ]
def Δ (ρ:Type):Env ρ:=æ W0 (HE ρ)
def O8:â:=⟨[Ä,ι],[.bool,tI],fun(x:Val (.pair Ä ι))=>yx x.1 x.2⟩
def Ra:List (Nat×â):=[(25,zq),(40,tr),(43,ł),(55,YI)]
def zL (ρ:Type):List (ä ρ):=[]
def HK (ρ:Type):Env ρ:=æ Ra (zL ρ)
def Ko:â:=⟨[],[.bool],fun(_:Unit)=>õ⟩
def Nw:List (Nat×â):=[(9,Hx),(10,Qx),(12,Kv),(24,TS),(34,Hu),(35,TR),(36,Ku),(37,TQ),(38,Kt),(39,O8),(40,tr)]
def ww (ρ:Type):List (ä ρ):=[]
def CJ (ρ:Type):Env ρ:=æ Nw (ww ρ)
def Cq:â:=⟨[ak,ab,ab],[tI],fun(x:Val (.pair ak bc))=>Ρ x.1 x.2.1 x.2.2⟩
def C1:Ç:={pin:=6,cs:=[ab,tI,ak,ab,ab,am],vs:=[tI,tI],head:=⟨81,aN 3 (.box 4 0::.box 0 0::aN 3 (.var tI::aN 9 [.con ab,.con tI,.var tI])),cz⟩,exits:=[(.exit 0,⟨81,aN 3 (.box 4 0::.box 0 0::aN 3 (.var tI::aN 9 [.con ab,.con tI])),cz⟩,[tI])]}
def pR (ρ:Type):ä ρ:=⟨[4,1],117,0,C1,fun(p:Val aw) (v:Val Ã) a b=>iA p.1 p.2.1 p.2.2.1 p.2.2.2.2.2 v.1 v.2 (fun c d=>a (c,d)) (b 0)⟩
def C0:Ç:={pin:=6,cs:=[ab,tI,ak,ab,ab,am],vs:=[tI,tI],head:=⟨81,aN 3 (.box 4 0::.box 0 0::aN 3 (.var tI::aN 9 [.con ab,.con tI,.var tI])),cz⟩,exits:=[(.exit 0,⟨81,aN 3 (.box 4 0::.box 0 0::aN 3 (.var tI::aN 9 [.con ab,.con tI])),cz⟩,[tI])]}
def pQ (ρ:Type):ä ρ:=⟨[4,1,10,9],117,0,C0,fun(p:Val aw) (v:Val Ã) a b=>vl p.1 p.2.1 p.2.2.1 p.2.2.2.2.2 v.1 v.2 (fun c d=>a (c,d)) (b 0)⟩
def CY:Ç:={pin:=6,cs:=[ab,tI,ak,ab,ab,am],vs:=[tI,tI],head:=⟨81,aN 3 (.box 4 0::.box 0 0::aN 3 (.var tI::aN 9 [.con ab,.con tI,.var tI])),cz⟩,exits:=[(.exit 0,⟨81,aN 3 (.box 4 0::.box 0 0::aN 3 (.var tI::aN 9 [.con ab,.con tI])),cz⟩,[tI])]}
def pO (ρ:Type):ä ρ:=⟨[4,1,16,11],117,0,CY,fun(p:Val aw) (v:Val Ã) a b=>vk p.1 p.2.1 p.2.2.1 p.2.2.2.2.2 v.1 v.2 (fun c d=>a (c,d)) (b 0)⟩
def CX:Ç:={pin:=6,cs:=[ab,tI,ak,ab,ab,am],vs:=[tI,tI],head:=⟨81,aN 3 (.box 4 0::.box 0 0::aN 3 (.var tI::aN 9 [.con ab,.con tI,.var tI])),cz⟩,exits:=[(.exit 0,⟨81,aN 3 (.box 4 0::.box 0 0::aN 3 (.var tI::aN 9 [.con ab,.con tI])),cz⟩,[tI])]}
def pN (ρ:Type):ä ρ:=⟨[4,1,16,11,10,9],117,0,CX,fun(p:Val aw) (v:Val Ã) a b=>vh p.1 p.2.1 p.2.2.1 p.2.2.2.2.2 v.1 v.2 (fun c d=>a (c,d)) (b 0)⟩
def CV:Ç:={pin:=6,cs:=[ab,tI,ak,ab,ab,am],vs:=[tI,tI],head:=⟨81,aN 3 (.box 4 0::.box 0 0::aN 3 (.var tI::aN 9 [.con ab,.con tI,.var tI])),cz⟩,exits:=[(.exit 0,⟨81,aN 3 (.box 4 0::.box 0 0::aN 3 (.var tI::aN 9 [.con ab,.con tI])),cz⟩,[tI])]}
def pL (ρ:Type):ä ρ:=⟨[4,1,16,11,16,11],117,0,CV,fun(p:Val aw) (v:Val Ã) a b=>vg p.1 p.2.1 p.2.2.1 p.2.2.2.2.2 v.1 v.2 (fun c d=>a (c,d)) (b 0)⟩
def CU:Ç:={pin:=6,cs:=[ab,tI,ak,ab,ab,am],vs:=[tI,tI],head:=⟨81,aN 3 (.box 4 0::.box 0 0::aN 3 (.var tI::aN 9 [.con ab,.con tI,.var tI])),cz⟩,exits:=[(.exit 0,⟨81,aN 3 (.box 4 0::.box 0 0::aN 3 (.var tI::aN 9 [.con ab,.con tI])),cz⟩,[tI])]}
def pK (ρ:Type):ä ρ:=⟨[4,1,16,11,16,11,10,9],117,0,CU,fun(p:Val aw) (v:Val Ã) a b=>vf p.1 p.2.1 p.2.2.1 p.2.2.2.2.2 v.1 v.2 (fun c d=>a (c,d)) (b 0)⟩
def CS:Ç:={pin:=6,cs:=[ab,tI,ak,ab,ab,am],vs:=[tI,tI],head:=⟨81,aN 3 (.box 4 0::.box 0 0::aN 3 (.var tI::aN 9 [.con ab,.con tI,.var tI])),cz⟩,exits:=[(.exit 0,⟨81,aN 3 (.box 4 0::.box 0 0::aN 3 (.var tI::aN 9 [.con ab,.con tI])),cz⟩,[tI])]}
def pI (ρ:Type):ä ρ:=⟨[4,1,16,11,16,11,16,11],117,0,CS,fun(p:Val aw) (v:Val Ã) a b=>vd p.1 p.2.1 p.2.2.1 p.2.2.2.2.2 v.1 v.2 (fun c d=>a (c,d)) (b 0)⟩
def CT:Ç:={pin:=6,cs:=[tI,ab,tI,ak,ab,ab],vs:=[tI,tI,am],head:=⟨81,.con tI::.box 1 0::.any::.box 4 0::.box 0 0::.box 5 0::aN 5 (.var tI::aN 36 [.con ab,.con tI,.var tI]),cA⟩,exits:=[(.exit 2,⟨81,.con tI::.box 1 0::.any::.box 4 0::.box 0 0::.box 5 0::aN 5 (.var tI::aN 36 [.con ab,.con tI]),cA⟩,[tI,am])]}
def pJ (ρ:Type):ä ρ:=⟨[4,1,16,11,16,11],117,2,CT,fun(p:Val aC) (v:Val aB) a b=>ve p.1 p.2.1 p.2.2.1 p.2.2.2.1 p.2.2.2.2.1 p.2.2.2.2.2 v.1 v.2.1 v.2.2 (fun c d e=>a (c,d,e)) (b 0)⟩
def CW:Ç:={pin:=6,cs:=[tI,ab,tI,ak,ab,ab],vs:=[tI,tI,am],head:=⟨81,.con tI::.box 1 0::.any::.box 4 0::.box 0 0::.box 5 0::aN 5 (.var tI::aN 36 [.con ab,.con tI,.var tI]),cA⟩,exits:=[(.exit 2,⟨81,.con tI::.box 1 0::.any::.box 4 0::.box 0 0::.box 5 0::aN 5 (.var tI::aN 36 [.con ab,.con tI]),cA⟩,[tI,am])]}
def pM (ρ:Type):ä ρ:=⟨[4,1,16,11],117,2,CW,fun(p:Val aC) (v:Val aB) a b=>mV p.1 p.2.1 p.2.2.1 p.2.2.2.1 p.2.2.2.2.1 p.2.2.2.2.2 v.1 v.2.1 v.2.2 (fun c d e=>a (c,d,e)) (b 0)⟩
def Br:Ç:={pin:=6,cs:=[ab,tI,ak,ab,ab,am],vs:=[tI,tI],head:=⟨81,aN 3 (.box 4 0::.box 0 0::aN 3 (.var tI::aN 9 [.con ab,.con tI,.var tI])),cz⟩,exits:=[(.exit 0,⟨81,aN 3 (.box 4 0::.box 0 0::aN 3 (.var tI::aN 9 [.con ab,.con tI])),cz⟩,[tI])]}
def oJ (ρ:Type):ä ρ:=⟨[4,1,16,11,10,9,10,9],117,0,Br,fun(p:Val aw) (v:Val Ã) a b=>rZ p.1 p.2.1 p.2.2.1 p.2.2.2.2.2 v.1 v.2 (fun c d=>a (c,d)) (b 0)⟩
def Bp:Ç:={pin:=6,cs:=[ab,tI,ak,ab,ab,am],vs:=[tI,tI],head:=⟨81,aN 3 (.box 4 0::.box 0 0::aN 3 (.var tI::aN 9 [.con ab,.con tI,.var tI])),cz⟩,exits:=[(.exit 0,⟨81,aN 3 (.box 4 0::.box 0 0::aN 3 (.var tI::aN 9 [.con ab,.con tI])),cz⟩,[tI])]}
def oH (ρ:Type):ä ρ:=⟨[4,1,16,11,10,9,16,11],117,0,Bp,fun(p:Val aw) (v:Val Ã) a b=>rX p.1 p.2.1 p.2.2.1 p.2.2.2.2.2 v.1 v.2 (fun c d=>a (c,d)) (b 0)⟩
def Bq:Ç:={pin:=6,cs:=[tI,ab,tI,ak,ab,ab],vs:=[tI,tI,am],head:=⟨81,.con tI::.box 1 0::.any::.box 4 0::.box 0 0::.box 5 0::aN 5 (.var tI::aN 36 [.con ab,.con tI,.var tI]),cA⟩,exits:=[(.exit 2,⟨81,.con tI::.box 1 0::.any::.box 4 0::.box 0 0::.box 5 0::aN 5 (.var tI::aN 36 [.con ab,.con tI]),cA⟩,[tI,am])]}
def oI (ρ:Type):ä ρ:=⟨[4,1,16,11,10,9],117,2,Bq,fun(p:Val aC) (v:Val aB) a b=>rY p.1 p.2.1 p.2.2.1 p.2.2.2.1 p.2.2.2.2.1 p.2.2.2.2.2 v.1 v.2.1 v.2.2 (fun c d e=>a (c,d,e)) (b 0)⟩
def CZ:Ç:={pin:=6,cs:=[tI,ab,tI,ak,ab,ab],vs:=[tI,tI,am],head:=⟨81,.con tI::.box 1 0::.any::.box 4 0::.box 0 0::.box 5 0::aN 5 (.var tI::aN 36 [.con ab,.con tI,.var tI]),cA⟩,exits:=[(.exit 2,⟨81,.con tI::.box 1 0::.any::.box 4 0::.box 0 0::.box 5 0::aN 5 (.var tI::aN 36 [.con ab,.con tI]),cA⟩,[tI,am])]}
def pP (ρ:Type):ä ρ:=⟨[4,1],117,2,CZ,fun(p:Val aC) (v:Val aB) a b=>jA p.1 p.2.1 p.2.2.1 p.2.2.2.1 p.2.2.2.2.1 p.2.2.2.2.2 v.1 v.2.1 v.2.2 (fun c d e=>a (c,d,e)) (b 0)⟩
def Bo:Ç:={pin:=6,cs:=[ab,tI,ak,ab,ab,am],vs:=[tI,tI],head:=⟨81,aN 3 (.box 4 0::.box 0 0::aN 3 (.var tI::aN 9 [.con ab,.con tI,.var tI])),cz⟩,exits:=[(.exit 0,⟨81,aN 3 (.box 4 0::.box 0 0::aN 3 (.var tI::aN 9 [.con ab,.con tI])),cz⟩,[tI])]}
def oG (ρ:Type):ä ρ:=⟨[4,1,10,9,10,9],117,0,Bo,fun(p:Val aw) (v:Val Ã) a b=>rW p.1 p.2.1 p.2.2.1 p.2.2.2.2.2 v.1 v.2 (fun c d=>a (c,d)) (b 0)⟩
def Bm:Ç:={pin:=6,cs:=[ab,tI,ak,ab,ab,am],vs:=[tI,tI],head:=⟨81,aN 3 (.box 4 0::.box 0 0::aN 3 (.var tI::aN 9 [.con ab,.con tI,.var tI])),cz⟩,exits:=[(.exit 0,⟨81,aN 3 (.box 4 0::.box 0 0::aN 3 (.var tI::aN 9 [.con ab,.con tI])),cz⟩,[tI])]}
def oE (ρ:Type):ä ρ:=⟨[4,1,10,9,16,11],117,0,Bm,fun(p:Val aw) (v:Val Ã) a b=>rV p.1 p.2.1 p.2.2.1 p.2.2.2.2.2 v.1 v.2 (fun c d=>a (c,d)) (b 0)⟩
def Bl:Ç:={pin:=6,cs:=[ab,tI,ak,ab,ab,am],vs:=[tI,tI],head:=⟨81,aN 3 (.box 4 0::.box 0 0::aN 3 (.var tI::aN 9 [.con ab,.con tI,.var tI])),cz⟩,exits:=[(.exit 0,⟨81,aN 3 (.box 4 0::.box 0 0::aN 3 (.var tI::aN 9 [.con ab,.con tI])),cz⟩,[tI])]}
def oD (ρ:Type):ä ρ:=⟨[4,1,10,9,16,11,10,9],117,0,Bl,fun(p:Val aw) (v:Val Ã) a b=>rU p.1 p.2.1 p.2.2.1 p.2.2.2.2.2 v.1 v.2 (fun c d=>a (c,d)) (b 0)⟩
def Bj:Ç:={pin:=6,cs:=[ab,tI,ak,ab,ab,am],vs:=[tI,tI],head:=⟨81,aN 3 (.box 4 0::.box 0 0::aN 3 (.var tI::aN 9 [.con ab,.con tI,.var tI])),cz⟩,exits:=[(.exit 0,⟨81,aN 3 (.box 4 0::.box 0 0::aN 3 (.var tI::aN 9 [.con ab,.con tI])),cz⟩,[tI])]}
def oB (ρ:Type):ä ρ:=⟨[4,1,10,9,16,11,16,11],117,0,Bj,fun(p:Val aw) (v:Val Ã) a b=>rR p.1 p.2.1 p.2.2.1 p.2.2.2.2.2 v.1 v.2 (fun c d=>a (c,d)) (b 0)⟩
def Bk:Ç:={pin:=6,cs:=[tI,ab,tI,ak,ab,ab],vs:=[tI,tI,am],head:=⟨81,.con tI::.box 1 0::.any::.box 4 0::.box 0 0::.box 5 0::aN 5 (.var tI::aN 36 [.con ab,.con tI,.var tI]),cA⟩,exits:=[(.exit 2,⟨81,.con tI::.box 1 0::.any::.box 4 0::.box 0 0::.box 5 0::aN 5 (.var tI::aN 36 [.con ab,.con tI]),cA⟩,[tI,am])]}
def oC (ρ:Type):ä ρ:=⟨[4,1,10,9,16,11],117,2,Bk,fun(p:Val aC) (v:Val aB) a b=>rS p.1 p.2.1 p.2.2.1 p.2.2.2.1 p.2.2.2.2.1 p.2.2.2.2.2 v.1 v.2.1 v.2.2 (fun c d e=>a (c,d,e)) (b 0)⟩
def Bn:Ç:={pin:=6,cs:=[tI,ab,tI,ak,ab,ab],vs:=[tI,tI,am],head:=⟨81,.con tI::.box 1 0::.any::.box 4 0::.box 0 0::.box 5 0::aN 5 (.var tI::aN 36 [.con ab,.con tI,.var tI]),cA⟩,exits:=[(.exit 2,⟨81,.con tI::.box 1 0::.any::.box 4 0::.box 0 0::.box 5 0::aN 5 (.var tI::aN 36 [.con ab,.con tI]),cA⟩,[tI,am])]}
def oF (ρ:Type):ä ρ:=⟨[4,1,10,9],117,2,Bn,fun(p:Val aC) (v:Val aB) a b=>lJ p.1 p.2.1 p.2.2.1 p.2.2.2.1 p.2.2.2.2.1 p.2.2.2.2.2 v.1 v.2.1 v.2.2 (fun c d e=>a (c,d,e)) (b 0)⟩
def Bi:Ç:={pin:=6,cs:=[ab,tI,ak,ab,ab,am],vs:=[tI,tI],head:=⟨81,aN 3 (.box 4 0::.box 0 0::aN 3 (.var tI::aN 9 [.con ab,.con tI,.var tI])),cz⟩,exits:=[(.exit 0,⟨81,aN 3 (.box 4 0::.box 0 0::aN 3 (.var tI::aN 9 [.con ab,.con tI])),cz⟩,[tI])]}
def oA (ρ:Type):ä ρ:=⟨[4,1,10,9,10,9,10,9],117,0,Bi,fun(p:Val aw) (v:Val Ã) a b=>rQ p.1 p.2.1 p.2.2.1 p.2.2.2.2.2 v.1 v.2 (fun c d=>a (c,d)) (b 0)⟩
def Bf:Ç:={pin:=6,cs:=[ab,tI,ak,ab,ab,am],vs:=[tI,tI],head:=⟨81,aN 3 (.box 4 0::.box 0 0::aN 3 (.var tI::aN 9 [.con ab,.con tI,.var tI])),cz⟩,exits:=[(.exit 0,⟨81,aN 3 (.box 4 0::.box 0 0::aN 3 (.var tI::aN 9 [.con ab,.con tI])),cz⟩,[tI])]}
def oy (ρ:Type):ä ρ:=⟨[4,1,10,9,10,9,16,11],117,0,Bf,fun(p:Val aw) (v:Val Ã) a b=>rO p.1 p.2.1 p.2.2.1 p.2.2.2.2.2 v.1 v.2 (fun c d=>a (c,d)) (b 0)⟩
def Bg:Ç:={pin:=6,cs:=[tI,ab,tI,ak,ab,ab],vs:=[tI,tI,am],head:=⟨81,.con tI::.box 1 0::.any::.box 4 0::.box 0 0::.box 5 0::aN 5 (.var tI::aN 36 [.con ab,.con tI,.var tI]),cA⟩,exits:=[(.exit 2,⟨81,.con tI::.box 1 0::.any::.box 4 0::.box 0 0::.box 5 0::aN 5 (.var tI::aN 36 [.con ab,.con tI]),cA⟩,[tI,am])]}
def oz (ρ:Type):ä ρ:=⟨[4,1,10,9,10,9],117,2,Bg,fun(p:Val aC) (v:Val aB) a b=>rP p.1 p.2.1 p.2.2.1 p.2.2.2.1 p.2.2.2.2.1 p.2.2.2.2.2 v.1 v.2.1 v.2.2 (fun c d e=>a (c,d,e)) (b 0)⟩
def IW:List (Nat×â):=[(52,iD)]
def rN (ρ:Type):List (ä ρ):=[pR ρ,pQ ρ,pO ρ,pN ρ,pL ρ,pK ρ,pI ρ,pJ ρ,pM ρ,oJ ρ,oH ρ,oI ρ,pP ρ,oG ρ,oE ρ,oD ρ,oB ρ,oC ρ,oF ρ,oA ρ,oy ρ,oz ρ]
def Ú (ρ:Type):Env ρ:=æ IW (rN ρ)
def O9:â:=⟨[Ä,tI,ab,ab],[Ã,tI],fun(x:Val (.pair Ä (.pair tI bc)))=>Ę x.1 x.2.1 x.2.2.1 x.2.2.2⟩
def wY:Ç:={pin:=3,cs:=[ab,tI,tI,tI,ae,aa,af,ac,aa,ab,tI,tI],vs:=[tI],head:=⟨19,.con ab::.fn 48 [(1,0)]::aN 5 [.con tI,.var tI],[bi,bn,bq]⟩,exits:=[(.ret,⟨19,[.con ab,.fn 48 [(1,0)],.any,.any,.var tI,.any,.any,.con tI],[bi,bn,bq]⟩,[tI]),(.exit 0,⟨19,.con ab::.fn 48 [(1,0)]::aN 5 [.con tI],[bi,bn,bq]⟩,[])]}
def wX (ρ:Type):ä ρ:=⟨[4,2,1,2],115,0,wY,fun(p:Val (tyL wY.cs)) (v:Val tI) b a=>kE p.1 p.2.1 p.2.2.2.2.2.2.2.2.2.1 v (fun c=>b c) (a 0) (a 1)⟩
def wW:Ç:={pin:=4,cs:=[aa,tI,tI,tI,ae,aa,af,ac,aa,ab,tI,tI,ar],vs:=[tI,tI,tI,ae,aa,af,ac,aa],head:=⟨68,aN 2 (.box 4 0::aN 20 [.con aa,.con tI,.var tI]),cB⟩,exits:=[(.ret,⟨68,aN 2 (.box 4 0::.any::.nilp::.var tI::aN 17 [.con aa,.con tI]),cB⟩,[tI,tI,tI,ae,aa,af,ac,aa]),(.exit 0,⟨68,aN 2 (.box 4 0::aN 20 [.con aa,.con tI]),cB⟩,[tI,tI,ae,aa,af,ac,aa])]}
def wV (ρ:Type):ä ρ:=⟨[7,6],41,0,wW,fun(p:Val (tyL wW.cs)) (v:Val aE) b a=>kD p.1 p.2.1 v.1 v.2.1 v.2.2.1 v.2.2.2.1 v.2.2.2.2.1 v.2.2.2.2.2.1 v.2.2.2.2.2.2.1 v.2.2.2.2.2.2.2 (fun c d e f g h i j=>b (c,d,e,f,g,h,i,j)) (a 0) (a 1)⟩
def wU:Ç:={pin:=0,cs:=[tI,ab,ak,aa,tI,tI,tI,ae,aa,af,ac,aa,ab,tI,tI],vs:=[tI,ab],head:=⟨143,.any::.con tI::.con ab::.any::.box 0 0::aN 2 (.box 1 0::.box 2 0::aN 3 (.con ak::.any::.own 3::.nils::aN 57 [.con aa,.con tI,.var tI])),[bi,bn,bq,.rowv tI]⟩,exits:=[(.exit 0,⟨143,.any::.con tI::.con ab::.any::.box 0 0::aN 2 (.box 1 0::.box 2 0::aN 3 (.con ak::.any::.own 3::.nils::aN 57 [.con aa,.con tI])),[bi,bn,bq,.rowv tI]⟩,[ab])]}
def wT (ρ:Type):ä ρ:=⟨[],11,0,wU,fun(p:Val (tyL wU.cs)) (v:Val az) a b=>ii p.2.2.1 p.2.2.2.1 p.2.2.2.2.1 v.1 v.2 (fun c d=>a (c,d)) (b 0)⟩
def wS:Ç:={pin:=0,cs:=[ab,ak,aa,tI,tI,tI,ae,aa,af,ac,aa,ab,tI,tI,ab],vs:=[tI,ab],head:=⟨143,aN 2 (.con ab::.any::.box 0 0::aN 2 (.box 1 0::.box 2 0::aN 3 (.con ak::.any::.own 3::.own 4::aN 73 [.con aa,.con tI,.var tI]))),[bi,bn,bq,.rowc tI,.rowv tI]⟩,exits:=[(.exit 2,⟨143,aN 2 (.con ab::.any::.box 0 0::aN 2 (.box 1 0::.box 2 0::aN 3 (.con ak::.any::.own 3::.own 4::aN 73 [.con aa,.con tI]))),[bi,bn,bq,.rowc tI,.rowv tI]⟩,[ab])]}
def wR (ρ:Type):ä ρ:=⟨[],11,2,wS,fun(p:Val (tyL wS.cs)) (v:Val az) a b=>nt p.2.1 p.2.2.1 p.2.2.2.1 v.1 v.2 (fun c d=>a (c,d)) (b 0)⟩
def Re:List (Nat×â):=[(43,ł),(44,Qw),(45,Ks),(46,Kr),(49,gG),(50,iT),(51,Cq),(53,gM),(54,l5),(77,Ř),(108,Ō)]
def zP (ρ:Type):List (ä ρ):=[wX ρ,wV ρ,wT ρ,wR ρ]
def j5 (ρ:Type):Env ρ:=æ Re (zP ρ)
def TP:â:=⟨[Ä,aa],[Ä,.bool],fun(x:Val (.pair Ä aa))=>Ο x.1 x.2⟩
def Nu:Ç:={pin:=0,cs:=[aa],vs:=[tI,tI,tI,ae,aa,af,ac,aa,tI,tI,ae,aa,af,ac,aa],head:=⟨42,[.any,.con aa,.box 0 0,.any,.box 1 0,.any,.var tI],[bB,bB]⟩,exits:=[(.ret,⟨42,[.any,.con aa,.box 0 0,.any,.box 1 0,.var .bool],[bB,bB]⟩,[.bool,tI,tI,ae,aa,af,ac,aa,tI,tI,ae,aa,af,ac,aa]),(.exit 0,⟨42,[.any,.con aa,.box 0 0,.any,.box 1 0],[bB,bB]⟩,[tI,tI,ae,aa,af,ac,aa,tI,tI,ae,aa,af,ac,aa])]}
def zy (ρ:Type):ä ρ:=⟨[],13,0,Nu,fun(p:Val aa) (v:Val (.pair tI aA)) b a=>ml p v.1 v.2.1 v.2.2.1 v.2.2.2.1 v.2.2.2.2.1 v.2.2.2.2.2.1 v.2.2.2.2.2.2.1 v.2.2.2.2.2.2.2.1 v.2.2.2.2.2.2.2.2.1 v.2.2.2.2.2.2.2.2.2.1 v.2.2.2.2.2.2.2.2.2.2.1 v.2.2.2.2.2.2.2.2.2.2.2.1 v.2.2.2.2.2.2.2.2.2.2.2.2.1 v.2.2.2.2.2.2.2.2.2.2.2.2.2.1 v.2.2.2.2.2.2.2.2.2.2.2.2.2.2 (fun c d e f g h i j k l m n o q r=>b (c,d,e,f,g,h,i,j,k,l,m,n,o,q,r)) (a 0) (a 1)⟩
def Ui:List (Nat×â):=[(53,gM),(54,l5)]
def CG (ρ:Type):List (ä ρ):=[zy ρ]
def A0 (ρ:Type):Env ρ:=æ Ui (CG ρ)
def O5:â:=⟨[Ä,Ã],[tI],fun(x:Val aO)=>j8 x.1 x.2⟩
def QT:List (Nat×â):=[(53,gM)]
def zB (ρ:Type):List (ä ρ):=[]
def HA (ρ:Type):Env ρ:=æ QT (zB ρ)
def O4:â:=⟨[Ä,aa,ab,.bool],[tI,.bool],fun(x:Val (.pair Ä (.pair aa bg)))=>ġ x.1 x.2.1 x.2.2.1 x.2.2.2⟩
def wt:Ç:={pin:=0,cs:=[aa,ab,tI,tI,ae,aa,af,ac,aa],vs:=[tI,tI],head:=⟨54,.any::.con aa::.con ab::.any::.box 0 0::aN 6 [.var tI,.var tI],[bi]⟩,exits:=[(.ret,⟨54,[.any,.con aa,.con ab,.any,.box 0 0,.any,.any,.any,.var tI,.var .bool],[bi]⟩,[tI,.bool]),(.exit 0,⟨54,.any::.con aa::.con ab::.any::.box 0 0::aN 6 [.var tI],[bi]⟩,[tI])]}
def wq (ρ:Type):ä ρ:=⟨[],21,0,wt,fun(p:Val (tyL wt.cs)) (v:Val Ã) b a=>let A:=p.2.2.2.2;ō p.1 p.2.1 p.2.2.1 p.2.2.2.1 A.1 A.2.1 A.2.2.1 A.2.2.2.1 A.2.2.2.2 v.1 v.2 (fun c d=>b (c,d)) (a 0) (a 1)⟩
def QS:List (Nat×â):=[(73,O5)]
def zA (ρ:Type):List (ä ρ):=[wq ρ]
def wu (ρ:Type):Env ρ:=æ QS (zA ρ)
def rE:â:=⟨[aF,ab],[tI],fun(x:Val (.pair aF ab))=>jg x.1 x.2⟩
def vR:Ç:={pin:=0,cs:=[ab,tI],vs:=[tI],head:=⟨19,.con ab::.fn 143 []::aN 5 [.con tI,.var tI],[]⟩,exits:=[(.ret,⟨19,[.con ab,.fn 143 [],.any,.any,.var tI,.any,.any,.con tI],[]⟩,[tI]),(.exit 0,⟨19,.con ab::.fn 143 []::aN 5 [.con tI],[]⟩,[])]}
def lh (ρ:Type):ä ρ:=⟨[1,10,1,2],115,0,vR,fun(p:Val aG) (v:Val tI) b a=>gJ p.1 p.2 v (fun c=>b c) (a 0) (a 1)⟩
def zf:List (Nat×â):=[(144,i9)]
def mz (ρ:Type):List (ä ρ):=[lh ρ]
def jN (ρ:Type):Env ρ:=æ zf (mz ρ)
def YJ:â:=⟨[Ð,ab],[.bool,tI],fun(x:Val aW)=>JV x.1 x.2⟩
def Rn:Ç:={pin:=1,cs:=[ab,tI,tI,ai],vs:=[tI],head:=⟨19,.con ab::.fn 209 []::aN 5 [.con tI,.var tI],[br]⟩,exits:=[(.ret,⟨19,[.con ab,.fn 209 [],.any,.any,.var tI,.any,.any,.con tI],[br]⟩,[tI]),(.exit 0,⟨19,.con ab::.fn 209 []::aN 5 [.con tI],[br]⟩,[])]}
def DW (ρ:Type):ä ρ:=⟨[4,7,1,2],115,0,Rn,fun(p:Val (.pair ab aK)) (v:Val tI) b a=>t7 p.1 p.2.1 v (fun c=>b c) (a 0) (a 1)⟩
def DU:Ç:={pin:=0,cs:=[ab,ai,tI],vs:=[tI],head:=⟨53,.any::.con ab::aN 26 [.con ai,.con tI,.var tI],[]⟩,exits:=[(.ret,⟨53,.any::.con ab::aN 2 (.var .bool::.var tI::aN 22 [.con ai,.con tI]),[]⟩,[.bool,tI]),(.exit 0,⟨53,.any::.con ab::aN 26 [.con ai,.con tI],[]⟩,[])]}
def DT (ρ:Type):ä ρ:=⟨[],145,0,DU,fun(p:Val (tyL DU.cs)) (v:Val tI) b a=>lP p.1 p.2.1 p.2.2 v (fun c=>b c) (a 0) (a 1)⟩
def Xe:List (Nat×â):=[(146,oj)]
def HO (ρ:Type):List (ä ρ):=[DW ρ,DT ρ]
def yl (ρ:Type):Env ρ:=æ Xe (HO ρ)
def zw:â:=⟨[aF,ab],[.bool],fun(x:Val (.pair aF ab))=>mf x.1 x.2⟩
def Gv:List (Nat×â):=[(145,YJ)]
def qu (ρ:Type):List (ä ρ):=[]
def vI (ρ:Type):Env ρ:=æ Gv (qu ρ)
def YN:â:=⟨[Ä,ab],[.bool,tI],fun(x:Val (.pair Ä ab))=>kQ x.1 x.2⟩
def Xy:List (Nat×â):=[(43,ł),(74,JG),(75,rE),(76,zw)]
def Ij (ρ:Type):List (ä ρ):=[]
def Pz (ρ:Type):Env ρ:=æ Xy (Ij ρ)
def Kq:â:=⟨[tI,Ã],[.bool],fun(x:Val ğ)=>ip x.1 x.2⟩
def Ny:List (Nat×â):=[]
def wx (ρ:Type):List (ä ρ):=[]
def CL (ρ:Type):Env ρ:=æ Ny (wx ρ)
def hZ:â:=⟨[Ä,tI,ab,ab,ab,.bool],[.bool],fun(x:Val (.pair Ä (.pair tI (.pair ab (.pair ab bg)))))=>jR x.1 x.2.1 x.2.2.1 x.2.2.2.1 x.2.2.2.2.1 x.2.2.2.2.2⟩
def jZ:Ç:={pin:=0,cs:=[tI,ab,ab,ab,.bool,tI,tI,tI,tI,ae,aa,af,ac,aa,tI,tI,tI,tI],vs:=[tI,aa],head:=⟨227,.any::.con tI::.con ab::.con ab::.con ab::.con .bool::.box 0 0::aN 6 [.box 1 0,.con tI,.box 2 0,.con tI,.own 3,.var tI],[bi,bq,bq,.rowv Ã]⟩,exits:=[(.exit 0,⟨227,.any::.con tI::.con ab::.con ab::.con ab::.con .bool::.box 0 0::aN 6 [.box 1 0,.con tI,.box 2 0,.con tI,.own 3],[bi,bq,bq,.rowv Ã]⟩,[aa])]}
def jY (ρ:Type):ä ρ:=⟨[],5,0,jZ,fun(p:Val (tyL jZ.cs)) (v:Val aD) a b=>Ń p.1 p.2.1 v.1 v.2 (fun c d=>a (c,d)) (b 0)⟩
def jX:Ç:={pin:=0,cs:=[tI,ab,ab,ab,.bool,aa,tI,tI,ae,aa,af,ac,aa,tI,tI],vs:=[tI,aa],head:=⟨227,.any::.con tI::.con ab::.con ab::.con ab::.con .bool::.box 0 0::aN 8 (.box 1 0::.any::.con aa::aN 7 [.own 2,.var tI]),[bi,bq,.rowv Ã]⟩,exits:=[(.exit 2,⟨227,.any::.con tI::.con ab::.con ab::.con ab::.con .bool::.box 0 0::aN 8 (.box 1 0::.any::.con aa::aN 7 [.own 2]),[bi,bq,.rowv Ã]⟩,[aa])]}
def jW (ρ:Type):ä ρ:=⟨[],5,2,jX,fun(p:Val (tyL jX.cs)) (v:Val aD) a b=>ø p.1 p.2.2.1 v.1 v.2 (fun c d=>a (c,d)) (b 0)⟩
def vO:List (Nat×â):=[(7,YH),(8,Ko),(10,Qx),(11,O9),(13,TP),(21,O4),(22,YN),(23,Kq)]
def kq (ρ:Type):List (ä ρ):=[jY ρ,jW ρ]
def Ν (ρ:Type):Env ρ:=æ vO (kq ρ)
end Go.Proofs.ZzM
end
