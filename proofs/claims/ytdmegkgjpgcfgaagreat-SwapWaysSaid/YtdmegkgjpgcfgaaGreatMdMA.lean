/- lemmas -/
import Derived.Test.YtdmegkgjpgcfgaaGreatAmC
import Derived.Test.YtdmegkgjpgcfgaaGreatAmE
import Derived.KernelRfl
import Derived.Test.YtdmegkgjpgcfgaaGreatMdTA
import Derived.Test.YtdmegkgjpgcfgaaGreatProg
set_option linter.all false
noncomputable section
set_option maxRecDepth 100000
namespace Go.Proofs.ZzM
open Go Go.Am
def RG:Nat->Bool
  |114=>true
  |115=>true
  |140=>true
  |170=>true
  |182=>true
  |250=>true
  |251=>true
  |252=>true
  |_=>false
def aca:Nat->Bool
  |184=>true
  |_=>false
def Bw:Nat->Bool
  |249=>true
  |_=>false
def isInl:Nat->Bool
  |2=>true
  |89=>true
  |90=>true
  |94=>true
  |95=>true
  |96=>true
  |97=>true
  |99=>true
  |100=>true
  |101=>true
  |107=>true
  |108=>true
  |129=>true
  |130=>true
  |137=>true
  |138=>true
  |144=>true
  |150=>true
  |151=>true
  |152=>true
  |157=>true
  |158=>true
  |159=>true
  |167=>true
  |168=>true
  |169=>true
  |171=>true
  |174=>true
  |175=>true
  |176=>true
  |177=>true
  |178=>true
  |186=>true
  |197=>true
  |198=>true
  |200=>true
  |202=>true
  |207=>true
  |210=>true
  |211=>true
  |213=>true
  |214=>true
  |221=>true
  |222=>true
  |223=>true
  |224=>true
  |225=>true
  |229=>true
  |230=>true
  |232=>true
  |235=>true
  |237=>true
  |238=>true
  |244=>true
  |245=>true
  |246=>true
  |254=>true
  |255=>true
  |256=>true
  |257=>true
  |258=>true
  |260=>true
  |266=>true
  |267=>true
  |275=>true
  |276=>true
  |277=>true
  |278=>true
  |279=>true
  |280=>true
  |282=>true
  |283=>true
  |293=>true
  |294=>true
  |295=>true
  |298=>true
  |299=>true
  |301=>true
  |302=>true
  |304=>true
  |305=>true
  |310=>true
  |311=>true
  |314=>true
  |315=>true
  |317=>true
  |318=>true
  |321=>true
  |322=>true
  |_=>false
def isFz:Nat->Bool
  |74=>true
  |93=>true
  |_=>false
def isEat:Nat->Nat->Bool
  |104,2=>true
  |104,3=>true
  |174,25=>true
  |245,0=>true
  |_,_=>false
def anP:Do Nat->Nat->Bool
  |_,_=>false
abbrev ę {ρ:Type} (E:Env ρ) (f:Nat) (ts rs:Do Ty) (x:Val (tyL ts)) (k:Val (tyL rs)->CK ρ):CK ρ:=topK E f (aec ts x) (fun h v=>Å (aot rs h v) k)
abbrev Ls (p:Nat) (c v:Do Ty) (h:Tpl) (e:Do (Exit×Tpl×Do Ty)):Ç:=⟨p,c,v,h,e,false⟩
def Ù {ρ:Type} (pt:Do (Nat×û)) (tab:Do (ô ρ)):Env ρ :=
  {P:=Tryz.prog,eat:=isEat,clone:=RG,sort:=aca,compact:=Bw,inl:=isInl,fz:=isFz,stop:=anP,pure:=ahc pt,loops:=lJ tab}
def afv {ρ:Type} (pt:Do (Nat×û)) (tab:Do (ô ρ)) (xt:Do (Nat×agm)):Env ρ:={Ù pt tab with ext:=extT xt}
def mkEnvU {ρ:Type} (pt:Do (Nat×û)) (tab:Do (ô ρ)) (us:Do ann):Env ρ :=
  {P:=Tryz.prog,eat:=isEat,clone:=RG,sort:=aca,compact:=Bw,inl:=isInl,fz:=isFz,stop:=anP,pure:=ahc pt,loops:=afw (Ù pt tab) us}
abbrev bC:jq:=.cells [.con ab]
abbrev bD:jq:=.cells [.con tI,.con tI,.con ae,.con aa,.con af,.con ac,.con aa]
abbrev bE:jq:=.cells [.con tI,.con tI,.con tI,.con tI,.con tI,.con tI,.con tI,.con tI]
abbrev bG:jq:=.cells [.con tI,.con tI,.con tI,.con tI]
abbrev bH:jq:=.cells [.con tI]
abbrev bI:jq:=.cells [.con tI,.con tI,.con ab,.con ab,.con tI,.con tI,.con tI,.con tI]
abbrev bJ:jq:=.cells [.con tI,.con tI,.con ae,.con aa,.con af,.con ac,.con aa,.con ai]
abbrev bK:jq:=.cells [.con tI,.con ab]
abbrev bL:jq:=.cells [.omp 3]
abbrev bM:jq:=.cells [.con tI,.con tI]
abbrev bN:jq:=.cells [.con tI,.con tI,.con ae,.con aa,.con af,.con ac,.con aa,.con aa,.con tI,.own 3,.own 4]
abbrev bO:jq:=.cells [.con tI,.con tI,.con ae,.con aa,.con af,.con ac,.con aa,.con aa,.con tI,.own 2,.own 3]
abbrev bP:jq:=.cells [.con tI,.con tI,.nils,.nils,.nils,.nils,.nils]
abbrev bQ:jq:=.cells [.con tI,.con tI,.own 3,.own 4,.nils,.nils,.nils]
abbrev bR:jq:=.cells [.con tI,.con tI,.own 3,.own 4,.own 5,.nils,.nils]
abbrev bS:jq:=.cells [.con tI,.con tI,.own 3,.own 4,.own 5,.own 6,.nils]
abbrev bT:jq:=.cells [.con tI,.con tI,.own 2,.own 3,.own 4,.own 5,.own 6]
abbrev bU:jq:=.cells [.con tI,.con ak]
abbrev bV:jq:=.cells [.own 6]
abbrev bW:jq:=.cells [.var tI,.var tI,.var ae,.var aa,.var af,.var ac,.var aa,.var ai]
abbrev bX:jq:=.cells [.con ai]
abbrev bY:jq:=.cells [.own 4]
abbrev bZ:jq:=.cells [.fn 90 [(1,0)]]
abbrev b7:jq:=.cells [.con tI,.con tI,.nils,.nils,.nils,.nils,.nils,.nils]
abbrev b8:jq:=.cells [.fn 167 [(1,0)]]
abbrev b9:jq:=.cells [.fn 97 [(0,0),(1,0)]]
abbrev ca:jq:=.cells [.fn 97 [(3,0),(0,0)]]
abbrev cd:jq:=.cells [.con tI,.con tI,.own 9,.own 10,.own 11,.con ac,.own 12]
abbrev ce:jq:=.cells [.con tI,.con tI,.con tI]
abbrev cf:jq:=.cells [.var tI,.var tI,.var tI,.var tI]
abbrev cg:jq:=.cells [.nils,.nils]
abbrev ci:jq:=.cells [.own 3,.own 4]
abbrev cj:jq:=.cells [.con tI,.con tI,.con ae,.own 3,.nils,.nils,.nils]
abbrev cm:jq:=.cells [.con tI,.con tI,.con ae,.own 3,.own 4,.nils,.nils]
abbrev cn:jq:=.cells [.con tI,.con tI,.con ae,.own 3,.own 4,.own 5,.nils]
abbrev cp:jq:=.cells [.con tI,.con tI,.con ae,.own 3,.own 4,.own 5,.own 6]
abbrev cq:Do jq:=[.rowv tI]
abbrev cr:Do jq:=[bD,bG]
abbrev cu:Do jq:=[bD,bI,.rowc tI]
abbrev cw:Do jq:=[bD,bK]
abbrev cz:Do jq:=[bD,bK,bL,.mapc tI tI]
abbrev cA:Do jq:=[bD,bO,.rowv ĝ,.rowv Ã]
abbrev cB:Do jq:=[bP,bD,bR,.rowc Ö,.rowc Ã,.rowv iE]
abbrev cD:Do jq:=[bP,bD,bS,.rowc Ö,.rowc Ã,.rowc iE,.rowv Ð]
abbrev cE:Do jq:=[bP,bT,.rowc Ö,.rowc Ã,.rowc iE,.rowc Ð,.rowv Ã]
abbrev cF:Do jq:=[bU,.rowc tI,bU,bV,.rowv .bool,.rowc tI,.rowv tI]
abbrev cG:Do jq:=[bU,.rowv tI,bU,bV,.rowv .bool,.rowc tI,.rowv tI]
abbrev cH:Do jq:=[bU,.rowv tI,bU,bV,.rowv .bool,.rowv tI,.rowv tI]
abbrev cI:Do jq:=[.rowv ag,bJ]
abbrev cJ:Do jq:=[.rowc ag,bJ]
abbrev cM:Do jq:=[.rowv ag,bW]
abbrev cN:Do jq:=[bJ,bH,bJ,bZ,b7,.rowc Ð]
abbrev cO:Do jq:=[bJ,bC,b7,bJ,b8,b7,.rowc Ð]
abbrev cP:Do jq:=[bC,ca,.rowc tI,bJ]
abbrev cQ:Do jq:=[bC,ca,.rowv tI,bJ]
abbrev cR:Do jq:=[bD,bM,bP,bD,bP,.dead,cd,bP,.rowv Ð,.rowc Ö,.rowc Ã,.rowc iE,.rowc Ã]
abbrev cS:Do jq:=[.rowc ab,bU,.dead,.dead,.rowv tI]
abbrev cT:Do jq:=[bU,.rowc ag,ce,bU,.rowv tI]
abbrev cV:Do jq:=[bD,.rowv tI]
abbrev cW:Do jq:=[bD,.rowc tI,.rowv Ã]
abbrev cX:Do jq:=[bD,cg,ci,.rowv ĝ,.rowv Ã]
abbrev cY:Do jq:=[bD,bD]
abbrev cZ:Do jq:=[bJ,.rowc ag,.rowv ag]
abbrev dc:Do jq:=[bJ,bP,cn,.rowc Ã,.rowc iE,.rowv Ð]
abbrev de:Do jq:=[bJ,bP,cp,.rowc Ã,.rowc iE,.rowc Ð,.rowv Ã]
def jC:û:=⟨[ag],[ab],fun(x:b5)=>ĩ x⟩
def xE:Ç:=Ls 0 [ag,ag,tI] [tI,tI] ⟨36,.con ag::aN 2 (.var tI::aN 5 [.con ag,.con tI,.var tI]),[]⟩ [(.exit 0,⟨36,.con ag::aN 2 (.var tI::aN 5 [.con ag,.con tI]),[]⟩,[tI])]
def mH (ρ:Type):ô ρ:=⟨[],93,0,xE,fun(p:Val (.pair ag bi)) (v:a8) a b=>Τ p.2.1 p.2.2 v.1 v.2 (fun c d=>a (c,d)) (b 0)⟩
def xD:Ç:=Ls 0 [ag,tI] [tI,ab] ⟨36,aN 6 (.own 0::aN 18 [.con ag,.con tI,.var tI]),cq⟩ [(.exit 2,⟨36,aN 6 (.own 0::aN 18 [.con ag,.con tI]),cq⟩,[ab])]
def mG (ρ:Type):ô ρ:=⟨[],93,2,xD,fun(p:Val bi) (v:f4) a b=>Ĥ p.1 p.2 v.1 v.2 (fun c d=>a (c,d)) (b 0)⟩
def ψ (ρ:Type):Env ρ:=Ù [] [mH ρ,mG ρ]
def RD:an4:=⟨272,ab,ab,Cj⟩
def iG:Tpl:=⟨37,.any::.box 1 0::.box 2 0::.any::.box 3 0::aN 6 [.con ab,.con tI,.con tI],[.acc ab,.cells [.con ab],.cells [.yld],.cells [.con tI]]⟩
def ka (al:b5) (rec:an->CK (b5)) (ρ:Type):JJ ρ:=⟨[],272,2,4,[ab,tI,tI,ab,tI],[ag],iG,⟨272,ab,ab,rec⟩,fun(p:Val bg) (v:b5) y a=>ri al rec p.2.2.2.2 v y (fun b=>a b)⟩
def ů:Ç:=Ls 2 [ab,tI,ab] [tI,ag] ⟨37,.any::.box 1 0::.box 2 0::aN 8 [.con ab,.con tI,.var tI],[.acc ab,bC,.cells [.yld]]⟩ [(.exit 0,⟨37,.any::.box 1 0::.box 2 0::aN 8 [.con ab,.con tI],[.acc ab,bC,.cells [.yld]]⟩,[ag])]
def nD (al:b5) (rec:an->CK (b5)) (ρ:Type):ô ρ:=⟨[],272,0,ů,fun(p:Val bn) (v:px) a b=>rj al rec p.1 p.2.1 p.2.2 v.1 v.2 (fun c d=>a (c,d)) (b 0)⟩
def Ag (al:b5) (rec:an->CK (b5)) (ρ:Type):Do (JJ ρ):=[ka al rec ρ]
def yU (al:b5) (rec:an->CK (b5)) (ρ:Type):Do (ô ρ):=[nD al rec ρ]
def Ą (al:b5) (rec:an->CK (b5)) (ρ:Type):Env ρ:={Ù [(93,jC)] (yU al rec ρ) with ranges:=Ξ (Ag al rec ρ),yld:=some ⟨ab,al⟩}
def sc:an4:=⟨231,ai,ag,nV⟩
def Ŵ:Tpl:=⟨27,.any::.box 1 0::.box 2 0::.box 3 0::aN 11 [.con ab],[.acc ag,.cells [.con ai],.cells [.yld],.cells [.con ab]]⟩
def jc (al:a7) (rec:c9->CK (a7)) (ρ:Type):JJ ρ:=⟨[],231,2,4,[ab,ai,ab],[aj],Ŵ,⟨231,ai,ag,rec⟩,fun(p:Val br) (v:a7) y a=>nH al rec p.2.2 v y (fun b=>a b)⟩
def ŵ:Tpl:=⟨27,[.any,.box 1 0,.box 2 0],[.acc ag,.cells [.con ai],.cells [.yld]]⟩
def jd (al:a7) (rec:c9->CK (a7)) (ρ:Type):JJ ρ:=⟨[],231,0,3,[ai],[aj],ŵ,RD,fun(p:c9) (v:a7) y a=>nI al rec p v y (fun b=>a b)⟩
def vJ (al:a7) (rec:c9->CK (a7)) (ρ:Type):Do (JJ ρ):=[jc al rec ρ,jd al rec ρ]
def tx (al:a7) (rec:c9->CK (a7)) (ρ:Type):Do (ô ρ):=[]
def í (al:a7) (rec:c9->CK (a7)) (ρ:Type):Env ρ:={Ù [] (tx al rec ρ) with ranges:=Ξ (vJ al rec ρ),yld:=some ⟨ag,al⟩}
def IJ:an4:=⟨268,ab,tI,Ci⟩
def Ĝ:Ç:=Ls 2 [ab,tI,ab] [tI,ab] ⟨16,.yld::aN 4 [.con ab,.con tI,.var tI],[.acc tI,bC]⟩ [(.exit 0,⟨16,.yld::aN 4 [.con ab,.con tI],[.acc tI,bC]⟩,[ab])]
def κ (al:an) (rec:an->CK (an)) (ρ:Type):ô ρ:=⟨[],268,0,Ĝ,fun(p:Val bn) (v:f4) a b=>je al rec p.1 p.2.1 v.1 v.2 (fun c d=>a (c,d)) (b 0)⟩
def wd (al:an) (rec:an->CK (an)) (ρ:Type):Do (ô ρ):=[κ al rec ρ]
def Ď (al:an) (rec:an->CK (an)) (ρ:Type):Env ρ:={Ù [] (wd al rec ρ) with yld:=some ⟨tI,al⟩}
def nz:û:=⟨[ab,tI],[tI],fun(x:ly)=>iT x.1 x.2⟩
def zh:Ç:=Ls 0 [ab,tI,tI] [tI] ⟨19,.con ab::.con tI::aN 5 [.con tI,.var tI],[]⟩ [(.ret,⟨19,[.con ab,.con tI,.any,.any,.var tI,.any,.any,.con tI],[]⟩,[tI]),(.exit 0,⟨19,.con ab::.con tI::aN 5 [.con tI],[]⟩,[])]
def nk (ρ:Type):ô ρ:=⟨[],173,0,zh,fun(p:Val (.pair ab Ã)) (v:Int) b a=>χ p.1 p.2.1 p.2.2 v (fun c=>b c) (a 0) (a 1)⟩
def lQ (ρ:Type):Env ρ:=Ù [] [nk ρ]
def š:û:=⟨[ab,tI],[.bool],fun(x:ly)=>å x.1 x.2⟩
def nl (ρ:Type):Env ρ:=Ù [(173,nz)] []
def Xn:û:=⟨[È,Ö],[ab],fun(x:Val (.pair È Ö))=>qB x.1 x.2⟩
def YZ:Ç:=Ls 0 [ac,tI,tI,tI,ae,aa,af,ac,aa,tI,tI,tI,tI,tI,tI,tI,tI] [tI,ab] ⟨59,aN 2 (.box 0 0::.box 1 0::.any::.own 2::aN 8 [.con ac,.con tI,.var tI]),[bD,bE,.rowv tI]⟩ [(.exit 0,⟨59,aN 2 (.box 0 0::.box 1 0::.any::.own 2::aN 8 [.con ac,.con tI]),[bD,bE,.rowv tI]⟩,[ab])]
def Ix (ρ:Type):ô ρ:=⟨[],201,0,YZ,fun(p:Val (.pair ac aq)) (v:f4) a b=>yk p.1 p.2.1 p.2.2.2.2.2.2.2.2.2.1 v.1 v.2 (fun c d=>a (c,d)) (b 0)⟩
def YY:Ç:=Ls 0 [aa,tI,tI,tI,tI,tI,tI,tI,tI,tI] [tI,ab] ⟨59,aN 3 (.box 0 0::.any::.own 1::aN 32 [.con aa,.con tI,.var tI]),[bE,.rowv tI]⟩ [(.exit 2,⟨59,aN 3 (.box 0 0::.any::.own 1::aN 32 [.con aa,.con tI]),[bE,.rowv tI]⟩,[ab])]
def Iw (ρ:Type):ô ρ:=⟨[],201,2,YY,fun(p:Val aY) (v:f4) a b=>yj p.1 p.2.1 p.2.2.1 v.1 v.2 (fun c d=>a (c,d)) (b 0)⟩
def Cg (ρ:Type):Env ρ:=Ù [(92,š)] [Ix ρ,Iw ρ]
def GN:û:=⟨[È],[aa],fun(x:b6)=>sq x⟩
def Ez:Ç:=Ls 0 [ae,tI,tI,ab,tI,tI,tI,ae,aa,af,ac,aa,tI,tI,tI,tI,tI,tI,tI,tI] [tI,aa] ⟨33,.any::.box 0 0::.any::.own 1::.any::.box 2 0::aN 3 (.con ae::.con tI::.con tI::aN 5 [.con ab,.con tI,.var tI]),[bD,.rowv Ã,bE]⟩ [(.exit 2,⟨33,.any::.box 0 0::.any::.own 1::.any::.box 2 0::aN 3 (.con ae::.con tI::.con tI::aN 5 [.con ab,.con tI]),[bD,.rowv Ã,bE]⟩,[aa])]
def Ey (ρ:Type):ô ρ:=⟨[],136,2,Ez,fun(p:Val (tyL Ez.cs)) (v:pc) a b=>uA p.2.2.2.1 p.2.2.2.2.1 p.2.2.2.2.2.2.2.2.2.2.2.2.1 v.1 v.2 (fun c d=>a (c,d)) (b 0)⟩
def EB:Ç:=Ls 0 [ae,tI,tI,tI,ae,aa,af,ac,aa] [tI,aa] ⟨33,.any::.box 0 0::.any::.own 1::aN 5 [.con ae,.con tI,.var tI],[bD,.rowv Ã]⟩ [(.exit 0,⟨33,.any::.box 0 0::.any::.own 1::aN 5 [.con ae,.con tI],[bD,.rowv Ã]⟩,[aa])]
def EA (ρ:Type):ô ρ:=⟨[],136,0,EB,fun(p:Val (tyL EB.cs)) (v:pc) a b=>let A:=p.2.2.2.2;uB p.1 p.2.1 p.2.2.1 p.2.2.2.1 A.1 A.2.1 A.2.2.1 A.2.2.2.1 A.2.2.2.2 v.1 v.2 (fun c d=>a (c,d)) (b 0)⟩
def yb (ρ:Type):Env ρ:=Ù [(201,Xn)] [Ey ρ,EA ρ]
def vC:û:=⟨[Ã,tI,tI],[.bool],fun(x:ge)=>Λ x.1 x.2.1 x.2.2⟩
def Mm (ρ:Type):Env ρ:=Ù [] []
def lX:û:=⟨[tI,tI,tI],[.bool],fun(x:rm)=>Ġ x.1 x.2.1 x.2.2⟩
def Ml (ρ:Type):Env ρ:=Ù [] []
def zP:û:=⟨[tI],[.bool],fun(x:Int)=>mT x⟩
def Ro (ρ:Type):Env ρ:=Ù [(212,lX)] []
def Xm:û:=⟨[tI],[(.int .u64)],fun(x:Int)=>uM x⟩
def V5 (ρ:Type):Env ρ:=Ù [] []
def ado:û:=⟨[(.int .u64),(.int .u64)],[(.int .u64)],fun(x:Val bu)=>Sf x.1 x.2⟩
def abO:Ç:=Ls 0 [] [(.int .u64),(.int .u64)] ⟨12,[.var (.int .u64),.var (.int .u64)],[]⟩ [(.exit 0,⟨12,[.var (.int .u64)],[]⟩,[(.int .u64)])]
def Mi (ρ:Type):ô ρ:=⟨[],292,0,abO,fun(p:Unit) (v:Val bu) a b=>Cd v.1 v.2 (fun c d=>a (c,d)) (b 0)⟩
def Q9 (ρ:Type):Env ρ:=Ù [] [Mi ρ]
def GJ:û:=⟨[Ã],[.bool],fun(x:a8)=>wS x⟩
def Rb (ρ:Type):Env ρ:=Ù [(291,Xm),(292,ado)] []
def O3:û:=⟨[Ö],[.bool],fun(x:nm)=>yE x⟩
def Iv (ρ:Type):Env ρ:=Ù [(141,vC),(205,zP),(212,lX),(253,GJ)] []
def zQ:û:=⟨[È],[tI],fun(x:b6)=>Ż x⟩
def pM:Ç:=Ls 0 [ae,tI,tI,tI,ae,aa,af,ac,aa] [tI] ⟨31,.any::.box 0 0::aN 4 [.con ae,.con tI,.var tI],[bD]⟩ [(.ret,⟨31,[.any,.box 0 0,.var tI,.any,.any,.any,.con ae,.con tI],[bD]⟩,[tI]),(.exit 0,⟨31,.any::.box 0 0::aN 4 [.con ae,.con tI],[bD]⟩,[])]
def pL (ρ:Type):ô ρ:=⟨[],142,0,pM,fun(p:Val (tyL pM.cs)) (v:Int) b a=>jE p.1 p.2.1 p.2.2.2.2.1 v (fun c=>b c) (a 0) (a 1)⟩
def nQ (ρ:Type):Env ρ:=Ù [(203,O3)] [pL ρ]
def xo:û:=⟨[È],[ao],fun(x:b6)=>Ł x⟩
def Nx:Ç:=Ls 0 [ae,tI] [tI,ao] ⟨20,aN 3 (.omp 0::aN 4 [.con ae,.con tI,.var tI]),[.mapv tI Ö]⟩ [(.exit 0,⟨20,aN 3 (.omp 0::aN 4 [.con ae,.con tI]),[.mapv tI Ö]⟩,[ao])]
def za (ρ:Type):ô ρ:=⟨[],143,0,Nx,fun(p:Val (.pair ae tI)) (v:Val (.pair tI ao)) a b=>oo p.1 p.2 v.1 v.2 (fun c d=>a (c,d)) (b 0)⟩
def xY (ρ:Type):Env ρ:=Ù [] [za ρ]
def od:û:=⟨[ao,tI,tI],[tI],fun(x:Val (.pair ao Ã))=>jv x.1 x.2.1 x.2.2⟩
def zb (ρ:Type):Env ρ:=Ù [] []
def adq:û:=⟨[tI,tI,(.ptr ao)],[tI],fun(x:Val (.pair tI (.pair tI (.ptr ao))))=>ł x.1 x.2.1 x.2.2⟩
def If (ρ:Type):Env ρ:=Ù [(205,zP),(206,od)] []
def Xo:û:=⟨[È,ao,tI],[tI],fun(x:Val bz)=>ζ x.1 x.2.1 x.2.2⟩
def Iz:Ç:=Ls 2 [af,tI,tI,tI,ae,aa,af,ac,aa,tI,tI,tI,tI] [tI] ⟨19,.con af::.fn 254 [(1,0)]::aN 5 [.con tI,.var tI],cr⟩ [(.ret,⟨19,[.con af,.fn 254 [(1,0)],.any,.any,.var tI,.any,.any,.con tI],cr⟩,[tI]),(.exit 0,⟨19,.con af::.fn 254 [(1,0)]::aN 5 [.con tI],cr⟩,[])]
def uD (ρ:Type):ô ρ:=⟨[9,5,1,2],293,0,Iz,fun(p:Val (.pair af aJ)) (v:Int) b a=>let A:=p.2.2.2.2.2.2.2.2.2;lH p.1 p.2.1 A.1 A.2.1 A.2.2.1 v (fun c=>b c) (a 0) (a 1)⟩
def Iy:Ç:=Ls 2 [aa,tI,tI,tI,ae,aa,af,ac,aa,tI,tI,tI,tI] [tI] ⟨19,.con aa::.fn 255 [(1,0)]::aN 5 [.con tI,.var tI],cr⟩ [(.ret,⟨19,[.con aa,.fn 255 [(1,0)],.any,.any,.var tI,.any,.any,.con tI],cr⟩,[tI]),(.exit 0,⟨19,.con aa::.fn 255 [(1,0)]::aN 5 [.con tI],cr⟩,[])]
def uC (ρ:Type):ô ρ:=⟨[9,10,1,2],294,0,Iy,fun(p:Val (.pair aa aJ)) (v:Int) b a=>let A:=p.2.2.2.2.2.2.2.2.2;Κ p.1 p.2.1 A.1 A.2.1 A.2.2.1 v (fun c=>b c) (a 0) (a 1)⟩
def mN (ρ:Type):Env ρ:=Ù [(141,vC),(206,od),(212,lX)] [uD ρ,uC ρ]
def GO:û:=⟨[ab,ab],[ab],fun(x:u5)=>ε x.1 x.2⟩
def YU:Ç:=Ls 2 [tI,ab,ab] [tI] ⟨19,.own 1::.fn 214 [(0,0)]::aN 5 [.con tI,.var tI],[bC,.rowc tI]⟩ [(.ret,⟨19,[.own 1,.fn 214 [(0,0)],.any,.any,.var tI,.any,.any,.con tI],[bC,.rowc tI]⟩,[tI]),(.exit 0,⟨19,.own 1::.fn 214 [(0,0)]::aN 5 [.con tI],[bC,.rowc tI]⟩,[])]
def Iu (ρ:Type):ô ρ:=⟨[1,3,1,2],260,0,YU,fun(p:Val (.pair tI aS)) (v:Int) b a=>yi p.1 p.2.1 p.2.2 v (fun c=>b c) (a 0) (a 1)⟩
def YT:Ç:=Ls 2 [ab] [tI,tI,ab] ⟨42,[.own 1,.fn 214 [(0,0)],.any,.any,.any,.var tI,.var tI],[bC,.rowv tI]⟩ [(.exit 0,⟨42,[.own 1,.fn 214 [(0,0)],.any,.any,.any,.var tI],[bC,.rowv tI]⟩,[tI,ab])]
def Ir (ρ:Type):ô ρ:=⟨[1,3],213,0,YT,fun(p:an) (v:Val bh) a b=>lT p v.1 v.2.1 v.2.2 (fun c d e=>a (c,d,e)) (b 0)⟩
def Cf (ρ:Type):Env ρ:=Ù [(92,š)] [Iu ρ,Ir ρ]
def J2:û:=⟨[ab],[.bool],fun(x:an)=>nY x⟩
def Rm:Ç:=Ls 0 [ab,ab,tI] [tI] ⟨32,.con ab::aN 4 [.con ab,.con tI,.var tI],[]⟩ [(.ret,⟨32,[.con ab,.any,.var .bool,.any,.any,.con ab,.con tI],[]⟩,[.bool]),(.exit 0,⟨32,.con ab::aN 4 [.con ab,.con tI],[]⟩,[])]
def Bp (ρ:Type):ô ρ:=⟨[],172,0,Rm,fun(p:xl) (v:Int) b a=>qt p.1 p.2.1 p.2.2 v (fun c=>b c) (a 0) (a 1)⟩
def Bq (ρ:Type):Env ρ:=Ù [(212,lX)] [Bp ρ]
def Xp:û:=⟨[È,tI,tI],[iE,.bool],fun(x:nn)=>yF x.1 x.2.1 x.2.2⟩
def IB:Ç:=Ls 4 [af,tI,tI,tI,ae,aa,af,ac,aa,tI,tI,tI,tI,tI,tI] [tI] ⟨19,.con af::.fn 295 [(1,0),(2,0)]::aN 5 [.con tI,.var tI],[bD,bH,bH,bG]⟩ [(.ret,⟨19,[.con af,.fn 295 [(1,0),(2,0)],.any,.any,.var tI,.any,.any,.con tI],[bD,bH,bH,bG]⟩,[tI]),(.exit 0,⟨19,.con af::.fn 295 [(1,0),(2,0)]::aN 5 [.con tI],[bD,bH,bH,bG]⟩,[])]
def IA (ρ:Type):ô ρ:=⟨[1,3],293,0,IB,fun(p:Val (tyL IB.cs)) (v:Int) b a=>ym p.1 p.2.1 p.2.2.2.2.2.2.2.2.2.1 p.2.2.2.2.2.2.2.2.2.2.1 v (fun c=>b c) (a 0) (a 1)⟩
def K9 (ρ:Type):Env ρ:=Ù [(212,lX)] [IA ρ]
def MH:û:=⟨[È,ao,tI],[tI],fun(x:Val bz)=>Ň x.1 x.2.1 x.2.2⟩
def pf:Ç:=Ls 2 [ac,tI,tI,tI,ae,aa,af,ac,aa,tI,tI,ab,ab,tI,tI,tI,tI] [tI] ⟨19,.con ac::.fn 258 [(1,0)]::aN 5 [.con tI,.var tI],[bD,bI]⟩ [(.ret,⟨19,[.con ac,.fn 258 [(1,0)],.any,.any,.var tI,.any,.any,.con tI],[bD,bI]⟩,[tI]),(.exit 0,⟨19,.con ac::.fn 258 [(1,0)]::aN 5 [.con tI],[bD,bI]⟩,[])]
def pe (ρ:Type):ô ρ:=⟨[4,5,1,2],175,0,pf,fun(p:Val (tyL pf.cs)) (v:Int) b a=>jh p.1 p.2.1 p.2.2.2.2.2.2.2.2.2.1 v (fun c=>b c) (a 0) (a 1)⟩
def o9:Ç:=Ls 0 [ao,ab,tI,tI,tI,ab,tI,tI,tI,ae,aa,af,ac,aa,tI,tI,ab,ab,tI,tI,tI,tI,ab] [tI] ⟨140,.any::.con ao::.any::.box 0 0::aN 3 (.box 1 0::.con ab::.any::.con tI::aN 65 [.own 2,.con tI,.con tI,.any,.any,.any,.con ab,.con tI,.var tI]),cu⟩ [(.ret,⟨140,.any::.con ao::.any::.box 0 0::aN 2 (.var tI::.box 1 0::.con ab::.any::.con tI::aN 65 [.own 2,.con tI,.con tI,.any,.any,.any,.con ab,.con tI]),cu⟩,[tI]),(.exit 2,⟨140,.any::.con ao::.any::.box 0 0::aN 3 (.box 1 0::.con ab::.any::.con tI::aN 65 [.own 2,.con tI,.con tI,.any,.any,.any,.con ab,.con tI]),cu⟩,[])]
def o8 (ρ:Type):ô ρ:=⟨[],209,2,o9,fun(p:Val (tyL o9.cs)) (v:Int) b a=>let A:=p.2.2.2.2.2;jg p.1 p.2.2.1 A.1 A.2.1 A.2.2.2.2.2.2.2.2.2.2.1 v (fun c=>b c) (a 0) (a 1)⟩
def pd:Ç:=Ls 0 [ao,ab,tI,tI,tI,ae,aa,af,ac,aa,tI,tI,ab,ab,tI,tI,tI,tI,ab] [tI] ⟨140,.any::.con ao::.any::.box 0 0::aN 3 (.box 1 0::.con ab::aN 67 [.own 2,.con tI,.var tI]),cu⟩ [(.ret,⟨140,.any::.con ao::.any::.box 0 0::aN 2 (.var tI::.box 1 0::.con ab::aN 67 [.own 2,.con tI]),cu⟩,[tI]),(.exit 0,⟨140,.any::.con ao::.any::.box 0 0::aN 3 (.box 1 0::.con ab::aN 67 [.own 2,.con tI]),cu⟩,[])]
def pb (ρ:Type):ô ρ:=⟨[],209,0,pd,fun(p:Val (tyL pd.cs)) (v:Int) b a=>Ő p.1 p.2.1 p.2.2.1 p.2.2.2.2.2.2.2.2.2.2.2.1 p.2.2.2.2.2.2.2.2.2.2.2.2.2.2.2.2.2.2 v (fun c=>b c) (a 0) (a 1)⟩
def oZ:Ç:=Ls 0 [ab,tI,tI,tI,ae,aa,af,ac,aa,tI,tI,ab,ab,tI,tI,tI,tI] [tI] ⟨140,aN 3 (.box 0 0::aN 3 (.box 1 0::aN 90 [.con ab,.con tI,.var tI])),[bD,bI]⟩ [(.ret,⟨140,aN 3 (.box 0 0::aN 2 (.var tI::.box 1 0::aN 90 [.con ab,.con tI])),[bD,bI]⟩,[tI]),(.exit 4,⟨140,aN 3 (.box 0 0::aN 3 (.box 1 0::aN 90 [.con ab,.con tI])),[bD,bI]⟩,[])]
def oY (ρ:Type):ô ρ:=⟨[],209,4,oZ,fun(p:Val (tyL oZ.cs)) (v:Int) b a=>let A:=p.2.2.2.2;ŏ p.1 p.2.1 p.2.2.1 p.2.2.2.1 A.1 A.2.1 A.2.2.1 A.2.2.2.1 A.2.2.2.2.1 A.2.2.2.2.2.2.1 v (fun c=>b c) (a 0) (a 1)⟩
def Ŝ (ρ:Type):Env ρ:=Ù [(93,jC),(141,vC),(148,GO),(172,J2),(205,zP),(206,od),(212,lX),(259,Xp)] [pe ρ,o8 ρ,pb ρ,oY ρ]
def vE:û:=⟨[È],[tI],fun(x:b6)=>η x⟩
def aaF:û:=⟨[ab],[bw],fun(x:an)=>I3 x⟩
def Vi:û:=⟨[Â],[.bool],fun(x:bl)=>Cm x⟩
def zY:Ç:=Ls 0 [tI,tI,ae,aa,af,ac,aa,ai,tI,tI,ae,aa,af,ac,aa] [tI] ⟨90,[.any,.box 0 0,.any,.box 1 0,.var tI],[bJ,bD]⟩ [(.ret,⟨90,[.any,.box 0 0,.var .bool,.box 1 0],[bJ,bD]⟩,[.bool]),(.exit 0,⟨90,[.any,.box 0 0,.any,.box 1 0],[bJ,bD]⟩,[])]
def zX (ρ:Type):ô ρ:=⟨[],15,0,zY,fun(p:Val (tyL zY.cs)) (v:Int) b a=>pU p.2.2.2.2.2.2.2.2.2.2.2.2.2.1 v (fun c=>b c) (a 0) (a 1)⟩
def zW:Ç:=Ls 0 [tI,tI,ae,aa,af,ac,aa,ai,tI,tI,ae,aa,af,ac,aa] [tI] ⟨90,[.any,.box 0 0,.any,.box 1 0,.any,.var tI],[bJ,bD]⟩ [(.ret,⟨90,[.any,.box 0 0,.var .bool,.box 1 0],[bJ,bD]⟩,[.bool]),(.exit 2,⟨90,[.any,.box 0 0,.any,.box 1 0],[bJ,bD]⟩,[])]
def zV (ρ:Type):ô ρ:=⟨[],15,2,zW,fun(p:Val (tyL zW.cs)) (v:Int) b a=>my p.2.2.2.2.2.2.2.1 v (fun c=>b c) (a 0) (a 1)⟩
def s9 (ρ:Type):Env ρ:=Ù [] [zX ρ,zV ρ]
def Vj:û:=⟨[ag,tI],[.bool],fun(x:Val bi)=>Cn x.1 x.2⟩
def Pg:Ç:=Ls 0 [ag] [tI] ⟨22,.con ag::aN 4 [.var tI],[]⟩ [(.ret,⟨22,[.con ag,.any,.any,.any,.var .bool],[]⟩,[.bool]),(.exit 0,⟨22,[.con ag],[]⟩,[])]
def zZ (ρ:Type):ô ρ:=⟨[],16,0,Pg,fun(p:b5) (v:Int) b a=>pV p v (fun c=>b c) (a 0) (a 1)⟩
def Aa (ρ:Type):Env ρ:=Ù [] [zZ ρ]
def aa5:û:=⟨[È,tI,ab],[tI],fun(x:xa)=>Jm x.1 x.2.1 x.2.2⟩
def EE:Ç:=Ls 1 [ab,tI,tI,tI,ae,aa,af,ac,aa] [tI] ⟨19,.con ab::.fn 299 []::aN 5 [.con tI,.var tI],[bD]⟩ [(.ret,⟨19,[.con ab,.fn 299 [],.any,.any,.var tI,.any,.any,.con tI],[bD]⟩,[tI]),(.exit 0,⟨19,.con ab::.fn 299 []::aN 5 [.con tI],[bD]⟩,[])]
def ED (ρ:Type):ô ρ:=⟨[4,1,1,2],260,0,EE,fun(p:Val (tyL EE.cs)) (v:Int) b a=>uE p.1 p.2.1 v (fun c=>b c) (a 0) (a 1)⟩
def F4 (ρ:Type):Env ρ:=Ù [(72,vE),(143,xo),(205,zP)] [ED ρ]
def afq:û:=⟨[È,tI,tI],[.bool,tI],fun(x:nn)=>CG x.1 x.2.1 x.2.2⟩
def V8 (ρ:Type):Env ρ:=Ù [(259,Xp),(269,aa5)] []
def aaH:û:=⟨[È,ai,tI],[tI],fun(x:Val (.pair È (.pair ai tI)))=>I5 x.1 x.2.1 x.2.2⟩
def DG:Ç:=Ls 0 [ai,tI,tI,tI,ae,aa,af,ac,aa,tI,ab] [tI] ⟨104,[.any,.con ai,.con tI,.box 0 0,.any,.any,.any,.box 1 0,.var tI],cw⟩ [(.ret,⟨104,[.any,.con ai,.con tI,.box 0 0,.any,.any,.var tI,.box 1 0],cw⟩,[tI]),(.exit 0,⟨104,[.any,.con ai,.con tI,.box 0 0,.any,.any,.any,.box 1 0],cw⟩,[])]
def DF (ρ:Type):ô ρ:=⟨[],156,0,DG,fun(p:Val (tyL DG.cs)) (v:Int) b a=>oE p.2.2.2.2.2.2.2.2.2.2 v (fun c=>b c) (a 0) (a 1)⟩
def DE:Ç:=Ls 0 [ai,tI,ae,tI,tI,tI,ae,aa,af,ac,aa,tI,ab] [tI,aQ] ⟨104,.any::.con ai::.con tI::.box 0 0::aN 3 (.box 1 0::.any::.box 2 0::aN 50 [.con ae,.con tI,.var tI]),[bD,bK,bL,.mapv tI tI]⟩ [(.exit 2,⟨104,.any::.con ai::.con tI::.box 0 0::aN 3 (.box 1 0::.any::.box 2 0::aN 50 [.con ae,.con tI]),[bD,bK,bL,.mapv tI tI]⟩,[aQ])]
def DD (ρ:Type):ô ρ:=⟨[],156,2,DE,fun(p:Val (tyL DE.cs)) (v:y5) a b=>oD p.2.2.1 p.2.2.2.1 v.1 v.2 (fun c d=>a (c,d)) (b 0)⟩
def Tw:Ç:=Ls 4 [ab,tI,tI,tI,ae,aa,af,ac,aa,tI,ab,aQ] [tI] ⟨19,.con ab::.fn 223 [(2,0)]::aN 5 [.con tI,.var tI],cz⟩ [(.ret,⟨19,[.con ab,.fn 223 [(2,0)],.any,.any,.var tI,.any,.any,.con tI],cz⟩,[tI]),(.exit 0,⟨19,.con ab::.fn 223 [(2,0)]::aN 5 [.con tI],cz⟩,[])]
def DC (ρ:Type):ô ρ:=⟨[18,3,1,2],260,0,Tw,fun(p:Val aM) (v:Int) b a=>oC p.1 p.2.1 p.2.2.2.2.2.2.2.2.2.2.2 v (fun c=>b c) (a 0) (a 1)⟩
def Tv:Ç:=Ls 4 [ab,tI,tI,tI,ae,aa,af,ac,aa,tI,ab,aQ] [tI] ⟨19,.con ab::.fn 224 [(1,0),(2,0)]::aN 5 [.con tI,.var tI],cz⟩ [(.ret,⟨19,[.con ab,.fn 224 [(1,0),(2,0)],.any,.any,.var tI,.any,.any,.con tI],cz⟩,[tI]),(.exit 0,⟨19,.con ab::.fn 224 [(1,0),(2,0)]::aN 5 [.con tI],cz⟩,[])]
def DB (ρ:Type):ô ρ:=⟨[20,3,1,2],260,0,Tv,fun(p:Val aM) (v:Int) b a=>l6 p.1 p.2.1 p.2.2.2.2.2.2.2.2.2.1 p.2.2.2.2.2.2.2.2.2.2.2 v (fun c=>b c) (a 0) (a 1)⟩
def Tu:Ç:=Ls 4 [ab,tI,tI,tI,ae,aa,af,ac,aa,tI,ab,aQ] [tI] ⟨19,.con ab::.fn 225 [(0,0),(1,0)]::aN 5 [.con tI,.var tI],cz⟩ [(.ret,⟨19,[.con ab,.fn 225 [(0,0),(1,0)],.any,.any,.var tI,.any,.any,.con tI],cz⟩,[tI]),(.exit 0,⟨19,.con ab::.fn 225 [(0,0),(1,0)]::aN 5 [.con tI],cz⟩,[])]
def DA (ρ:Type):ô ρ:=⟨[24,3,1,2],260,0,Tu,fun(p:Val aM) (v:Int) b a=>let A:=p.2.2.2.2;Ņ p.1 p.2.1 p.2.2.1 p.2.2.2.1 A.1 A.2.1 A.2.2.1 A.2.2.2.1 A.2.2.2.2.1 A.2.2.2.2.2.1 v (fun c=>b c) (a 0) (a 1)⟩
def lP (ρ:Type):Env ρ:=Ù [(226,afq)] [DF ρ,DD ρ,DC ρ,DB ρ,DA ρ]
def jH:û:=⟨[Â],[tI],fun(x:bl)=>iS x⟩
def TK:Ç:=Ls 0 [ai,tI,tI,tI,tI,tI,ae,aa,af,ac,aa,ai] [tI,tI] ⟨50,.any::.box 0 0::aN 2 (.var tI::aN 15 (.con ai::.con tI::.con tI::aN 15 [.con tI,.var tI])),[bJ]⟩ [(.exit 2,⟨50,.any::.box 0 0::aN 2 (.var tI::aN 15 (.con ai::.con tI::.con tI::aN 15 [.con tI])),[bJ]⟩,[tI])]
def DL (ρ:Type):ô ρ:=⟨[],80,2,TK,fun(p:Val (.pair ai bt)) (v:a8) a b=>oF p.2.2.2.1 v.1 v.2 (fun c d=>a (c,d)) (b 0)⟩
def TL:Ç:=Ls 0 [ai,tI,tI,tI,ae,aa,af,ac,aa,ai] [tI,tI] ⟨50,.any::.box 0 0::aN 2 (.var tI::aN 15 [.con ai,.con tI,.var tI]),[bJ]⟩ [(.ret,⟨50,.any::.box 0 0::.var tI::aN 17 [.con ai,.con tI],[bJ]⟩,[tI]),(.exit 0,⟨50,.any::.box 0 0::aN 2 (.var tI::aN 15 [.con ai,.con tI]),[bJ]⟩,[tI])]
def DM (ρ:Type):ô ρ:=⟨[],80,0,TL,fun(p:Val (.pair ai aG)) (v:a8) b a=>let A:=p.2.2.2.2;tJ p.1 p.2.1 p.2.2.1 p.2.2.2.1 A.1 A.2.1 A.2.2.1 A.2.2.2.1 A.2.2.2.2.1 A.2.2.2.2.2 v.1 v.2 (fun c d=>b (c,d)) (a 0) (a 1)⟩
def xB (ρ:Type):Env ρ:=Ù [(72,vE),(156,aaH)] [DL ρ,DM ρ]
def ű:û:=⟨[aa,Ã],[tI],fun(x:Val (.pair aa Ã))=>ø x.1 x.2⟩
def nc:Ç:=Ls 0 [aa,tI,tI,tI] [tI] ⟨19,[.con aa,.any,.any,.box 0 0,.any,.any,.any,.con tI,.var tI],[bM]⟩ [(.ret,⟨19,[.con aa,.any,.any,.box 0 0,.var tI,.any,.any,.con tI],[bM]⟩,[tI]),(.exit 0,⟨19,[.con aa,.any,.any,.box 0 0,.any,.any,.any,.con tI],[bM]⟩,[])]
def ς (ρ:Type):ô ρ:=⟨[],135,0,nc,fun(p:Val (.pair aa ĝ)) (v:Int) b a=>Ĩ p.1 p.2.1 p.2.2.1 p.2.2.2 v (fun c=>b c) (a 0) (a 1)⟩
def Ş (ρ:Type):Env ρ:=Ù [] [ς ρ]
def LX:û:=⟨[bj,ab,tI],[tI],fun(x:Val (.pair bj ay))=>mf x.1 x.2.1 x.2.2⟩
def EC (ρ:Type):Env ρ:=Ù [(135,ű)] []
def afo:û:=⟨[È,Ö,tI,tI],[tI],fun(x:Val (.pair È (.pair Ö Ã)))=>CF x.1 x.2.1 x.2.2.1 x.2.2.2⟩
def Iq:Ç:=Ls 0 [tI,tI,af,tI,tI,tI,ae,aa,af,ac,aa,tI,tI,tI,tI,tI,tI,tI,tI] [tI,tI] ⟨88,aN 2 (.con tI::.con tI::.box 0 0::.box 1 0::aN 3 (.var tI::aN 7 [.con af,.con tI,.var tI])),[bD,bE]⟩ [(.exit 0,⟨88,aN 2 (.con tI::.con tI::.box 0 0::.box 1 0::aN 3 (.var tI::aN 7 [.con af,.con tI])),[bD,bE]⟩,[tI])]
def Ip (ρ:Type):ô ρ:=⟨[],247,0,Iq,fun(p:Val (tyL Iq.cs)) (v:a8) a b=>yh p.1 p.2.1 p.2.2.1 p.2.2.2.1 p.2.2.2.2.2.2.2.2.2.2.2.1 v.1 v.2 (fun c d=>a (c,d)) (b 0)⟩
def Io:Ç:=Ls 0 [tI,tI,tI,aa,tI,tI,tI,tI,tI,tI,tI,tI,tI] [tI,ab] ⟨88,aN 2 (.con tI::.con tI::.any::.box 0 0::aN 3 (.con tI::aN 3 (.own 1::aN 39 [.con aa,.con tI,.var tI]))),[bE,.rowv tI]⟩ [(.exit 2,⟨88,aN 2 (.con tI::.con tI::.any::.box 0 0::aN 3 (.con tI::aN 3 (.own 1::aN 39 [.con aa,.con tI]))),[bE,.rowv tI]⟩,[ab])]
def Im (ρ:Type):ô ρ:=⟨[],247,2,Io,fun(p:Val (tyL Io.cs)) (v:f4) a b=>yf p.1 p.2.1 p.2.2.2.1 p.2.2.2.2.1 p.2.2.2.2.2.1 v.1 v.2 (fun c d=>a (c,d)) (b 0)⟩
def Ce (ρ:Type):Env ρ:=Ù [(212,lX)] [Ip ρ,Im ρ]
def yT:û:=⟨[ao,ab],[Ã],fun(x:Val (.pair ao ab))=>jn x.1 x.2⟩
def uz (ρ:Type):Env ρ:=Ù [] []
def vB:û:=⟨[aa],[tI],fun(x:bx)=>lf x⟩
def Uv:Ç:=Ls 0 [aa,tI] [tI] ⟨15,aN 5 [.con aa,.con tI,.var tI],[]⟩ [(.ret,⟨15,[.any,.any,.var tI,.any,.any,.con aa,.con tI],[]⟩,[tI]),(.exit 0,⟨15,aN 5 [.con aa,.con tI],[]⟩,[])]
def Ex (ρ:Type):ô ρ:=⟨[],264,0,Uv,fun(p:Val bq) (v:Int) b a=>uw p.1 p.2 v (fun c=>b c) (a 0) (a 1)⟩
def FS (ρ:Type):Env ρ:=Ù [(253,GJ)] [Ex ρ]
def EX:û:=⟨[tI,tI],[Ã,tI],fun(x:a8)=>sn x.1 x.2⟩
def Ia (ρ:Type):Env ρ:=Ù [(291,Xm),(292,ado)] []
def aiR:û:=⟨[Ã,Ã],[Ã,tI],fun(x:ge)=>Zw x.1 x.2⟩
def abQ (ρ:Type):Env ρ:=Ù [(264,vB),(312,EX)] []
def GM:û:=⟨[Ã,Ã],[Ã],fun(x:ge)=>yD x.1 x.2⟩
def Bn (ρ:Type):Env ρ:=Ù [(296,aiR)] []
def adp:û:=⟨[Ã,Ã],[tI],fun(x:ge)=>Sg x.1 x.2⟩
def abP (ρ:Type):Env ρ:=Ù [] []
def Du:û:=⟨[è],[.bool],fun(x:ge)=>vq x⟩
def y0 (ρ:Type):Env ρ:=Ù [(264,vB),(320,adp)] []
def aiS:û:=⟨[Ã,Ã],[Ã,tI],fun(x:ge)=>Si x.1 x.2⟩
def abS (ρ:Type):Env ρ:=Ù [(264,vB),(312,EX)] []
def aa2:û:=⟨[è,Ã],[è,tI],fun(x:wl)=>Sh x.1 x.2⟩
def Mk:Do (Nat×û):=[(253,GJ),(313,Du),(316,aiS),(320,adp)]
def xX (ρ:Type):Do (ô ρ):=[]
def Mj:Do ann:=[⟨[3,2],314,0,4⟩]
def abR (ρ:Type):Env ρ:=Ù Mk (xX ρ)
def FU (ρ:Type):Env ρ:=mkEnvU Mk (xX ρ) Mj
def GK:û:=⟨[Ã,Ã],[è],fun(x:ge)=>qA x.1 x.2⟩
def Bm (ρ:Type):Env ρ:=Ù [(297,aa2)] []
def VB:û:=⟨[È,Ð],[è],fun(x:rx)=>wT x.1 x.2⟩
def Mn (ρ:Type):Env ρ:=Ù [(143,xo),(148,GO),(261,yT),(262,GM),(263,GK)] []
def aa4:û:=⟨[È,Ð],[Ã],fun(x:rx)=>BB x.1 x.2⟩
def Rq (ρ:Type):Env ρ:=Ù [] []
def O2:û:=⟨[tI,tI],[tI],fun(x:a8)=>wR x.1 x.2⟩
def Ra (ρ:Type):Env ρ:=Ù [] []
def afl:û:=⟨[Ã],[tI,tI],fun(x:a8)=>Od x⟩
def V6 (ρ:Type):Env ρ:=Ù [(264,vB),(265,O2)] []
def aa3:û:=⟨[Ã],[tI,tI],fun(x:a8)=>Jl x⟩
def Rf (ρ:Type):Env ρ:=Ù [(264,vB),(265,O2)] []
def afm:û:=⟨[È,Ð],[Ã],fun(x:rx)=>CE x.1 x.2⟩
def V7 (ρ:Type):Env ρ:=Ù [(215,VB),(216,aa4),(217,afl),(218,aa3)] []
def afn:û:=⟨[È],[bj],fun(x:b6)=>Oe x⟩
def Ij:Ç:=Ls 2 [tI,ab,tI,ae,tI,tI,tI,tI,ae,aa,af,ac,aa,tI,tI,ae,aa,af,ac,aa,aa,tI,tI,tI,tI,tI,tI,tI,tI,tI] [tI,ak,aa] ⟨144,.box 1 0::.any::.con tI::.box 2 0::.con ab::.con tI::.var tI::aN 24 [.con ae,.con tI,.con tI],[bD,bN,bE,.rowv ĝ,.rowv Ã]⟩ [(.exit 2,⟨144,.box 1 0::.any::.con tI::.box 2 0::.con ab::.con tI::aN 25 [.con ae,.con tI,.con tI],[bD,bN,bE,.rowv ĝ,.rowv Ã]⟩,[ak,aa])]
def Ii (ρ:Type):ô ρ:=⟨[2,1],200,2,Ij,fun(p:Val (tyL Ij.cs)) (v:u7) a b=>let A:=p.2.2.2.2.2.2.2.2.2.2.2.2.2;let B:=A.2.2.2.2;let C:=B.2.2.2.2.2;let D:=C.2.2.2.2;yd p.1 p.2.1 p.2.2.1 A.1 A.2.1 A.2.2.1 A.2.2.2.1 B.1 B.2.1 B.2.2.1 C.1 C.2.1 C.2.2.1 C.2.2.2.1 D.1 D.2.1 D.2.2.1 D.2.2.2 v.1 v.2.1 v.2.2 (fun c d e=>a (c,d,e)) (b 0)⟩
def Il:Ç:=Ls 2 [ae,tI,tI,tI,ae,aa,af,ac,aa,tI,tI,ae,aa,af,ac,aa,aa,tI] [tI,ak,aa] ⟨144,.box 1 0::aN 30 [.con ae,.con tI,.var tI],cA⟩ [(.exit 0,⟨144,.box 1 0::aN 30 [.con ae,.con tI],cA⟩,[ak,aa])]
def Ik (ρ:Type):ô ρ:=⟨[2,1],200,0,Il,fun(p:Val (tyL Il.cs)) (v:u7) a b=>let A:=p.2.2.2.2.2.2.2.2.2;let B:=A.2.2.2.2;ye p.1 p.2.1 A.1 A.2.1 A.2.2.1 A.2.2.2.1 B.1 B.2.1 B.2.2.1 B.2.2.2.1 B.2.2.2.2 v.1 v.2.1 v.2.2 (fun c d e=>a (c,d,e)) (b 0)⟩
def Ih:Ç:=Ls 2 [ac,tI,tI,tI,ae,aa,af,ac,aa,tI,tI,ae,aa,af,ac,aa,aa,tI] [tI,ak,aa] ⟨144,.box 1 0::aN 107 [.con ac,.con tI,.var tI],cA⟩ [(.exit 4,⟨144,.box 1 0::aN 107 [.con ac,.con tI],cA⟩,[ak,aa])]
def Ig (ρ:Type):ô ρ:=⟨[2,1],200,4,Ih,fun(p:Val (tyL Ih.cs)) (v:u7) a b=>let A:=p.2.2.2.2.2.2.2.2.2;let B:=A.2.2.2.2;yc p.1 p.2.1 A.1 A.2.1 A.2.2.1 A.2.2.2.1 B.1 B.2.1 B.2.2.1 B.2.2.2.1 B.2.2.2.2 v.1 v.2.1 v.2.2 (fun c d e=>a (c,d,e)) (b 0)⟩
def wB (ρ:Type):Env ρ:=Ù [(136,GN),(147,LX),(148,GO),(201,Xn),(247,afo),(248,afm)] [Ii ρ,Ik ρ,Ig ρ]
def vD:û:=⟨[È],[Ô,aa,tI],fun(x:b6)=>jw x⟩
def Mo (ρ:Type):Env ρ:=Ù [(72,vE),(132,afn)] []
def JX:û:=⟨[Â,ag,tI,tI],[tI],fun(x:rn)=>si x.1 x.2.1 x.2.2.1 x.2.2.2⟩
def abn:Ç:=Ls 0 [ag,tI,tI,tI,ae,aa,af,ac,aa,ai] [tI,tI] ⟨47,.any::.con ag::.var tI::.con tI::.box 0 0::aN 4 [.var tI],[bJ]⟩ [(.exit 0,⟨47,[.any,.con ag,.var tI,.con tI,.box 0 0],[bJ]⟩,[tI])]
def L2 (ρ:Type):ô ρ:=⟨[],105,0,abn,fun(p:ni) (v:a8) a b=>B8 p.1 p.2.1 p.2.2.2.2.2.2.2.2.2 v.1 v.2 (fun c d=>a (c,d)) (b 0)⟩
def Ph (ρ:Type):Env ρ:=Ù [(173,nz)] [L2 ρ]
def zJ:û:=⟨[ab,tI,ax,aO],[ab],fun(x:Val (.pair ab (.pair tI (.pair ax aO))))=>jT x.1 x.2.1 x.2.2.1 x.2.2.2⟩
def pK:Ç:=Ls 0 [tI,ax,aO,ab,tI] [tI,ab] ⟨28,[.any,.con tI,.con ax,.con aO,.any,.any,.any,.own 0,.any,.any,.con ab,.con tI,.var tI],cq⟩ [(.exit 0,⟨28,[.any,.con tI,.con ax,.con aO,.any,.any,.any,.own 0,.any,.any,.con ab,.con tI],cq⟩,[ab])]
def pJ (ρ:Type):ô ρ:=⟨[],183,0,pK,fun(p:Val (tyL pK.cs)) (v:f4) a b=>jD p.1 p.2.1 p.2.2.1 p.2.2.2.1 p.2.2.2.2 v.1 v.2 (fun c d=>a (c,d)) (b 0)⟩
def nB (ρ:Type):Env ρ:=Ù [(105,JX)] [pJ ρ]
def j8:û:=⟨[Â,ag],[È],fun(x:lA)=>Χ x.1 x.2⟩
def tp:Ç:=Ls 0 [ax,aO,ax,aO,aa,tI,tI,tI,tI,tI,ae,aa,af,ac,aa,tI,tI,ae] [tI,aa] ⟨123,aN 2 (.con ax::.con aO::.box 0 0::.box 1 0::.box 2 0::.fnd 183 [Â,ag]::aN 18 [.con aa,.con tI,.var tI]),[bP,bD,bQ,.rowc Ö,.rowv Ã]⟩ [(.exit 0,⟨123,aN 2 (.con ax::.con aO::.box 0 0::.box 1 0::.box 2 0::.fnd 183 [Â,ag]::aN 18 [.con aa,.con tI]),[bP,bD,bQ,.rowc Ö,.rowv Ã]⟩,[aa])]
def tk (ρ:Type):ô ρ:=⟨[],104,0,tp,fun(p:Val (tyL tp.cs)) (v:pc) a b=>lB p.1 p.2.1 p.2.2.2.2.1 p.2.2.2.2.2.1 v.1 v.2 (fun c d=>a (c,d)) (b 0)⟩
def tj:Ç:=Ls 0 [ax,aO,ax,aO,af,tI,tI,tI,tI,tI,ae,aa,af,ac,aa,tI,tI,ae,aa] [tI,af] ⟨123,aN 2 (.con ax::.con aO::.box 0 0::.box 1 0::.box 2 0::.fnd 183 [Â,ag]::aN 41 [.con af,.con tI,.var tI]),cB⟩ [(.exit 2,⟨123,aN 2 (.con ax::.con aO::.box 0 0::.box 1 0::.box 2 0::.fnd 183 [Â,ag]::aN 41 [.con af,.con tI]),cB⟩,[af])]
def ti (ρ:Type):ô ρ:=⟨[],104,2,tj,fun(p:Val (tyL tj.cs)) (v:y6) a b=>lz p.1 p.2.1 p.2.2.2.2.1 p.2.2.2.2.2.1 v.1 v.2 (fun c d=>a (c,d)) (b 0)⟩
def tg:Ç:=Ls 0 [ax,aO,ax,aO,ac,tI,tI,tI,tI,tI,ae,aa,af,ac,aa,tI,tI,ae,aa,af] [tI,ac] ⟨123,aN 2 (.con ax::.con aO::.box 0 0::.box 1 0::.box 2 0::.fnd 183 [Â,ag]::aN 64 [.con ac,.con tI,.var tI]),cD⟩ [(.exit 4,⟨123,aN 2 (.con ax::.con aO::.box 0 0::.box 1 0::.box 2 0::.fnd 183 [Â,ag]::aN 64 [.con ac,.con tI]),cD⟩,[ac])]
def tf (ρ:Type):ô ρ:=⟨[],104,4,tg,fun(p:Val (tyL tg.cs)) (v:Val bc) a b=>lr p.2.2.1 p.2.2.2.1 p.2.2.2.2.1 p.2.2.2.2.2.1 v.1 v.2 (fun c d=>a (c,d)) (b 0)⟩
def td:Ç:=Ls 0 [ax,aO,aa,tI,tI,tI,tI,tI,ae,aa,af,ac] [tI,aa] ⟨123,aN 2 (.con ax::.con aO::.box 0 0::.any::.box 1 0::aN 93 [.con aa,.con tI,.var tI]),cE⟩ [(.exit 6,⟨123,aN 2 (.con ax::.con aO::.box 0 0::.any::.box 1 0::aN 93 [.con aa,.con tI]),cE⟩,[aa])]
def tc (ρ:Type):ô ρ:=⟨[],104,6,td,fun(p:Val (tyL td.cs)) (v:pc) a b=>lq p.1 p.2.1 p.2.2.1 p.2.2.2.1 v.1 v.2 (fun c d=>a (c,d)) (b 0)⟩
def ų (ρ:Type):Env ρ:={Ù [(105,JX),(183,zJ)] [tk ρ,ti ρ,tf ρ,tc ρ] with hint:=Zl [(78,183),(84,183)]}
def Xl:û:=⟨[Ô,tI],[.bool],fun(x:Val (.pair Ô tI))=>CD x.1 x.2⟩
def VT (ρ:Type):Env ρ:=Ù [] []
def zN:û:=⟨[Ô],[tI,tI],fun(x:io)=>sm x⟩
def Uu:Ç:=Ls 0 [ak,tI,tI,ak] [tI] ⟨57,.any::.box 0 0::aN 17 [.con ak,.con tI,.var tI],[bU]⟩ [(.ret,⟨57,.any::.box 0 0::.var tI::.var tI::aN 15 [.con ak,.con tI],[bU]⟩,[tI,tI]),(.exit 0,⟨57,.any::.box 0 0::aN 17 [.con ak,.con tI],[bU]⟩,[])]
def Ew (ρ:Type):ô ρ:=⟨[],126,0,Uu,fun(p:Val (.pair ak ba)) (v:Int) b a=>uu p.1 p.2.1 p.2.2.1 p.2.2.2 v (fun c=>b c) (a 0) (a 1)⟩
def FR (ρ:Type):Env ρ:=Ù [(196,Xl)] [Ew ρ]
def sX:û:=⟨[Ô,ar],[ab,.bool],fun(x:Val (.pair Ô ar))=>me x.1 x.2⟩
def wz:Ç:=Ls 2 [ar,ak,tI,tI,ak,ab,tI,ak,aw,ab] [tI,tI] ⟨140,.any::.con ar::.own 1::.box 2 0::aN 3 (.box 3 0::.own 4::.own 5::.var tI::aN 14 [.con ak,.con tI,.var tI]),[bU,.rowc tI,bU,.cells [.nils],.rowc .bool,.rowc tI]⟩ [(.exit 0,⟨140,.any::.con ar::.own 1::.box 2 0::aN 3 (.box 3 0::.own 4::.own 5::.var tI::aN 14 [.con ak,.con tI]),[bU,.rowc tI,bU,.cells [.nils],.rowc .bool,.rowc tI]⟩,[tI])]
def wy (ρ:Type):ô ρ:=⟨[2,3],197,0,wz,fun(p:Val (tyL wz.cs)) (v:a8) a b=>iO p.2.1 p.2.2.1 v.1 v.2 (fun c d=>a (c,d)) (b 0)⟩
def wx:Ç:=Ls 2 [ar,tI,tI,tI,ak,ab,tI,ak,ab] [tI,aw,ab] ⟨140,.any::.con ar::.own 1::.box 2 0::aN 3 (.box 3 0::.own 4::.own 5::.con tI::aN 27 [.con tI,.var tI]),cF⟩ [(.exit 2,⟨140,.any::.con ar::.own 1::.box 2 0::aN 3 (.box 3 0::.own 4::.own 5::.con tI::aN 27 [.con tI]),cF⟩,[aw,ab])]
def ww (ρ:Type):ô ρ:=⟨[2,3],197,2,wx,fun(p:Val (tyL wx.cs)) (v:y8) a b=>Ř p.2.2.1 p.2.2.2.2.2.1 v.1 v.2.1 v.2.2 (fun c d e=>a (c,d,e)) (b 0)⟩
def wt:Ç:=Ls 2 [ar,tI,tI,ak,tI,tI,ak,tI,ak,ab] [tI,ab,aw,ab] ⟨140,.any::.con ar::.own 1::.box 2 0::aN 3 (.box 3 0::.own 4::.own 5::.con tI::aN 3 (.con tI::aN 62 [.con ak,.con tI,.var tI])),cG⟩ [(.ret,⟨140,.any::.con ar::.own 1::.box 2 0::aN 2 (.var .bool::.box 3 0::.own 4::.own 5::.con tI::aN 3 (.con tI::aN 62 [.con ak,.con tI])),cG⟩,[.bool,ab,aw,ab]),(.exit 6,⟨140,.any::.con ar::.own 1::.box 2 0::aN 3 (.box 3 0::.own 4::.own 5::.con tI::aN 3 (.con tI::aN 62 [.con ak,.con tI])),cG⟩,[ab,aw,ab])]
def wq (ρ:Type):ô ρ:=⟨[2,3],197,6,wt,fun(p:Val (tyL wt.cs)) (v:nj) b a=>jQ p.1 p.2.1 p.2.2.1 p.2.2.2.1 p.2.2.2.2.1 v.1 v.2.1 v.2.2.1 v.2.2.2 (fun c d e f=>b (c,d,e,f)) (a 0) (a 1)⟩
def KU:Ç:=Ls 2 [ar,tI,tI,ak,tI,ak] [ab,aw,ab,ab] ⟨140,[.any,.con ar,.own 1,.box 2 0,.any,.any,.any,.box 3 0,.own 4,.own 5,.con tI],cH⟩ [(.ret,⟨140,[.any,.con ar,.own 1,.box 2 0,.any,.any,.var .bool,.box 3 0,.own 4,.own 5,.con tI],cH⟩,[.bool,ab,aw,ab,ab])]
def wu (ρ:Type):ô ρ:=⟨[2,3],197,4,KU,fun(p:Val (.pair ar bB)) (v:Val bo) a b=>ĭ p.1 p.2.1 p.2.2.2.2.1 p.2.2.2.2.2 v.1 v.2.1 v.2.2.1 v.2.2.2 (fun c d e f=>a (c,d,e,f)) (b 0)⟩
def KT:Ç:=Ls 0 [tI,tI] [tI,ab] ⟨34,aN 6 (.own 0::.con tI::aN 13 [.con tI,.var tI]),cq⟩ [(.exit 0,⟨34,aN 6 (.own 0::.con tI::aN 13 [.con tI]),cq⟩,[ab])]
def wp (ρ:Type):ô ρ:=⟨[],127,0,KT,fun(p:a8) (v:f4) a b=>jP p.1 p.2 v.1 v.2 (fun c d=>a (c,d)) (b 0)⟩
def ξ (ρ:Type):Env ρ:=Ù [] [wy ρ,ww ρ,wq ρ,wu ρ,wp ρ]
def Ds:û:=⟨[Ô],[.bool,tI],fun(x:io)=>ou x⟩
def yY (ρ:Type):Env ρ:=Ù [(126,zN),(127,sX)] []
def sW:û:=⟨[Â,ag],[.bool],fun(x:lA)=>Ω x.1 x.2⟩
def DH (ρ:Type):Env ρ:=Ù [(66,vD),(104,j8),(155,Ds)] []
def JY:û:=⟨[Â,ag],[tI],fun(x:lA)=>Ĭ x.1 x.2⟩
def Ad:Ç:=Ls 0 [tI,ag,tI,tI,ab,tI,tI,tI,ae,aa,af,ac,aa,ai] [tI,tI] ⟨40,aN 2 (.box 0 0::aN 2 (.var tI::.con tI::aN 3 (.con ag::.con tI::.con tI::aN 4 [.con ab,.con tI,.var tI]))),[bJ]⟩ [(.exit 2,⟨40,aN 2 (.box 0 0::aN 2 (.var tI::.con tI::aN 3 (.con ag::.con tI::.con tI::aN 4 [.con ab,.con tI]))),[bJ]⟩,[tI])]
def Ac (ρ:Type):ô ρ:=⟨[],116,2,Ad,fun(p:Val (tyL Ad.cs)) (v:a8) a b=>let A:=p.2.2.2.2;pW p.1 A.1 A.2.1 A.2.2.2.2.2.2.2.2.2 v.1 v.2 (fun c d=>a (c,d)) (b 0)⟩
def Pj:Ç:=Ls 0 [ag,tI,tI,tI,ae,aa,af,ac,aa,ai] [tI,tI] ⟨40,aN 2 (.box 0 0::aN 2 (.var tI::aN 4 [.con ag,.con tI,.var tI])),[bJ]⟩ [(.exit 0,⟨40,aN 2 (.box 0 0::aN 2 (.var tI::aN 4 [.con ag,.con tI])),[bJ]⟩,[tI])]
def Ae (ρ:Type):ô ρ:=⟨[],116,0,Pj,fun(p:ni) (v:a8) a b=>pX p.1 p.2.1 p.2.2.2.2.2.2.2.2.2 v.1 v.2 (fun c d=>a (c,d)) (b 0)⟩
def ta (ρ:Type):Env ρ:=Ù [] [Ac ρ,Ae ρ]
def zO:û:=⟨[tI],[.bool],fun(x:Int)=>mS x⟩
def wA (ρ:Type):Env ρ:=Ù [] []
def nA:û:=⟨[tI,tI],[tI],fun(x:a8)=>iU x.1 x.2⟩
def rV (ρ:Type):Env ρ:=Ù [(234,zO)] []
def JZ:û:=⟨[ag,ag,ax],[tI],fun(x:Val (.pair ag (.pair ag ax)))=>kv x.1 x.2.1 x.2.2⟩
def L3 (ρ:Type):Env ρ:=Ù [(116,JY),(180,nA)] []
def ą:ah1:=⟨ag,[tI,tI],179,Â,fun(xs:a7) (x:a8) (m:bl)=>ê xs x.1 x.2 m⟩
def mD:Ç:=Ls 2 [tI,tI,tI,tI,tI,ae,aa,af,ac,aa,ai] [tI,aj] ⟨53,.own 0::.con tI::.con tI::.fn 179 [(1,0)]::aN 4 [.con tI,.var tI],cI⟩ [(.exit 2,⟨53,.own 0::.con tI::.con tI::.fn 179 [(1,0)]::aN 4 [.con tI],cI⟩,[aj])]
def Ο (ρ:Type):ô ρ:=⟨[],273,2,mD,fun(p:Val bt) (v:i4) a b=>let A:=p.2.2.2.2;let B:=A.2.2.2.2;ë p.1 p.2.2.2.1 A.1 A.2.1 A.2.2.1 A.2.2.2.1 B.1 B.2.1 B.2.2 v.1 v.2 (fun c d=>a (c,d)) (b 0)⟩
def mE:Ç:=Ls 2 [tI,tI,tI,tI,ae,aa,af,ac,aa,ai] [tI,aj] ⟨53,.own 0::.con tI::.con tI::.fn 179 [(1,0)]::aN 4 [.var tI],cI⟩ [(.exit 0,⟨53,[.own 0,.con tI,.con tI,.fn 179 [(1,0)]],cI⟩,[aj])]
def Ρ (ρ:Type):ô ρ:=⟨[],273,0,mE,fun(p:Val (.pair tI aG)) (v:i4) a b=>let A:=p.2.2.2.2;Đ p.1 p.2.1 p.2.2.1 p.2.2.2.1 A.1 A.2.1 A.2.2.1 A.2.2.2.1 A.2.2.2.2.1 A.2.2.2.2.2 v.1 v.2 (fun c d=>a (c,d)) (b 0)⟩
def ù (ρ:Type):Env ρ:={Ù [(179,JZ)] [Ο ρ,Ρ ρ] with hint:=Zl [(22,179)]}
def į:ah1:=⟨ag,[tI,tI,tI],179,Â,fun(xs:a7) (x:rm) (m:bl)=>ĸ xs x.1 x.2.1 x.2.2 m⟩
def sM:Ç:=Ls 2 [tI,tI,tI,tI,tI,ae,aa,af,ac,aa,ai] [tI,aj] ⟨38,.own 0::.con tI::.con tI::.con tI::aN 6 [.var tI],cI⟩ [(.exit 0,⟨38,[.own 0,.con tI,.con tI,.con tI],cI⟩,[aj])]
def kI (ρ:Type):ô ρ:=⟨[4,7],317,0,sM,fun(p:Val bt) (v:i4) a b=>ď p.1 p.2.1 p.2.2.1 v.1 v.2 (fun c d=>a (c,d)) (b 0)⟩
def sL:Ç:=Ls 2 [tI,tI,tI,tI,tI,ae,aa,af,ac,aa,ai] [tI,aj] ⟨38,.own 0::.con tI::.con tI::.con tI::aN 6 [.var tI],cI⟩ [(.exit 0,⟨38,[.own 0,.con tI,.con tI,.con tI],cI⟩,[aj])]
def kH (ρ:Type):ô ρ:=⟨[6,11],317,0,sL,fun(p:Val bt) (v:i4) a b=>iN p.1 p.2.1 p.2.2.1 v.1 v.2 (fun c d=>a (c,d)) (b 0)⟩
def sN:Ç:=Ls 2 [tI,tI,tI,ae,aa,af,ac,aa,ai] [tI,tI,aj] ⟨58,.own 0::.any::.con tI::.any::.fn 179 [(1,0)]::aN 5 [.var tI,.var tI],cI⟩ [(.exit 0,⟨58,.own 0::.any::.con tI::.any::.fn 179 [(1,0)]::aN 5 [.var tI],cI⟩,[tI,aj])]
def kJ (ρ:Type):ô ρ:=⟨[],300,0,sN,fun(p:Val aG) (v:y9) a b=>ĵ p.1 v.1 v.2.1 v.2.2 (fun c d e=>a (c,d,e)) (b 0)⟩
def sK:Ç:=Ls 2 [tI,tI,tI,tI,tI,ae,aa,af,ac,aa,ai] [tI,aj] ⟨38,.own 0::.con tI::.con tI::.con tI::aN 6 [.var tI],cI⟩ [(.exit 0,⟨38,[.own 0,.con tI,.con tI,.con tI],cI⟩,[aj])]
def kG (ρ:Type):ô ρ:=⟨[8,7],317,0,sK,fun(p:Val bt) (v:i4) a b=>iM p.1 p.2.1 p.2.2.1 v.1 v.2 (fun c d=>a (c,d)) (b 0)⟩
def Ă (ρ:Type):Env ρ:=Ù [] [kI ρ,kH ρ,kJ ρ,kG ρ]
def mn:ah1:=⟨ag,[tI,tI,tI],179,Â,fun(xs:a7) (x:rm) (m:bl)=>Ę xs x.1 x.2.1 x.2.2 m⟩
def Ċ:Ç:=Ls 2 [tI,aj,tI,tI,ae,aa,af,ac,aa,ai] [tI,tI] ⟨220,.own 0::.con tI::aN 2 (.fn 179 [(1,0)]::aN 5 [.var tI,.var tI]),cJ⟩ [(.exit 0,⟨220,.own 0::.con tI::aN 2 (.fn 179 [(1,0)]::aN 5 [.var tI]),cJ⟩,[tI])]
def ũ (rec:a7->Int->Int->Int->bl->CK (a7×bl)) (ρ:Type):ô ρ:=⟨[],274,0,Ċ,fun(p:u6) (v:a8) a b=>ý rec p.1 p.2.1 p.2.2.1 p.2.2.2.1 p.2.2.2.2.1 p.2.2.2.2.2.1 p.2.2.2.2.2.2.1 p.2.2.2.2.2.2.2.1 p.2.2.2.2.2.2.2.2.1 p.2.2.2.2.2.2.2.2.2 v.1 v.2 (fun c d=>a (c,d)) (b 0)⟩
def ĉ:Ç:=Ls 2 [tI,tI,tI,ae,aa,af,ac,aa,ai] [tI,aj] ⟨220,.own 0::aN 9 [.con tI,.any,.any,.var tI],cI⟩ [(.exit 2,⟨220,.own 0::aN 9 [.con tI],cI⟩,[aj])]
def Ũ (rec:a7->Int->Int->Int->bl->CK (a7×bl)) (ρ:Type):ô ρ:=⟨[],274,2,ĉ,fun(p:Val aG) (v:i4) a b=>ò rec p.1 v.1 v.2 (fun c d=>a (c,d)) (b 0)⟩
def Ĉ:Ç:=Ls 2 [tI,aj,tI,tI,ae,aa,af,ac,aa,ai] [tI,tI] ⟨220,.own 0::.any::.con tI::.any::.fn 179 [(1,0)]::aN 9 [.var tI,.var tI],cJ⟩ [(.exit 4,⟨220,.own 0::.any::.con tI::.any::.fn 179 [(1,0)]::aN 9 [.var tI],cJ⟩,[tI])]
def ŧ (rec:a7->Int->Int->Int->bl->CK (a7×bl)) (ρ:Type):ô ρ:=⟨[],274,4,Ĉ,fun(p:u6) (v:a8) a b=>ü rec p.1 p.2.1 p.2.2.1 p.2.2.2.1 p.2.2.2.2.1 p.2.2.2.2.2.1 p.2.2.2.2.2.2.1 p.2.2.2.2.2.2.2.1 p.2.2.2.2.2.2.2.2.1 p.2.2.2.2.2.2.2.2.2 v.1 v.2 (fun c d=>a (c,d)) (b 0)⟩
def ć:Ç:=Ls 2 [tI,tI,tI,ae,aa,af,ac,aa,ai] [tI,aj] ⟨220,.own 0::aN 13 [.con tI,.any,.any,.var tI],cI⟩ [(.exit 6,⟨220,.own 0::aN 13 [.con tI],cI⟩,[aj])]
def Ŧ (rec:a7->Int->Int->Int->bl->CK (a7×bl)) (ρ:Type):ô ρ:=⟨[],274,6,ć,fun(p:Val aG) (v:i4) a b=>ñ rec p.1 v.1 v.2 (fun c d=>a (c,d)) (b 0)⟩
def Ć:Ç:=Ls 2 [tI,tI,tI,tI,tI,tI,aj,tI,tI,ae,aa,af,ac,aa,ai] [tI,tI] ⟨220,.own 0::.con tI::.con tI::.con tI::.fn 179 [(1,0)]::aN 13 [.con tI,.con tI,.var tI,.var tI,.con tI],cJ⟩ [(.exit 8,⟨220,.own 0::.con tI::.con tI::.con tI::.fn 179 [(1,0)]::aN 13 [.con tI,.con tI,.var tI,.any,.con tI],cJ⟩,[tI])]
def ť (rec:a7->Int->Int->Int->bl->CK (a7×bl)) (ρ:Type):ô ρ:=⟨[],274,8,Ć,fun(p:Val aX) (v:a8) a b=>â rec p.2.2.2.2.2.1 p.2.2.2.2.2.2.1 p.2.2.2.2.2.2.2.1 p.2.2.2.2.2.2.2.2.1 p.2.2.2.2.2.2.2.2.2.1 p.2.2.2.2.2.2.2.2.2.2.1 p.2.2.2.2.2.2.2.2.2.2.2.1 p.2.2.2.2.2.2.2.2.2.2.2.2.1 p.2.2.2.2.2.2.2.2.2.2.2.2.2.1 p.2.2.2.2.2.2.2.2.2.2.2.2.2.2 v.1 v.2 (fun c d=>a (c,d)) (b 0)⟩
def sG (rec:a7->Int->Int->Int->bl->CK (a7×bl)):Do (Nat×û):=[(179,JZ)]
def sF (rec:a7->Int->Int->Int->bl->CK (a7×bl)):Do (Nat×agm):=[(274,.row ⟨ag,[tI,tI,tI],179,Â,fun(xs:a7) (x:rm) (m:bl)=>rec xs x.1 x.2.1 x.2.2 m⟩),(300,.row į)]
def jL (rec:a7->Int->Int->Int->bl->CK (a7×bl)) (ρ:Type):Do (ô ρ):=[ũ rec ρ,Ũ rec ρ,ŧ rec ρ,Ŧ rec ρ,ť rec ρ]
def Ê (rec:a7->Int->Int->Int->bl->CK (a7×bl)) (ρ:Type):Env ρ:={afv (sG rec) (jL rec ρ) (sF rec) with hint:=Zl [(40,179),(92,179),(158,179)]}
def ģ:ah1:=⟨ag,[tI],179,Â,fun(xs:a7) (x:Int) (m:bl)=>ķ xs x m⟩
def sJ:Ç:=Ls 2 [tI,tI] [tI,tI,aj,tI,tI,ae,aa,af,ac,aa,ai] ⟨63,[.own 0,.con tI,.fn 179 [(1,0)],.any,.any,.any,.con tI,.var tI,.var tI],cM⟩ [(.exit 0,⟨63,[.own 0,.con tI,.fn 179 [(1,0)],.any,.any,.any,.con tI,.var tI],cM⟩,[tI,aj,tI,tI,ae,aa,af,ac,aa,ai])]
def kF (ρ:Type):ô ρ:=⟨[],233,0,sJ,fun(p:a8) (v:An) a b=>iL p.1 p.2 v.1 v.2.1 v.2.2.1 v.2.2.2.1 v.2.2.2.2.1 v.2.2.2.2.2.1 v.2.2.2.2.2.2.1 v.2.2.2.2.2.2.2.1 v.2.2.2.2.2.2.2.2.1 v.2.2.2.2.2.2.2.2.2.1 v.2.2.2.2.2.2.2.2.2.2 (fun c d e f g h i j k l m=>a (c,d,e,f,g,h,i,j,k,l,m)) (b 0)⟩
def sH:Ç:=Ls 2 [tI,tI] [tI,tI,aj,tI,tI,ae,aa,af,ac,aa,ai] ⟨63,[.own 0,.con tI,.fn 179 [(1,0)],.any,.any,.any,.con tI,.var tI,.var tI],cM⟩ [(.exit 4,⟨63,[.own 0,.con tI,.fn 179 [(1,0)],.any,.any,.any,.con tI,.var tI],cM⟩,[tI,aj,tI,tI,ae,aa,af,ac,aa,ai])]
def kD (ρ:Type):ô ρ:=⟨[],233,4,sH,fun(p:a8) (v:An) a b=>iJ p.1 p.2 v.1 v.2.1 v.2.2.1 v.2.2.2.1 v.2.2.2.2.1 v.2.2.2.2.2.1 v.2.2.2.2.2.2.1 v.2.2.2.2.2.2.2.1 v.2.2.2.2.2.2.2.2.1 v.2.2.2.2.2.2.2.2.2.1 v.2.2.2.2.2.2.2.2.2.2 (fun c d e f g h i j k l m=>a (c,d,e,f,g,h,i,j,k,l,m)) (b 0)⟩
def sI:Ç:=Ls 2 [tI] [tI,aj,tI,tI,ae,aa,af,ac,aa,ai] ⟨63,[.own 0,.con tI,.fn 179 [(1,0)],.any,.any,.any,.var tI],cM⟩ [(.exit 2,⟨63,[.own 0,.con tI,.fn 179 [(1,0)]],cM⟩,[aj,tI,tI,ae,aa,af,ac,aa,ai])]
def kE (ρ:Type):ô ρ:=⟨[],233,2,sI,fun(p:Int) (v:u6) a b=>iK p v.1 v.2.1 v.2.2.1 v.2.2.2.1 v.2.2.2.2.1 v.2.2.2.2.2.1 v.2.2.2.2.2.2.1 v.2.2.2.2.2.2.2.1 v.2.2.2.2.2.2.2.2.1 v.2.2.2.2.2.2.2.2.2 (fun c d e f g h i j k l=>a (c,d,e,f,g,h,i,j,k,l)) (b 0)⟩
def vZ:Do (Nat×agm):=[(273,.row ą),(274,.row mn)]
def ė (ρ:Type):Env ρ:=afv [] [kF ρ,kD ρ,kE ρ] vZ
def Xg:û:=⟨[Â],[aj],fun(x:bl)=>I6 x⟩
def mA:Tpl:=⟨13,[.any,.any,.box 3 0],[.cells [.con tI,.con tI,.con ae,.con aa,.con af,.con ac,.con aa,.con ai],.cells [.con tI,.con tI,.con ae,.con aa,.con af,.con ac,.con aa,.con ai],.dead,.cells [.own 4],.rowv ag]⟩
def pZ (ρ:Type):JJ ρ:=⟨[1,1,1,3,1,1],230,0,4,[tI,tI,ae,aa,af,ac,aa,ai,tI,tI,ae,aa,af,ac,aa,ai],[aj],mA,sc,fun(p:Val aE) (v:a7) y a=>Fq v y (fun b=>a b)⟩
def Hf:Ç:=Ls 5 [tI,tI,tI,ae,aa,af,ac,aa,ai,tI,tI,ae,aa,af,ac,aa,ai,ai,aj] [tI] ⟨19,.own 4::.fn 158 [(0,0)]::aN 5 [.con tI,.var tI],[bJ,bJ,bX,bY,.rowc ag]⟩ [(.ret,⟨19,[.own 4,.fn 158 [(0,0)],.any,.any,.var tI,.any,.any,.con tI],[bJ,bJ,bX,bY,.rowc ag]⟩,[tI]),(.exit 0,⟨19,.own 4::.fn 158 [(0,0)]::aN 5 [.con tI],[bJ,bJ,bX,bY,.rowc ag]⟩,[])]
def He (ρ:Type):ô ρ:=⟨[1,3,1,2],186,0,Hf,fun(p:Val (tyL Hf.cs)) (v:Int) b a=>let A:=p.2.2.2.2;xw p.1 p.2.1 p.2.2.1 p.2.2.2.1 A.1 A.2.1 A.2.2.1 A.2.2.2.1 A.2.2.2.2.1 A.2.2.2.2.2.2.2.2.2.2.2.2.2.2 v (fun c=>b c) (a 0) (a 1)⟩
def Hd:Ç:=Ls 5 [tI,tI,ae,aa,af,ac,aa,ai,tI,tI,ae,aa,af,ac,aa,ai,ai] [tI,tI,aj] ⟨42,[.own 4,.fn 158 [(0,0)],.any,.any,.any,.var tI,.var tI],[bJ,bJ,bX,bY,.rowv ag]⟩ [(.exit 0,⟨42,[.own 4,.fn 158 [(0,0)],.any,.any,.any,.var tI],[bJ,bJ,bX,bY,.rowv ag]⟩,[tI,aj])]
def Hc (ρ:Type):ô ρ:=⟨[1,3],157,0,Hd,fun(p:Val (tyL Hd.cs)) (v:y9) a b=>let A:=p.2.2.2.2;nF p.1 p.2.1 p.2.2.1 p.2.2.2.1 A.1 A.2.1 A.2.2.1 A.2.2.2.1 v.1 v.2.1 v.2.2 (fun c d e=>a (c,d,e)) (b 0)⟩
def PC (ρ:Type):Do (JJ ρ):=[pZ ρ]
def adA:Do (Nat×agm):=[(233,.row ģ)]
def iH (ρ:Type):Env ρ:={afv [(79,sW)] [He ρ,Hc ρ] adA with ranges:=Ξ (PC ρ)}
def aiP:û:=⟨[Â],[aj,tI],fun(x:bl)=>Zt x⟩
def abv (ρ:Type):Env ρ:=Ù [(80,jH),(81,Xg)] []
def B5:û:=⟨[Â],[aj],fun(x:bl)=>uJ x⟩
def mz:Tpl:=⟨13,[.any,.any,.box 2 0],[.cells [.con tI,.con tI,.con ae,.con aa,.con af,.con ac,.con aa,.con ai],.dead,.cells [.own 3],.rowv ag]⟩
def pY (ρ:Type):JJ ρ:=⟨[1,3,1,1],230,0,3,[tI,tI,ae,aa,af,ac,aa,ai],[aj],mz,sc,fun(p:ry) (v:a7) y a=>E9 v y (fun b=>a b)⟩
def Pk (ρ:Type):Do (JJ ρ):=[pY ρ]
def adz:Do (Nat×agm):=[(233,.row ģ)]
def j9 (ρ:Type):Env ρ:={afv [] [] adz with ranges:=Ξ (Pk ρ)}
def pS:û:=⟨[Â],[ag,.bool],fun(x:bl)=>ă x⟩
def Hg:Ç:=Ls 1 [aj,tI,tI,tI,ae,aa,af,ac,aa,ai] [tI] ⟨21,.any::.fn 159 [(0,0)]::aN 7 [.con aj,.con tI,.var tI],[bJ]⟩ [(.ret,⟨21,[.any,.fn 159 [(0,0)],.any,.any,.var ag,.var .bool,.any,.any,.any,.con aj,.con tI],[bJ]⟩,[ag,.bool]),(.exit 0,⟨21,.any::.fn 159 [(0,0)]::aN 7 [.con aj,.con tI],[bJ]⟩,[])]
def tv (ρ:Type):ô ρ:=⟨[1,3],99,0,Hg,fun(p:Val (.pair aj aG)) (v:Int) b a=>let A:=p.2.2.2.2;lC p.1 p.2.1 p.2.2.1 p.2.2.2.1 A.1 A.2.1 A.2.2.1 A.2.2.2.1 A.2.2.2.2.1 A.2.2.2.2.2 v (fun c=>b c) (a 0) (a 1)⟩
def rk (ρ:Type):Env ρ:=Ù [(79,sW),(96,B5)] [tv ρ]
def aaK:û:=⟨[Â],[ag,tI],fun(x:bl)=>Ja x⟩
def PM (ρ:Type):Env ρ:=Ù [(80,jH),(82,pS)] []
def pT:û:=⟨[ab,ab],[.bool],fun(x:u5)=>ū x.1 x.2⟩
def HP:Ç:=Ls 0 [ab,ab] [tI] ⟨26,[.con ab,.con ab,.any,.any,.any,.var tI],[]⟩ [(.ret,⟨26,[.con ab,.con ab,.any,.any,.var .bool],[]⟩,[.bool]),(.exit 0,⟨26,[.con ab,.con ab],[]⟩,[])]
def t8 (ρ:Type):ô ρ:=⟨[],35,0,HP,fun(p:u5) (v:Int) b a=>lG p.1 p.2 v (fun c=>b c) (a 0) (a 1)⟩
def rS (ρ:Type):Env ρ:=Ù [] [t8 ρ]
def zM:û:=⟨[ag,ag],[.bool],fun(x:Val (.pair ag ag))=>pl x.1 x.2⟩
def Kw:Ç:=Ls 0 [ag,ag] [tI] ⟨29,[.con ag,.con ag,.any,.any,.any,.var tI],[]⟩ [(.ret,⟨29,[.con ag,.con ag,.any,.any,.var .bool],[]⟩,[.bool]),(.exit 0,⟨29,[.con ag,.con ag],[]⟩,[])]
def wn (ρ:Type):ô ρ:=⟨[],26,0,Kw,fun(p:Val (.pair ag ag)) (v:Int) b a=>mJ p.1 p.2 v (fun c=>b c) (a 0) (a 1)⟩
def vc (ρ:Type):Env ρ:=Ù [(35,pT)] [wn ρ]
def zK:û:=⟨[Â,tI,tI],[tI],fun(x:wk)=>sj x.1 x.2.1 x.2.2⟩
def Dy:Ç:=Ls 2 [ae,tI,tI,tI,ae,aa,af,ac,aa,ai,tI] [tI] ⟨19,.con ae::.fn 169 [(1,0)]::aN 5 [.con tI,.var tI],[bJ,bH]⟩ [(.ret,⟨19,[.con ae,.fn 169 [(1,0)],.any,.any,.var tI,.any,.any,.con tI],[bJ,bH]⟩,[tI]),(.exit 0,⟨19,.con ae::.fn 169 [(1,0)]::aN 5 [.con tI],[bJ,bH]⟩,[])]
def Dx (ρ:Type):ô ρ:=⟨[3,4,1,2],229,0,Dy,fun(p:Val (tyL Dy.cs)) (v:Int) b a=>tq p.1 p.2.1 p.2.2.2.2.2.2.2.2.2.2 v (fun c=>b c) (a 0) (a 1)⟩
def Fp (ρ:Type):Env ρ:=Ù [] [Dx ρ]
def VC:û:=⟨[ab,ab],[ab,ab,tI],fun(x:u5)=>qR x.1 x.2⟩
def Mp (ρ:Type):Env ρ:=Ù [(148,GO),(172,J2)] []
def GD:û:=⟨[Â,tI],[.bool,tI],fun(x:Val (.pair Â tI))=>qw x.1 x.2⟩
def tE:Ç:=Ls 6 [tI,tI,tI,ae,aa,af,ac,aa,ai,tI,tI,tI,ae,aa,af,ac,aa,ai,tI,tI,ac] [tI] ⟨19,.own 5::.fn 171 [(3,0)]::aN 5 [.con tI,.var tI],cN⟩ [(.ret,⟨19,[.own 5,.fn 171 [(3,0)],.any,.any,.var tI,.any,.any,.con tI],cN⟩,[tI]),(.exit 0,⟨19,.own 5::.fn 171 [(3,0)]::aN 5 [.con tI],cN⟩,[])]
def tD (ρ:Type):ô ρ:=⟨[7,2,1,5,1,2],175,0,tE,fun(p:Val (tyL tE.cs)) (v:Int) b a=>lD p.1 p.2.2.2.2.2.2.2.2.2.1 p.2.2.2.2.2.2.2.2.2.2.2.2.2.2.2.2.2.2.2.2 v (fun c=>b c) (a 0) (a 1)⟩
def tC:Ç:=Ls 6 [tI,tI,ae,aa,af,ac,aa,ai,tI,tI,tI,ae,aa,af,ac,aa,ai,tI,tI] [tI,tI,ac] ⟨42,[.own 5,.fn 171 [(3,0)],.any,.any,.any,.var tI,.var tI],[bJ,bH,bJ,bZ,b7,.rowv Ð]⟩ [(.exit 0,⟨42,[.own 5,.fn 171 [(3,0)],.any,.any,.any,.var tI],[bJ,bH,bJ,bZ,b7,.rowv Ð]⟩,[tI,ac])]
def tB (ρ:Type):ô ρ:=⟨[7,2,1,5],151,0,tC,fun(p:Val (tyL tC.cs)) (v:At) a b=>Ε p.2.2.2.2.2.2.2.2.1 v.1 v.2.1 v.2.2 (fun c d e=>a (c,d,e)) (b 0)⟩
def mB (ρ:Type):Env ρ:=Ù [(80,jH),(82,pS),(88,zK),(91,VC),(92,š)] [tD ρ,tB ρ]
def Xf:û:=⟨[Â,ab],[Â],fun(x:x9)=>Cp x.1 x.2⟩
def Hb:Ç:=Ls 7 [tI,tI,tI,ae,aa,af,ac,aa,ai,ab,tI,tI,tI,tI,ae,aa,af,ac,aa,ai,tI,tI,ac] [tI] ⟨19,.own 6::.fn 171 [(4,0)]::aN 5 [.con tI,.var tI],cO⟩ [(.ret,⟨19,[.own 6,.fn 171 [(4,0)],.any,.any,.var tI,.any,.any,.con tI],cO⟩,[tI]),(.exit 0,⟨19,.own 6::.fn 171 [(4,0)]::aN 5 [.con tI],cO⟩,[])]
def Ha (ρ:Type):ô ρ:=⟨[1,2,1,5,1,2],175,0,Hb,fun(p:Val (tyL Hb.cs)) (v:Int) b a=>xv p.1 p.2.2.2.2.2.2.2.2.2.1 p.2.2.2.2.2.2.2.2.2.2.2.2.2.2.2.2.2.2.2.2.2.2 v (fun c=>b c) (a 0) (a 1)⟩
def G9:Ç:=Ls 7 [tI,tI,ae,aa,af,ac,aa,ai,ab,tI,tI,tI,tI,ae,aa,af,ac,aa,ai,tI,tI] [tI,tI,ac] ⟨42,[.own 6,.fn 171 [(4,0)],.any,.any,.any,.var tI,.var tI],[bJ,bC,b7,bJ,b8,b7,.rowv Ð]⟩ [(.exit 0,⟨42,[.own 6,.fn 171 [(4,0)],.any,.any,.any,.var tI],[bJ,bC,b7,bJ,b8,b7,.rowv Ð]⟩,[tI,ac])]
def G8 (ρ:Type):ô ρ:=⟨[1,2,1,5],151,0,G9,fun(p:Val (tyL G9.cs)) (v:At) a b=>nE p.2.2.2.2.2.2.2.2.1 v.1 v.2.1 v.2.2 (fun c d e=>a (c,d,e)) (b 0)⟩
def B9 (ρ:Type):Env ρ:=Ù [(92,š)] [Ha ρ,G8 ρ]
def afc:û:=⟨[Â],[ab,tI],fun(x:bl)=>N8 x⟩
def XT:Ç:=Ls 0 [ac,tI,tI,tI,ae,aa,af,ac,aa,ai] [tI,ab] ⟨66,.any::.box 0 0::aN 5 (.own 1::aN 19 [.con ac,.con tI,.var tI]),[bJ,.rowv tI]⟩ [(.exit 0,⟨66,.any::.box 0 0::aN 5 (.own 1::aN 19 [.con ac,.con tI]),[bJ,.rowv tI]⟩,[ab])]
def Hv (ρ:Type):ô ρ:=⟨[],29,0,XT,fun(p:Val (.pair ac aG)) (v:f4) a b=>xA p.1 p.2.1 v.1 v.2 (fun c d=>a (c,d)) (b 0)⟩
def XS:Ç:=Ls 0 [tI,tI,ae,aa,af,ac,aa,ai] [ab,tI] ⟨66,.any::.box 0 0::aN 5 [.var ab,.any,.any,.var tI],[bJ]⟩ [(.exit 2,⟨66,.any::.box 0 0::aN 5 [.var ab],[bJ]⟩,[ab])]
def Hu (ρ:Type):ô ρ:=⟨[],29,2,XS,fun(p:ry) (v:ly) a b=>let A:=p.2.2.2.2;rl p.1 p.2.1 p.2.2.1 p.2.2.2.1 A.1 A.2.1 A.2.2.1 A.2.2.2 v.1 v.2 (fun c d=>a (c,d)) (b 0)⟩
def Ca (ρ:Type):Env ρ:=Ù [(80,jH),(82,pS),(87,Xf),(93,jC)] [Hv ρ,Hu ρ]
def Vm:û:=⟨[ab,tI],[ab],fun(x:ly)=>jt x.1 x.2⟩
def PF:Ç:=Ls 0 [tI,ab,tI] [tI,ab] ⟨26,[.any,.con tI,.any,.any,.any,.own 0,.any,.any,.con ab,.con tI,.var tI],cq⟩ [(.exit 0,⟨26,[.any,.con tI,.any,.any,.any,.own 0,.any,.any,.con ab,.con tI],cq⟩,[ab])]
def Aq (ρ:Type):ô ρ:=⟨[],98,0,PF,fun(p:Val (.pair tI ay)) (v:f4) a b=>p8 p.1 p.2.1 p.2.2 v.1 v.2 (fun c d=>a (c,d)) (b 0)⟩
def Ar (ρ:Type):Env ρ:=Ù [] [Aq ρ]
def LW:û:=⟨[Â,ab],[ab,tI],fun(x:x9)=>uK x.1 x.2⟩
def vW:Ç:=Ls 3 [ac,tI,tI,tI,ae,aa,af,ac,aa,ai,ab,tI] [tI] ⟨19,.con ac::.fn 95 [(2,0)]::aN 5 [.con tI,.var tI],[bJ,bC,bH]⟩ [(.ret,⟨19,[.con ac,.fn 95 [(2,0)],.any,.any,.var tI,.any,.any,.con tI],[bJ,bC,bH]⟩,[tI]),(.exit 0,⟨19,.con ac::.fn 95 [(2,0)]::aN 5 [.con tI],[bJ,bC,bH]⟩,[])]
def vV (ρ:Type):ô ρ:=⟨[9,4,1,2],175,0,vW,fun(p:Val (tyL vW.cs)) (v:Int) b a=>mC p.1 p.2.1 p.2.2.2.2.2.2.2.2.2.2.2 v (fun c=>b c) (a 0) (a 1)⟩
def vY:Ç:=Ls 0 [ab,tI,tI,tI,ae,aa,af,ac,aa,ai,ab] [tI] ⟨135,aN 2 (.box 0 0::.box 1 0::aN 28 [.con ab,.con tI,.var tI]),[bJ,bC]⟩ [(.ret,⟨135,aN 2 (.box 0 0::.box 1 0::.nils::.var tI::aN 26 [.con ab,.con tI]),[bJ,bC]⟩,[tI]),(.exit 0,⟨135,aN 2 (.box 0 0::.box 1 0::aN 28 [.con ab,.con tI]),[bJ,bC]⟩,[])]
def vX (ρ:Type):ô ρ:=⟨[],30,0,vY,fun(p:Val (tyL vY.cs)) (v:Int) b a=>iI p.1 p.2.1 p.2.2.2.2.2.2.2.1 v (fun c=>b c) (a 0) (a 1)⟩
def Kn:Ç:=Ls 0 [tI,tI,ae,aa,af,ac,aa,ai,ab] [tI] ⟨135,aN 2 (.box 0 0::.box 1 0::aN 5 [.var tI]),[bJ,bC]⟩ [(.ret,⟨135,[.any,.any,.box 0 0,.box 1 0,.nils,.var tI],[bJ,bC]⟩,[tI]),(.exit 2,⟨135,[.any,.any,.box 0 0,.box 1 0],[bJ,bC]⟩,[])]
def vU (ρ:Type):ô ρ:=⟨[],30,2,Kn,fun(p:Val aU) (v:Int) b a=>jK p.2.2.2.2.2.2.2.2 v (fun c=>b c) (a 0) (a 1)⟩
def vT:Ç:=Ls 4 [aj,tI,tI,tI,ae,aa,af,ac,aa,ai,ab,tI] [tI] ⟨21,.any::.fn 100 [(3,0),(2,0)]::aN 7 [.con aj,.con tI,.var tI],[bJ,bC,bH,b9]⟩ [(.ret,⟨21,[.any,.fn 100 [(3,0),(2,0)],.any,.any,.var ag,.var .bool,.any,.any,.any,.con aj,.con tI],[bJ,bC,bH,b9]⟩,[ag,.bool]),(.exit 0,⟨21,.any::.fn 100 [(3,0),(2,0)]::aN 7 [.con aj,.con tI],[bJ,bC,bH,b9]⟩,[])]
def vS (ρ:Type):ô ρ:=⟨[21,2],99,0,vT,fun(p:Val (tyL vT.cs)) (v:Int) b a=>let A:=p.2.2.2.2;let B:=A.2.2.2.2;jJ p.1 p.2.1 p.2.2.1 p.2.2.2.1 A.1 A.2.1 A.2.2.1 A.2.2.2.1 B.1 B.2.1 B.2.2.1 B.2.2.2 v (fun c=>b c) (a 0) (a 1)⟩
def vP:Ç:=Ls 4 [ab,ab,ab,tI,ab,ab,tI,tI,ae,aa,af,ac,aa,ai] [tI] ⟨36,.con ab::.con ab::aN 7 [.con ab,.con tI,.var tI],cP⟩ [(.ret,⟨36,.con ab::.con ab::aN 2 (.var tI::aN 4 [.con ab,.con tI]),cP⟩,[tI]),(.exit 0,⟨36,.con ab::.con ab::aN 7 [.con ab,.con tI],cP⟩,[])]
def vO (ρ:Type):ô ρ:=⟨[29,14],101,0,vP,fun(p:Val (tyL vP.cs)) (v:Int) b a=>Ŷ p.2.1 p.2.2.1 p.2.2.2.1 v (fun c=>b c) (a 0) (a 1)⟩
def vN:Ç:=Ls 0 [aj,ab,tI,tI,ab,tI,tI,tI,ab,ab,tI,tI,ae,aa,af,ac,aa,ai] [tI] ⟨135,aN 3 (.box 0 0::aN 6 (.con aj::.any::.box 1 0::.own 2::aN 2 (.con ab::.con tI::.con tI::.con ab::aN 57 (.con tI::.con tI::aN 23 [.own 2,.con tI,.var tI])))),cP⟩ [(.exit 5,⟨135,aN 3 (.box 0 0::aN 6 (.con aj::.any::.box 1 0::.own 2::aN 2 (.con ab::.con tI::.con tI::.con ab::aN 57 (.con tI::.con tI::aN 23 [.own 2,.con tI])))),cP⟩,[]),(.exit 6,⟨135,aN 3 (.box 0 0::aN 6 (.con aj::.any::.box 1 0::.own 2::aN 2 (.con ab::.con tI::.con tI::.con ab::aN 57 (.con tI::.con tI::aN 23 [.own 2,.con tI])))),cP⟩,[])]
def vM (ρ:Type):ô ρ:=⟨[],30,6,vN,fun(p:Val (tyL vN.cs)) (v:Int) b a=>ŗ p.2.2.2.1 p.2.2.2.2.2.2.2.1 p.2.2.2.2.2.2.2.2.2.1 v (fun c=>b c) (a 0) (a 1)⟩
def vL:Ç:=Ls 0 [aj,ab,tI,tI,ab,tI,tI,aj,tI,ab,tI,tI,ae,aa,af,ac,aa,ai] [tI,ab] ⟨135,aN 3 (.box 0 0::aN 6 (.con aj::.any::.box 1 0::.own 2::aN 2 (.con ab::.con tI::.con tI::.con ab::aN 57 (.con tI::.con tI::aN 34 [.con aj,.con tI,.var tI])))),cQ⟩ [(.exit 5,⟨135,aN 3 (.box 0 0::aN 6 (.con aj::.any::.box 1 0::.own 2::aN 2 (.con ab::.con tI::.con tI::.con ab::aN 57 (.con tI::.con tI::aN 34 [.con aj,.con tI])))),cQ⟩,[ab]),(.exit 8,⟨135,aN 3 (.box 0 0::aN 6 (.con aj::.any::.box 1 0::.own 2::aN 2 (.con ab::.con tI::.con tI::.con ab::aN 57 (.con tI::.con tI::aN 34 [.con aj,.con tI])))),cQ⟩,[ab])]
def vK (ρ:Type):ô ρ:=⟨[],30,8,vL,fun(p:Val (tyL vL.cs)) (v:f4) b a=>let A:=p.2.2.2.2.2.2.2;let B:=A.2.2.2.2;let C:=B.2.2.2.2;Ŗ p.2.2.2.1 A.1 A.2.1 A.2.2.1 A.2.2.2.1 B.1 B.2.1 B.2.2.1 B.2.2.2.1 C.1 C.2.1 C.2.2 v.1 v.2 (fun c d=>b (c,d)) (a 0) (a 1)⟩
def vR:Ç:=Ls 0 [aj,tI,ab,tI,tI,ae,aa,af,ac,aa,ai] [ab,tI,tI,ab] ⟨135,aN 3 (.box 0 0::aN 6 (.con aj::.any::.box 1 0::.own 2::aN 2 (.var ab::.var tI::aN 59 [.con tI,.var tI]))),cQ⟩ [(.exit 4,⟨135,aN 3 (.box 0 0::aN 6 (.con aj::.any::.box 1 0::.own 2::aN 3 (.var tI::aN 59 [.con tI]))),cQ⟩,[tI,ab])]
def vQ (ρ:Type):ô ρ:=⟨[],30,4,vR,fun(p:Val (tyL vR.cs)) (v:Val (.pair ab bh)) a b=>let A:=p.2.2.2.2;let B:=A.2.2.2.2;ŷ p.1 p.2.1 p.2.2.1 p.2.2.2.1 A.1 A.2.1 A.2.2.1 A.2.2.2.1 B.1 B.2.1 B.2.2 v.1 v.2.1 v.2.2.1 v.2.2.2 (fun c d e f=>a (c,d,e,f)) (b 0)⟩
def ļ (ρ:Type):Env ρ:=Ù [(79,sW),(80,jH),(87,Xf),(96,B5),(98,Vm),(180,nA)] [vV ρ,vX ρ,vU ρ,vS ρ,vO ρ,vM ρ,vK ρ,vQ ρ]
def Xh:û:=⟨[Â],[aj,tI],fun(x:bl)=>I8 x⟩
def VK (ρ:Type):Env ρ:=Ù [(80,jH),(96,B5)] []
def aa6:û:=⟨[È,Ã],[tI,tI],fun(x:nn)=>sr x.1 x.2⟩
def Ru (ρ:Type):Env ρ:=Ù [(72,vE),(135,ű),(136,GN)] []
def afp:û:=⟨[È,Ã],[È,tI],fun(x:nn)=>Og x.1 x.2⟩
def IE:Ç:=Ls 6 [tI,tI,tI,ae,aa,af,ac,aa,tI,tI,tI,tI,tI,tI,ae,aa,af,ac,aa,tI,tI,tI,tI,ac,tI,tI,ae,aa,af,aa] [tI,ac] ⟨50,.any::.box 6 0::.box 7 0::.own 8::aN 21 [.own 8,.con tI,.var tI],cR⟩ [(.exit 0,⟨50,.any::.box 6 0::.box 7 0::.own 8::aN 21 [.own 8,.con tI],cR⟩,[ac])]
def IC (ρ:Type):ô ρ:=⟨[1,2,4,1],202,0,IE,fun(p:Val (tyL IE.cs)) (v:Val bc) a b=>yn p.1 v.1 v.2 (fun c d=>a (c,d)) (b 0)⟩
def Lb (ρ:Type):Env ρ:=Ù [(72,vE)] [IC ρ]
def aaZ:û:=⟨[Ô,ab],[tI],fun(x:Val bv)=>Jk x.1 x.2⟩
def Uq:Ç:=Ls 0 [ab,tI,tI,ak] [tI] ⟨37,aN 2 (.box 0 0::aN 16 [.con ab,.con tI,.var tI]),[bU]⟩ [(.ret,⟨37,aN 2 (.box 0 0::.any::.var tI::aN 14 [.con ab,.con tI]),[bU]⟩,[tI]),(.exit 0,⟨37,aN 2 (.box 0 0::aN 16 [.con ab,.con tI]),[bU]⟩,[])]
def Ei (ρ:Type):ô ρ:=⟨[],133,0,Uq,fun(p:Val (.pair ab ba)) (v:Int) b a=>un p.1 p.2.1 p.2.2.1 p.2.2.2 v (fun c=>b c) (a 0) (a 1)⟩
def FQ (ρ:Type):Env ρ:=Ù [(126,zN),(127,sX),(196,Xl)] [Ei ρ]
def VA:û:=⟨[Ô,ar,tI],[ab],fun(x:Val (.pair Ô (.pair ar tI)))=>wP x.1 x.2.1 x.2.2⟩
def Bj:Ç:=Ls 0 [ar,tI,tI,tI,ak] [tI,ab] ⟨29,.any::.con ar::.con tI::.box 0 0::aN 3 (.own 1::aN 5 [.con tI,.var tI]),[bU,.rowv tI]⟩ [(.exit 0,⟨29,.any::.con ar::.con tI::.box 0 0::aN 3 (.own 1::aN 5 [.con tI]),[bU,.rowv tI]⟩,[ab])]
def Bi (ρ:Type):ô ρ:=⟨[],134,0,Bj,fun(p:Val (tyL Bj.cs)) (v:f4) a b=>qr p.2.2.1 v.1 v.2 (fun c d=>a (c,d)) (b 0)⟩
def Bh:Ç:=Ls 2 [ar,ak,tI,tI,ak,ab,tI,ak,aw,ab] [tI,tI] ⟨140,.any::.con ar::.own 1::.box 2 0::aN 3 (.box 3 0::.own 4::.own 5::.var tI::aN 14 [.con ak,.con tI,.var tI]),[bU,.rowc tI,bU,.cells [.nils],.rowc .bool,.rowc tI]⟩ [(.exit 0,⟨140,.any::.con ar::.own 1::.box 2 0::aN 3 (.box 3 0::.own 4::.own 5::.var tI::aN 14 [.con ak,.con tI]),[bU,.rowc tI,bU,.cells [.nils],.rowc .bool,.rowc tI]⟩,[tI])]
def Bg (ρ:Type):ô ρ:=⟨[8,3],197,0,Bh,fun(p:Val (tyL Bh.cs)) (v:a8) a b=>xV p.2.1 p.2.2.1 v.1 v.2 (fun c d=>a (c,d)) (b 0)⟩
def Bf:Ç:=Ls 2 [ar,tI,tI,tI,ak,ab,tI,ak,ab] [tI,aw,ab] ⟨140,.any::.con ar::.own 1::.box 2 0::aN 3 (.box 3 0::.own 4::.own 5::.con tI::aN 27 [.con tI,.var tI]),cF⟩ [(.exit 2,⟨140,.any::.con ar::.own 1::.box 2 0::aN 3 (.box 3 0::.own 4::.own 5::.con tI::aN 27 [.con tI]),cF⟩,[aw,ab])]
def Be (ρ:Type):ô ρ:=⟨[8,3],197,2,Bf,fun(p:Val (tyL Bf.cs)) (v:y8) a b=>xU p.2.2.1 p.2.2.2.2.2.1 v.1 v.2.1 v.2.2 (fun c d e=>a (c,d,e)) (b 0)⟩
def Bb:Ç:=Ls 2 [ar,tI,tI,ak,tI,tI,ak,tI,ak,ab] [tI,ab,aw,ab] ⟨140,.any::.con ar::.own 1::.box 2 0::aN 3 (.box 3 0::.own 4::.own 5::.con tI::aN 3 (.con tI::aN 62 [.con ak,.con tI,.var tI])),cG⟩ [(.ret,⟨140,.any::.con ar::.own 1::.box 2 0::aN 2 (.var .bool::.box 3 0::.own 4::.own 5::.con tI::aN 3 (.con tI::aN 62 [.con ak,.con tI])),cG⟩,[.bool,ab,aw,ab]),(.exit 6,⟨140,.any::.con ar::.own 1::.box 2 0::aN 3 (.box 3 0::.own 4::.own 5::.con tI::aN 3 (.con tI::aN 62 [.con ak,.con tI])),cG⟩,[ab,aw,ab])]
def Ba (ρ:Type):ô ρ:=⟨[8,3],197,6,Bb,fun(p:Val (tyL Bb.cs)) (v:nj) b a=>H6 p.1 p.2.1 p.2.2.1 p.2.2.2.1 p.2.2.2.2.1 v.1 v.2.1 v.2.2.1 v.2.2.2 (fun c d e f=>b (c,d,e,f)) (a 0) (a 1)⟩
def QS:Ç:=Ls 2 [ar,tI,tI,ak,tI,ak] [ab,aw,ab,ab] ⟨140,[.any,.con ar,.own 1,.box 2 0,.any,.any,.any,.box 3 0,.own 4,.own 5,.con tI],cH⟩ [(.ret,⟨140,[.any,.con ar,.own 1,.box 2 0,.any,.any,.var .bool,.box 3 0,.own 4,.own 5,.con tI],cH⟩,[.bool,ab,aw,ab,ab])]
def Bc (ρ:Type):ô ρ:=⟨[8,3],197,4,QS,fun(p:Val (.pair ar bB)) (v:Val bo) a b=>xT p.1 p.2.1 p.2.2.2.2.1 p.2.2.2.2.2 v.1 v.2.1 v.2.2.1 v.2.2.2 (fun c d e f=>a (c,d,e,f)) (b 0)⟩
def jR (ρ:Type):Env ρ:=Ù [] [Bi ρ,Bg ρ,Be ρ,Ba ρ,Bc ρ]
def aa0:û:=⟨[Ô],[aa,tI],fun(x:io)=>wQ x⟩
def Us:Ç:=Ls 1 [ab,tI,tI,ak,tI,ak] [tI,ab] ⟨28,.any::.box 1 0::aN 2 (.con ab::.own 2::aN 7 [.con tI,.var tI]),[bU,bU,.rowv tI]⟩ [(.exit 0,⟨28,.any::.box 1 0::aN 2 (.con ab::.own 2::aN 7 [.con tI]),[bU,bU,.rowv tI]⟩,[ab])]
def Ek (ρ:Type):ô ρ:=⟨[4,1],237,0,Us,fun(p:Val (.pair ab bB)) (v:f4) a b=>ur p.2.1 p.2.2.2.2.1 p.2.2.2.2.2 v.1 v.2 (fun c d=>a (c,d)) (b 0)⟩
def Ur:Ç:=Ls 0 [ab,tI,ab] [tI,aa] ⟨39,aN 5 (.con ab::.own 0::.own 1::aN 12 [.con tI,.var tI]),[.rowc tI,.rowv Ã]⟩ [(.exit 0,⟨39,aN 5 (.con ab::.own 0::.own 1::aN 12 [.con tI]),[.rowc tI,.rowv Ã]⟩,[aa])]
def Ej (ρ:Type):ô ρ:=⟨[],185,0,Ur,fun(p:Val bn) (v:pc) a b=>uq p.1 p.2.1 p.2.2 v.1 v.2 (fun c d=>a (c,d)) (b 0)⟩
def xW (ρ:Type):Env ρ:=Ù [(133,aaZ),(134,VA)] [Ek ρ,Ej ρ]
def Vl:û:=⟨[È,Ã],[Ã,tI],fun(x:nn)=>Cq x.1 x.2⟩
def L4 (ρ:Type):Env ρ:=Ù [(66,vD),(68,aa6),(69,afp),(185,aa0)] []
def Vo:û:=⟨[Â,tI,tI],[ak,tI],fun(x:wk)=>Cs x.1 x.2.1 x.2.2⟩
def Az:Ç:=Ls 0 [tI,tI,aj,tI,tI,tI,ae,aa,af,ac,aa,ai] [tI,aZ] ⟨113,.any::.con tI::.con tI::.box 0 0::aN 7 (.omp 1::aN 30 [.con aj,.con tI,.var tI]),[bJ,.mapv tI Ã]⟩ [(.ret,⟨113,.any::.con tI::.con tI::.box 0 0::aN 2 (.nils::.var tI::aN 3 (.omp 1::aN 30 [.con aj,.con tI])),[bJ,.mapv tI Ã]⟩,[tI,aZ]),(.exit 0,⟨113,.any::.con tI::.con tI::.box 0 0::aN 7 (.omp 1::aN 30 [.con aj,.con tI]),[bJ,.mapv tI Ã]⟩,[aZ])]
def Ay (ρ:Type):ô ρ:=⟨[],42,0,Az,fun(p:Val (tyL Az.cs)) (v:Val (.pair tI aZ)) b a=>let A:=p.2.2.2.2;let B:=A.2.2.2.2;qd p.1 p.2.1 p.2.2.1 p.2.2.2.1 A.1 A.2.1 A.2.2.1 A.2.2.2.1 B.1 B.2.1 B.2.2.1 B.2.2.2 v.1 v.2 (fun c d=>b (c,d)) (a 0) (a 1)⟩
def Ax:Ç:=Ls 0 [ae,tI,aZ] [tI,ak] ⟨113,aN 11 (.omp 0::aN 7 (.own 1::aN 70 [.con ae,.con tI,.var tI])),[.mapc tI Ã,.rowv ĝ]⟩ [(.exit 2,⟨113,aN 11 (.omp 0::aN 7 (.own 1::aN 70 [.con ae,.con tI])),[.mapc tI Ã,.rowv ĝ]⟩,[ak])]
def Aw (ρ:Type):ô ρ:=⟨[],42,2,Ax,fun(p:Val (tyL Ax.cs)) (v:io) a b=>p9 p.1 p.2.1 p.2.2 v.1 v.2 (fun c d=>a (c,d)) (b 0)⟩
def tG (ρ:Type):Env ρ:=Ù [(80,jH),(81,Xg),(88,zK),(104,j8),(105,JX),(106,Vl)] [Ay ρ,Aw ρ]
def aaG:û:=⟨[Â,ag],[.bool],fun(x:lA)=>I4 x.1 x.2⟩
def kR:Tpl:=⟨13,[.any,.any,.box 2 0],[.cells [.con tI,.con tI,.con ae,.con aa,.con af,.con ac,.con aa,.con ai],.dead,.cells [.own 3],.rowv tI]⟩
def oh (ρ:Type):JJ ρ:=⟨[7,8,1,1,1,1],298,0,3,[tI,tI,ae,aa,af,ac,aa,ai],[ab],kR,IJ,fun(p:ry) (v:an) y a=>Ai v y (fun b=>a b)⟩
def Tt:Ç:=Ls 0 [ag,tI,tI,tI,ae,aa,af,ac,aa,ai] [tI] ⟨42,aN 2 (.box 0 0::aN 11 [.con ag,.con tI,.var tI]),[bJ]⟩ [(.ret,⟨42,aN 2 (.box 0 0::.any::.var .bool::aN 9 [.con ag,.con tI]),[bJ]⟩,[.bool]),(.exit 0,⟨42,aN 2 (.box 0 0::aN 11 [.con ag,.con tI]),[bJ]⟩,[])]
def Dz (ρ:Type):ô ρ:=⟨[],154,0,Tt,fun(p:ni) (v:Int) b a=>tr p.1 p.2.1 p.2.2.2.2.2.2.2.2.2 v (fun c=>b c) (a 0) (a 1)⟩
def L5 (ρ:Type):Do (JJ ρ):=[oh ρ]
def ι (ρ:Type):Env ρ:={Ù [(220,aaF)] [Dz ρ] with ranges:=Ξ (L5 ρ)}
def zL:û:=⟨[Â,ag],[tI],fun(x:lA)=>sk x.1 x.2⟩
def PI (ρ:Type):Env ρ:=Ù [(80,jH),(154,aaG)] []
def adn:û:=⟨[Â,ag,tI,tI],[tI,tI],fun(x:rn)=>Sc x.1 x.2.1 x.2.2.1 x.2.2.2⟩
def abr (ρ:Type):Env ρ:=Ù [(78,zL),(88,zK),(105,JX)] []
def aaY:û:=⟨[Ô,tI,tI],[ag],fun(x:Val (.pair Ô Ã))=>Jj x.1 x.2.1 x.2.2⟩
def V4:Ç:=Ls 0 [tI,tI,tI,tI,ak] [tI,ab] ⟨45,.any::.con tI::.con tI::.box 0 0::aN 3 (.own 1::aN 7 [.con tI,.var tI]),[bU,.rowv tI]⟩ [(.exit 0,⟨45,.any::.con tI::.con tI::.box 0 0::aN 3 (.own 1::aN 7 [.con tI]),[bU,.rowv tI]⟩,[ab])]
def VZ (ρ:Type):ô ρ:=⟨[],128,0,V4,fun(p:Val (tyL V4.cs)) (v:f4) a b=>Cc p.2.2.1 v.1 v.2 (fun c d=>a (c,d)) (b 0)⟩
def VX:Ç:=Ls 4 [ab,tI,ag,tI,ak] [tI,ab] ⟨53,.con ab::.box 1 0::aN 2 (.own 4::aN 7 [.con tI,.var tI]),cS⟩ [(.exit 0,⟨53,.con ab::.box 1 0::aN 2 (.own 4::aN 7 [.con tI]),cS⟩,[ab])]
def VW (ρ:Type):ô ρ:=⟨[12,8],198,0,VX,fun(p:Val (tyL VX.cs)) (v:f4) a b=>YC p.2.1 v.1 v.2 (fun c d=>a (c,d)) (b 0)⟩
def VV:Ç:=Ls 4 [ab,ak,tI,ag,tI,ak] [tI,ab] ⟨53,.con ab::aN 3 (.own 4::aN 16 [.con ak,.con tI,.var tI]),cS⟩ [(.exit 2,⟨53,.con ab::aN 3 (.own 4::aN 16 [.con ak,.con tI]),cS⟩,[ab])]
def VU (ρ:Type):ô ρ:=⟨[12,8],198,2,VV,fun(p:Val (tyL VV.cs)) (v:f4) a b=>H5 p.1 p.2.1 p.2.2.1 v.1 v.2 (fun c d=>a (c,d)) (b 0)⟩
def agY:Ç:=Ls 0 [tI,tI,ak] [tI,ag] ⟨45,aN 9 (.own 0::.fn 198 [(1,0)]::aN 18 [.con tI,.var tI]),[.rowv ab,bU]⟩ [(.exit 2,⟨45,aN 9 (.own 0::.fn 198 [(1,0)]::aN 18 [.con tI]),[.rowv ab,bU]⟩,[ag])]
def VY (ρ:Type):ô ρ:=⟨[],128,2,agY,fun(p:Val ba) (v:px) a b=>NX p.1 p.2.1 p.2.2 v.1 v.2 (fun c d=>a (c,d)) (b 0)⟩
def KW (ρ:Type):Env ρ:=Ù [] [VZ ρ,VW ρ,VU ρ,VY ρ]
def aa1:û:=⟨[Ô],[ab,tI],fun(x:io)=>pm x⟩
def Ut:Ç:=Ls 0 [tI,tI,ak] [tI,aj] ⟨93,.any::.box 0 0::aN 6 (.own 1::aN 24 [.con tI,.var tI]),[bU,.rowv ag]⟩ [(.exit 0,⟨93,.any::.box 0 0::aN 6 (.own 1::aN 24 [.con tI]),[bU,.rowv ag]⟩,[aj])]
def Eu (ρ:Type):ô ρ:=⟨[],64,0,Ut,fun(p:Val ba) (v:i4) a b=>oX p.1 p.2.1 p.2.2 v.1 v.2 (fun c d=>a (c,d)) (b 0)⟩
def Em:Ç:=Ls 3 [tI,ag,ak,tI,tI,ak,aj,tI,tI,tI,tI,ak] [tI,tI,tI,ab] ⟨73,.any::.var tI::.con tI::.con ag::.fn 129 []::.box 3 0::aN 5 (.own 4::.var tI::aN 7 [.con ak,.con tI,.var tI]),cT⟩ [(.exit 2,⟨73,.any::.var tI::.con tI::.con ag::.fn 129 []::.box 3 0::aN 5 (.own 4::.var tI::aN 7 [.con ak,.con tI]),cT⟩,[tI,tI,ab])]
def El (ρ:Type):ô ρ:=⟨[22,10],130,2,Em,fun(p:Val (tyL Em.cs)) (v:AN) a b=>Mh p.1 p.2.1 p.2.2.1 p.2.2.2.1 v.1 v.2.1 v.2.2.1 v.2.2.2 (fun c d e f=>a (c,d,e,f)) (b 0)⟩
def Eo:Ç:=Ls 3 [ag,tI,ak,aj,tI,tI,tI,tI,ak] [tI,tI,tI,ab] ⟨73,.any::.var tI::.var tI::.con ag::.fn 129 []::.box 3 0::aN 5 [.own 4,.var tI],cT⟩ [(.exit 0,⟨73,aN 3 (.con ag::.fn 129 []::.box 3 0::aN 5 [.own 4]),cT⟩,[ab])]
def En (ρ:Type):ô ρ:=⟨[22,10],130,0,Eo,fun(p:Val (tyL Eo.cs)) (v:AN) a b=>Bk p.1 p.2.2.2.2.2.2.2.2 v.1 v.2.1 v.2.2.1 v.2.2.2 (fun c d e f=>a (c,d,e,f)) (b 0)⟩
def Er:Ç:=Ls 0 [tI,ak,tI,tI,ak,aj] [tI] ⟨93,.any::.box 0 0::aN 6 (.own 1::.any::.fn 129 []::.con tI::aN 37 [.con ak,.con tI,.var tI]),[bU,.rowc ag]⟩ [(.exit 2,⟨93,.any::.box 0 0::aN 6 (.own 1::.any::.fn 129 []::.con tI::aN 37 [.con ak,.con tI]),[bU,.rowc ag]⟩,[]),(.ret,⟨93,.any::.box 0 0::.own 2::.var tI::aN 4 (.own 1::.any::.fn 129 []::.con tI::aN 37 [.con ak,.con tI]),[bU,.rowc ag,.rowv tI]⟩,[tI,ab]),(.exit 4,⟨93,.any::.box 0 0::aN 6 (.own 1::.any::.fn 129 []::.con tI::aN 37 [.con ak,.con tI]),[bU,.rowc ag]⟩,[])]
def Ep (ρ:Type):ô ρ:=⟨[],64,4,Er,fun(p:Val (tyL Er.cs)) (v:Int) b a=>oW p.1 p.2.1 p.2.2.1 p.2.2.2.1 p.2.2.2.2.1 p.2.2.2.2.2 v (fun c=>b c) (a 0) (a 1) (a 2)⟩
def Et:Ç:=Ls 0 [tI,ak,aj] [tI] ⟨93,.any::.box 0 0::aN 6 [.own 1,.any,.fn 129 [],.var tI],[bU,.rowc ag]⟩ [(.exit 2,⟨93,.any::.box 0 0::aN 6 [.own 1,.any,.fn 129 []],[bU,.rowc ag]⟩,[]),(.ret,⟨93,.any::.box 0 0::.own 2::.var tI::aN 4 [.own 1,.any,.fn 129 []],[bU,.rowc ag,.rowv tI]⟩,[tI,ab])]
def Es (ρ:Type):ô ρ:=⟨[],64,2,Et,fun(p:Val (tyL Et.cs)) (v:Int) b a=>ut p.1 p.2.1 p.2.2 v (fun c=>b c) (a 0) (a 1)⟩
def lS (ρ:Type):Env ρ:=Ù [(126,zN),(127,sX),(128,aaY)] [Eu ρ,El ρ,En ρ,Ep ρ,Es ρ]
def aaJ:û:=⟨[Â],[ag,tI],fun(x:bl)=>I9 x⟩
def TG:Ç:=Ls 0 [aj,tI,tI,tI,ae,aa,af,ac,aa,ai] [tI,ag] ⟨46,.any::.box 0 0::aN 3 (.own 1::aN 13 [.con aj,.con tI,.var tI]),[bJ,.rowv ab]⟩ [(.ret,⟨46,.any::.box 0 0::.nils::.var tI::.any::.own 1::aN 13 [.con aj,.con tI],[bJ,.rowv ab]⟩,[tI,ag]),(.exit 0,⟨46,.any::.box 0 0::aN 3 (.own 1::aN 13 [.con aj,.con tI]),[bJ,.rowv ab]⟩,[ag])]
def DK (ρ:Type):ô ρ:=⟨[],59,0,TG,fun(p:Val (.pair aj aG)) (v:px) b a=>let A:=p.2.2.2.2;tF p.1 p.2.1 p.2.2.1 p.2.2.2.1 A.1 A.2.1 A.2.2.1 A.2.2.2.1 A.2.2.2.2.1 A.2.2.2.2.2 v.1 v.2 (fun c d=>b (c,d)) (a 0) (a 1)⟩
def Fw (ρ:Type):Env ρ:=Ù [(64,aa1),(66,vD),(80,jH),(96,B5),(104,j8)] [DK ρ]
def O1:û:=⟨[Ô,ab],[tI],fun(x:Val bv)=>yC x.1 x.2⟩
def Nr:Ç:=Ls 1 [ab,tI,tI,ak] [tI] ⟨19,.con ab::.fn 238 [(0,0)]::aN 5 [.con tI,.var tI],[bU]⟩ [(.ret,⟨19,[.con ab,.fn 238 [(0,0)],.any,.any,.var tI,.any,.any,.con tI],[bU]⟩,[tI]),(.exit 0,⟨19,.con ab::.fn 238 [(0,0)]::aN 5 [.con tI],[bU]⟩,[])]
def yX (ρ:Type):ô ρ:=⟨[3,2,1,2],260,0,Nr,fun(p:Val (.pair ab ba)) (v:Int) b a=>om p.1 p.2.1 p.2.2.2 v (fun c=>b c) (a 0) (a 1)⟩
def xS (ρ:Type):Env ρ:=Ù [] [yX ρ]
def afk:û:=⟨[Ô,tI,ab],[tI,tI,.bool],fun(x:Val (.pair Ô ġ))=>Oc x.1 x.2.1 x.2.2⟩
def Yz:Ç:=Ls 0 [ab,tI,tI,ak] [tI,tI,tI] ⟨37,.any::.var tI::.any::.box 0 0::aN 5 [.var tI,.any,.any,.any,.con ab,.con tI,.var tI],[bU]⟩ [(.ret,⟨37,aN 3 (.box 0 0::aN 2 (.var tI::.var tI::.var .bool::aN 4 [.con ab,.con tI])),[bU]⟩,[tI,tI,.bool]),(.exit 0,⟨37,.any::.var tI::.any::.box 0 0::aN 5 [.var tI,.any,.any,.any,.con ab,.con tI],[bU]⟩,[tI,tI])]
def HV (ρ:Type):ô ρ:=⟨[],189,0,Yz,fun(p:Val (.pair ab ba)) (v:rm) b a=>xR p.1 p.2.1 p.2.2.2 v.1 v.2.1 v.2.2 (fun c d e=>b (c,d,e)) (a 0) (a 1)⟩
def KS (ρ:Type):Env ρ:=Ù [] [HV ρ]
def Dt:û:=⟨[Ô,ab],[tI],fun(x:Val bv)=>ov x.1 x.2⟩
def yZ (ρ:Type):Env ρ:=Ù [(126,zN),(188,O1),(189,afk)] []
def Dp:û:=⟨[Â,ag],[tI],fun(x:lA)=>kY x.1 x.2⟩
def rq:Ç:=Ls 0 [ag,aj,tI,tI,tI,ae,aa,af,ac,aa,ai] [tI] ⟨47,.any::.con ag::.box 0 0::aN 21 [.con aj,.con tI,.var tI],[bJ]⟩ [(.ret,⟨47,.any::.con ag::.box 0 0::.any::.var tI::aN 19 [.con aj,.con tI],[bJ]⟩,[tI]),(.exit 0,⟨47,.any::.con ag::.box 0 0::aN 21 [.con aj,.con tI],[bJ]⟩,[])]
def ro (ρ:Type):ô ρ:=⟨[],60,0,rq,fun(p:Val (tyL rq.cs)) (v:Int) b a=>let A:=p.2.2.2.2;let B:=A.2.2.2.2;kd p.1 p.2.1 p.2.2.1 p.2.2.2.1 A.1 A.2.1 A.2.2.1 A.2.2.2.1 B.1 B.2.1 B.2.2 v (fun c=>b c) (a 0) (a 1)⟩
def pq (ρ:Type):Env ρ:=Ù [(66,vD),(80,jH),(96,B5),(104,j8),(122,Dt)] [ro ρ]
def LV:û:=⟨[ac],[Â],fun(x:c7)=>ŭ x⟩
def Dw (ρ:Type):Env ρ:=Ù [] []
def OX:û:=⟨[],[.bool],fun(_:Unit)=>ľ⟩
def G0 (ρ:Type):Env ρ:=Ù [(19,aiP),(20,aaK),(26,zM),(28,GD),(29,afc),(30,LW),(35,pT),(40,Xh),(42,Vo),(49,adn),(59,aaJ),(60,Dp),(77,LV)] []
def EV:û:=⟨[tI,tI,tI],[.bool],fun(x:rm)=>kP x.1 x.2.1 x.2.2⟩
def abB (ρ:Type):Env ρ:=Ù [] []
def B7:û:=⟨[tI],[.bool],fun(x:Int)=>uL x⟩
def VM (ρ:Type):Env ρ:=Ù [(109,EV)] []
def aff:û:=⟨[ab,tI],[.bool],fun(x:ly)=>Oa x.1 x.2⟩
def Yl:Ç:=Ls 0 [ab,tI] [tI] ⟨18,[.con ab,.con tI,.any,.any,.any,.var tI],[]⟩ [(.ret,⟨18,[.con ab,.con tI,.any,.any,.var .bool],[]⟩,[.bool]),(.exit 0,⟨18,[.con ab,.con tI],[]⟩,[])]
def HQ (ρ:Type):ô ρ:=⟨[],181,0,Yl,fun(p:ly) (v:Int) b a=>xP p.1 p.2 v (fun c=>b c) (a 0) (a 1)⟩
def KL (ρ:Type):Env ρ:=Ù [] [HQ ρ]
def OZ:û:=⟨[ab,ab],[ab],fun(x:u5)=>la x.1 x.2⟩
def Ue:Ç:=Ls 0 [ab,ab] [tI,ab] ⟨28,[.con ab,.con ab,.any,.any,.any,.own 0,.var tI],cq⟩ [(.exit 0,⟨28,[.con ab,.con ab,.any,.any,.any,.own 0],cq⟩,[ab])]
def Eg (ρ:Type):ô ρ:=⟨[],102,0,Ue,fun(p:u5) (v:f4) a b=>uj p.1 p.2 v.1 v.2 (fun c d=>a (c,d)) (b 0)⟩
def FL (ρ:Type):Env ρ:=Ù [(181,aff)] [Eg ρ]
def NS:û:=⟨[ab,ab],[tI],fun(x:u5)=>qz x.1 x.2⟩
def VL (ρ:Type):Env ρ:=Ù [(102,OZ)] []
def aaP:û:=⟨[È,Ö,tI],[.bool],fun(x:Val (.pair È (.pair Ö tI)))=>Je x.1 x.2.1 x.2.2⟩
def T3:Ç:=Ls 0 [tI,tI,tI,ae,aa,af,ac,aa,tI,tI,tI,tI,tI,tI,tI,tI] [tI] ⟨76,[.any,.any,.con tI,.box 0 0,.box 1 0,.any,.any,.var tI],[bD,bE]⟩ [(.ret,⟨76,[.any,.any,.con tI,.box 0 0,.box 1 0,.any,.var .bool],[bD,bE]⟩,[.bool]),(.exit 0,⟨76,[.any,.any,.con tI,.box 0 0,.box 1 0],[bD,bE]⟩,[])]
def D4 (ρ:Type):ô ρ:=⟨[],191,0,T3,fun(p:Val aq) (v:Int) b a=>tV p.1 p.2.2.2.2.2.2.1 p.2.2.2.2.2.2.2.2.1 v (fun c=>b c) (a 0) (a 1)⟩
def T2:Ç:=Ls 0 [tI,tI,tI,ae,aa,af,ac,aa,tI,tI,tI,tI,tI,tI,tI,tI] [tI] ⟨76,aN 2 (.con tI::.box 0 0::.box 1 0::aN 4 [.var tI]),[bD,bE]⟩ [(.ret,⟨76,[.any,.any,.con tI,.box 0 0,.box 1 0,.any,.var .bool],[bD,bE]⟩,[.bool]),(.exit 2,⟨76,[.any,.any,.con tI,.box 0 0,.box 1 0],[bD,bE]⟩,[])]
def D3 (ρ:Type):ô ρ:=⟨[],191,2,T2,fun(p:Val aq) (v:Int) b a=>oV p.1 p.2.2.2.2.2.2.2.1 p.2.2.2.2.2.2.2.2.1 v (fun c=>b c) (a 0) (a 1)⟩
def xL (ρ:Type):Env ρ:=Ù [(194,NS)] [D4 ρ,D3 ρ]
def B6:û:=⟨[È],[aa],fun(x:b6)=>md x⟩
def Qu:Ç:=Ls 0 [tI,tI,ae,aa,af,ac,aa] [tI,ab] ⟨114,[.any,.box 0 0,.any,.own 1,.var tI],cV⟩ [(.exit 0,⟨114,[.any,.box 0 0,.any,.own 1],cV⟩,[ab])]
def A2 (ρ:Type):ô ρ:=⟨[],124,0,Qu,fun(p:Val am) (v:f4) a b=>qn p.2.2.1 v.1 v.2 (fun c d=>a (c,d)) (b 0)⟩
def Qt:Ç:=Ls 0 [tI,tI,ae,aa,af,ac,aa] [tI,ab] ⟨114,[.any,.box 0 0,.any,.own 1,.any,.var tI],cV⟩ [(.exit 2,⟨114,[.any,.box 0 0,.any,.own 1],cV⟩,[ab])]
def A0 (ρ:Type):ô ρ:=⟨[],124,2,Qt,fun(p:Val am) (v:f4) a b=>qm p.2.2.2.2.2.1 v.1 v.2 (fun c d=>a (c,d)) (b 0)⟩
def Qs:Ç:=Ls 0 [tI,tI,ae,aa,af,ac,aa] [tI,ab] ⟨114,[.any,.box 0 0,.any,.own 1,.any,.any,.var tI],cV⟩ [(.exit 4,⟨114,[.any,.box 0 0,.any,.own 1],cV⟩,[ab])]
def AZ (ρ:Type):ô ρ:=⟨[],124,4,Qs,fun(p:Val am) (v:f4) a b=>ql p.2.2.2.2.2.2 v.1 v.2 (fun c d=>a (c,d)) (b 0)⟩
def AR:Ç:=Ls 0 [tI,tI,tI,tI,ae,aa,af,ac,aa,ab,aa] [tI,tI] ⟨114,[.any,.box 0 0,.any,.own 1,.any,.any,.any,.own 2,.con tI,.con tI,.var tI,.var tI],[bD,.rowc tI,.rowc Ã]⟩ [(.exit 10,⟨114,[.any,.box 0 0,.any,.own 1,.any,.any,.any,.own 2,.con tI,.con tI,.var tI],[bD,.rowc tI,.rowc Ã]⟩,[tI])]
def AQ (ρ:Type):ô ρ:=⟨[],124,10,AR,fun(p:Val (tyL AR.cs)) (v:a8) a b=>mL p.2.1 p.2.2.2.2.2.2.2.2.2.1 v.1 v.2 (fun c d=>a (c,d)) (b 0)⟩
def AW:Ç:=Ls 0 [tI,tI,tI,ae,aa,af,ac,aa,ab] [tI,aa] ⟨114,[.any,.box 0 0,.any,.own 1,.any,.any,.any,.own 2,.con tI,.var tI],cW⟩ [(.exit 8,⟨114,[.any,.box 0 0,.any,.own 1,.any,.any,.any,.own 2,.con tI],cW⟩,[aa])]
def AU (ρ:Type):ô ρ:=⟨[],124,8,AW,fun(p:Val (tyL AW.cs)) (v:pc) a b=>let A:=p.2.2.2.2;mM p.1 p.2.1 p.2.2.1 p.2.2.2.1 A.1 A.2.1 A.2.2.1 A.2.2.2.1 A.2.2.2.2 v.1 v.2 (fun c d=>a (c,d)) (b 0)⟩
def AY:Ç:=Ls 0 [tI,tI,ae,aa,af,ac,aa,ab] [tI,aa] ⟨114,[.any,.box 0 0,.any,.own 1,.any,.any,.any,.own 2,.var tI],cW⟩ [(.exit 6,⟨114,[.any,.box 0 0,.any,.own 1,.any,.any,.any,.own 2],cW⟩,[aa])]
def AX (ρ:Type):ô ρ:=⟨[],124,6,AY,fun(p:Val (tyL AY.cs)) (v:pc) a b=>let A:=p.2.2.2.2;qk p.1 p.2.1 p.2.2.1 p.2.2.2.1 A.1 A.2.1 A.2.2.1 A.2.2.2 v.1 v.2 (fun c d=>a (c,d)) (b 0)⟩
def iZ (ρ:Type):Env ρ:=Ù [(191,aaP)] [A2 ρ,A0 ρ,AZ ρ,AQ ρ,AU ρ,AX ρ]
def Vu:û:=⟨[È,Ã],[tI],fun(x:nn)=>kz x.1 x.2⟩
def QB:Ç:=Ls 0 [aa,tI,tI] [tI] ⟨23,[.any,.any,.any,.box 0 0,.any,.con aa,.var tI],[bM]⟩ [(.ret,⟨23,[.any,.any,.any,.box 0 0,.var tI,.con aa],[bM]⟩,[tI]),(.exit 0,⟨23,[.any,.any,.any,.box 0 0,.any,.con aa],[bM]⟩,[])]
def A3 (ρ:Type):ô ρ:=⟨[],111,0,QB,fun(p:Val (.pair aa Ã)) (v:Int) b a=>qo p.1 p.2.1 p.2.2 v (fun c=>b c) (a 0) (a 1)⟩
def A4 (ρ:Type):Env ρ:=Ù [(124,B6)] [A3 ρ]
def qZ:û:=⟨[È,tI],[tI],fun(x:BE)=>jX x.1 x.2⟩
def Uh:Ç:=Ls 0 [tI,tI,tI,ae,aa,af,ac,aa] [tI] ⟨22,[.any,.con tI,.box 0 0,.any,.any,.var tI],[bD]⟩ [(.ret,⟨22,[.any,.con tI,.box 0 0,.any,.var tI],[bD]⟩,[tI]),(.exit 0,⟨22,[.any,.con tI,.box 0 0],[bD]⟩,[])]
def Eh (ρ:Type):ô ρ:=⟨[],33,0,Uh,fun(p:Val (.pair tI am)) (v:Int) b a=>uk p.1 p.2.2.2.1 v (fun c=>b c) (a 0) (a 1)⟩
def FN (ρ:Type):Env ρ:=Ù [] [Eh ρ]
def GI:û:=⟨[È,tI,tI],[iE,.bool],fun(x:nn)=>jW x.1 x.2.1 x.2.2⟩
def Ef:Ç:=Ls 0 [tI,tI,tI,tI,ae,aa,af,ac,aa] [tI,tI,tI,tI,tI] ⟨42,[.any,.con tI,.con tI,.box 0 0,.any,.any,.box 1 0,.any,.var tI],[bD,cf]⟩ [(.ret,⟨42,[.any,.con tI,.con tI,.box 0 0,.any,.any,.box 1 0,.var .bool],[bD,cf]⟩,[.bool,tI,tI,tI,tI]),(.exit 0,⟨42,[.any,.con tI,.con tI,.box 0 0,.any,.any,.box 1 0],[bD,cf]⟩,[tI,tI,tI,tI])]
def Ee (ρ:Type):ô ρ:=⟨[],85,0,Ef,fun(p:Val (tyL Ef.cs)) (v:Val bw) b a=>uh p.1 p.2.1 p.2.2.2.2.2.2.1 v.1 v.2.1 v.2.2.1 v.2.2.2.1 v.2.2.2.2 (fun c d e f g=>b (c,d,e,f,g)) (a 0) (a 1)⟩
def FK (ρ:Type):Env ρ:=Ù [] [Ee ρ]
def aaQ:û:=⟨[È,tI,tI],[.bool],fun(x:nn)=>Jf x.1 x.2.1 x.2.2⟩
def D6:Ç:=Ls 0 [tI,tI,tI,tI,ae,aa,af,ac,aa] [tI] ⟨33,[.any,.con tI,.con tI,.box 0 0,.any,.any,.any,.var tI],[bD]⟩ [(.ret,⟨33,[.any,.con tI,.con tI,.box 0 0,.any,.any,.var .bool],[bD]⟩,[.bool]),(.exit 0,⟨33,[.any,.con tI,.con tI,.box 0 0],[bD]⟩,[])]
def D5 (ρ:Type):ô ρ:=⟨[],239,0,D6,fun(p:Val (tyL D6.cs)) (v:Int) b a=>tW p.1 p.2.1 p.2.2.2.2.2.1 v (fun c=>b c) (a 0) (a 1)⟩
def FF (ρ:Type):Env ρ:=Ù [] [D5 ρ]
def aaU:û:=⟨[È,tI,tI,tI],[tI],fun(x:Val (.pair È ĝ))=>wO x.1 x.2.1 x.2.2.1 x.2.2.2⟩
def Ed:Ç:=Ls 0 [tI,tI,tI,tI,tI,ae,aa,af,ac,aa] [tI,tI] ⟨48,.any::.con tI::.any::.con tI::.box 0 0::aN 4 [.con tI,.var tI,.var tI],[bD]⟩ [(.exit 0,⟨48,.any::.con tI::.any::.con tI::.box 0 0::aN 4 [.con tI,.var tI],[bD]⟩,[tI])]
def Ec (ρ:Type):ô ρ:=⟨[],192,0,Ed,fun(p:Val (tyL Ed.cs)) (v:a8) a b=>let A:=p.2.2.2.2;ug p.1 p.2.1 p.2.2.1 p.2.2.2.1 A.1 A.2.1 A.2.2.1 A.2.2.2.1 A.2.2.2.2.1 A.2.2.2.2.2 v.1 v.2 (fun c d=>a (c,d)) (b 0)⟩
def FJ (ρ:Type):Env ρ:=Ù [(33,qZ),(85,GI),(239,aaQ)] [Ec ρ]
def Xj:û:=⟨[tI,tI],[tI],fun(x:a8)=>CB x.1 x.2⟩
def Yu:Ç:=Ls 0 [] [tI,tI] ⟨14,[.var tI,.var tI],[]⟩ [(.exit 0,⟨14,[.var tI],[]⟩,[tI])]
def HU (ρ:Type):ô ρ:=⟨[],270,0,Yu,fun(p:Unit) (v:a8) a b=>xQ v.1 v.2 (fun c d=>a (c,d)) (b 0)⟩
def KQ (ρ:Type):Env ρ:=Ù [] [HU ρ]
def Xk:û:=⟨[tI],[tI],fun(x:Int)=>Ji x⟩
def VS (ρ:Type):Env ρ:=Ù [] []
def EW:û:=⟨[tI,tI],[Α],fun(x:a8)=>sl x.1 x.2⟩
def HT (ρ:Type):Env ρ:=Ù [(270,Xj),(271,Xk)] []
def afj:û:=⟨[Ã,Ã],[Α],fun(x:ge)=>Zv x.1 x.2⟩
def VQ (ρ:Type):Env ρ:=Ù [(319,EW)] []
def afh:û:=⟨[Ã],[Ã],fun(x:a8)=>Zu x⟩
def VO (ρ:Type):Env ρ:=Ù [] []
def afg:û:=⟨[Ã,Ã],[Α],fun(x:ge)=>Ob x.1 x.2⟩
def VN (ρ:Type):Env ρ:=Ù [(306,afj),(307,afh)] []
def Vs:û:=⟨[È,tI],[Ã],fun(x:BE)=>wM x.1 x.2⟩
def L9 (ρ:Type):Env ρ:=Ù [(33,qZ)] []
def aaW:û:=⟨[Α,Α],[vu],fun(x:Val (.pair Α Α))=>Jg x.1 x.2⟩
def QM (ρ:Type):Env ρ:=Ù [] []
def afi:û:=⟨[Ã,Ã],[Α],fun(x:ge)=>yB x.1 x.2⟩
def VP (ρ:Type):Env ρ:=Ù [(319,EW)] []
def Vy:û:=⟨[è,Ã],[vu],fun(x:wl)=>CA x.1 x.2⟩
def Me (ρ:Type):Env ρ:=Ù [(308,aaW),(309,afi)] []
def O0:û:=⟨[È,Ð],[è],fun(x:rx)=>yA x.1 x.2⟩
def HS (ρ:Type):Env ρ:=Ù [(194,NS),(286,afg),(287,Vs),(288,Vy)] []
def Vv:û:=⟨[È,Ð],[Ã],fun(x:rx)=>Cx x.1 x.2⟩
def Mc (ρ:Type):Env ρ:=Ù [] []
def aiQ:û:=⟨[tI,tI],[tI],fun(x:a8)=>aea x.1 x.2⟩
def abE (ρ:Type):Env ρ:=Ù [] []
def aaX:û:=⟨[Ã],[tI],fun(x:a8)=>Jh x⟩
def QO (ρ:Type):Env ρ:=Ù [(289,aiQ)] []
def aaV:û:=⟨[tI,tI],[tI],fun(x:a8)=>Sd x.1 x.2⟩
def QK (ρ:Type):Env ρ:=Ù [] []
def Vz:û:=⟨[Ã],[tI],fun(x:a8)=>CC x⟩
def Mg (ρ:Type):Env ρ:=Ù [(290,aaV)] []
def aaR:û:=⟨[È,Ð],[Ã],fun(x:rx)=>wN x.1 x.2⟩
def Qj (ρ:Type):Env ρ:=Ù [(240,O0),(241,Vv),(242,aaX),(243,Vz)] []
def afe:û:=⟨[È],[yP],fun(x:b6)=>Cw x⟩
def Yc:Ç:=Ls 0 [aa,tI,tI,tI,ae,aa,af,ac,aa,tI,tI,tI,tI,tI,tI,tI,tI] [tI,ak,aa] ⟨182,[.any,.box 0 0,.box 1 0,.box 2 0,.con aa,.con tI,.box 3 0,.var tI],[bD,cg,.cells [.own 4,.own 5],bE,.rowv ĝ,.rowv Ã]⟩ [(.exit 2,⟨182,[.any,.box 0 0,.box 1 0,.box 2 0,.con aa,.con tI,.box 3 0],[bD,cg,.cells [.own 4,.own 5],bE,.rowv ĝ,.rowv Ã]⟩,[ak,aa])]
def HM (ρ:Type):ô ρ:=⟨[],131,2,Yc,fun(p:Val (.pair aa aq)) (v:u7) a b=>let A:=p.2.2.2.2;let B:=A.2.2.2.2;rQ p.1 p.2.1 p.2.2.1 p.2.2.2.1 A.1 A.2.1 A.2.2.1 A.2.2.2.1 B.1 B.2.1 B.2.2.1 B.2.2.2.1 B.2.2.2.2.1 B.2.2.2.2.2.1 v.1 v.2.1 v.2.2 (fun c d e=>a (c,d,e)) (b 0)⟩
def Yd:Ç:=Ls 0 [aa,tI,tI,ae,aa,af,ac,aa] [tI,ak,aa] ⟨182,[.any,.box 0 0,.box 1 0,.box 2 0,.con aa,.var tI],cX⟩ [(.exit 0,⟨182,[.any,.box 0 0,.box 1 0,.box 2 0,.con aa],cX⟩,[ak,aa])]
def HN (ρ:Type):ô ρ:=⟨[],131,0,Yd,fun(p:Val (.pair aa am)) (v:u7) a b=>let A:=p.2.2.2.2;xN p.1 p.2.1 p.2.2.1 p.2.2.2.1 A.1 A.2.1 A.2.2.1 A.2.2.2 v.1 v.2.1 v.2.2 (fun c d e=>a (c,d,e)) (b 0)⟩
def Yb:Ç:=Ls 0 [tI,tI,ae,aa,af,ac,aa] [tI,ak,aa] ⟨182,.any::.box 0 0::.box 1 0::.box 2 0::aN 5 [.var tI],cX⟩ [(.exit 4,⟨182,[.any,.box 0 0,.box 1 0,.box 2 0],cX⟩,[ak,aa])]
def HL (ρ:Type):ô ρ:=⟨[],131,4,Yb,fun(p:Val am) (v:u7) a b=>let A:=p.2.2.2.2;xM p.1 p.2.1 p.2.2.1 p.2.2.2.1 A.1 A.2.1 A.2.2 v.1 v.2.1 v.2.2 (fun c d e=>a (c,d,e)) (b 0)⟩
def wo (ρ:Type):Env ρ:=Ù [(111,Vu),(124,B6),(192,aaU),(194,NS),(199,aaR)] [HM ρ,HN ρ,HL ρ]
def oA:û:=⟨[Ã,tI,tI],[.bool],fun(x:ge)=>jV x.1 x.2.1 x.2.2⟩
def D2 (ρ:Type):Env ρ:=Ù [] []
def Vx:û:=⟨[Ã],[.bool],fun(x:a8)=>Cz x⟩
def Md (ρ:Type):Env ρ:=Ù [(270,Xj),(271,Xk)] []
def Vt:û:=⟨[Ö],[.bool],fun(x:nm)=>Cv x⟩
def Ma (ρ:Type):Env ρ:=Ù [(45,B7),(109,EV),(160,oA),(227,Vx)] []
def qL:û:=⟨[È,tI,tI],[tI],fun(x:nn)=>ju x.1 x.2.1 x.2.2⟩
def Mb (ρ:Type):Env ρ:=Ù [(33,qZ)] []
def aaO:û:=⟨[È],[tI],fun(x:b6)=>Jd x⟩
def TX:Ç:=Ls 0 [tI,tI,ae,aa,af,ac,aa] [tI] ⟨37,[.any,.box 0 0,.any,.var tI],[bD]⟩ [(.ret,⟨37,[.any,.box 0 0,.var tI],[bD]⟩,[tI]),(.exit 0,⟨37,[.any,.box 0 0],[bD]⟩,[])]
def D0 (ρ:Type):ô ρ:=⟨[],162,0,TX,fun(p:Val am) (v:Int) b a=>let A:=p.2.2.2.2;tR p.1 p.2.1 p.2.2.1 p.2.2.2.1 A.1 A.2.1 A.2.2 v (fun c=>b c) (a 0) (a 1)⟩
def FB (ρ:Type):Env ρ:=Ù [(45,B7),(166,qL)] [D0 ρ]
def Vr:û:=⟨[È],[tI],fun(x:b6)=>Cu x⟩
def Qc:Ç:=Ls 0 [tI,tI,tI,ae,aa,af,ac,aa,tI,tI,tI,tI] [tI] ⟨111,[.any,.box 0 0,.any,.con tI,.box 1 0,.any,.var tI],cr⟩ [(.ret,⟨111,[.any,.box 0 0,.var tI,.con tI,.box 1 0],cr⟩,[tI]),(.exit 2,⟨111,[.any,.box 0 0,.any,.con tI,.box 1 0],cr⟩,[])]
def AO (ρ:Type):ô ρ:=⟨[],163,2,Qc,fun(p:Val aJ) (v:Int) b a=>let A:=p.2.2.2.2.2;qi p.1 A.1 A.2.2.2.1 A.2.2.2.2.1 A.2.2.2.2.2.1 v (fun c=>b c) (a 0) (a 1)⟩
def Qb:Ç:=Ls 0 [tI,tI,tI,ae,aa,af,ac,aa,tI,tI,tI,tI] [tI] ⟨111,[.any,.box 0 0,.any,.con tI,.box 1 0,.any,.any,.var tI],cr⟩ [(.ret,⟨111,[.any,.box 0 0,.var tI,.con tI,.box 1 0],cr⟩,[tI]),(.exit 4,⟨111,[.any,.box 0 0,.any,.con tI,.box 1 0],cr⟩,[])]
def AM (ρ:Type):ô ρ:=⟨[],163,4,Qb,fun(p:Val aJ) (v:Int) b a=>let A:=p.2.2.2.2;let B:=A.2.2.2.2;mK A.1 B.1 B.2.1 B.2.2.1 v (fun c=>b c) (a 0) (a 1)⟩
def Qd:Ç:=Ls 0 [tI,tI,ae,aa,af,ac,aa] [tI] ⟨111,[.any,.box 0 0,.any,.var tI],[bD]⟩ [(.ret,⟨111,[.any,.box 0 0,.var tI],[bD]⟩,[tI]),(.exit 0,⟨111,[.any,.box 0 0],[bD]⟩,[])]
def AP (ρ:Type):ô ρ:=⟨[],163,0,Qd,fun(p:Val am) (v:Int) b a=>let A:=p.2.2.2.2;qj p.1 p.2.1 p.2.2.1 p.2.2.2.1 A.1 A.2.1 A.2.2 v (fun c=>b c) (a 0) (a 1)⟩
def oU (ρ:Type):Env ρ:=Ù [(109,EV),(160,oA),(166,qL)] [AO ρ,AM ρ,AP ρ]
def aaT:û:=⟨[ab],[.bool],fun(x:an)=>BA x⟩
def Uc:Ç:=Ls 0 [ab] [tI] ⟨35,[.con ab,.any,.any,.var tI],[]⟩ [(.ret,⟨35,[.con ab,.any,.var .bool],[]⟩,[.bool]),(.exit 0,⟨35,[.con ab],[]⟩,[])]
def Eb (ρ:Type):ô ρ:=⟨[],228,0,Uc,fun(p:an) (v:Int) b a=>ue p v (fun c=>b c) (a 0) (a 1)⟩
def FI (ρ:Type):Env ρ:=Ù [(109,EV)] [Eb ρ]
def Vq:û:=⟨[Ð],[.bool],fun(x:im)=>Ct x⟩
def L8 (ρ:Type):Env ρ:=Ù [(45,B7),(109,EV),(160,oA),(228,aaT)] []
def GH:û:=⟨[È,Ð],[tI],fun(x:rx)=>ky x.1 x.2⟩
def HK:Ç:=Ls 0 [tI,tI,ae,aa,af,ac,aa,tI,tI,ab,ab,tI,tI,tI,tI,ab] [tI] ⟨90,[.any,.any,.box 0 0,.box 1 0,.any,.own 2,.var tI],cu⟩ [(.ret,⟨90,[.any,.any,.box 0 0,.box 1 0,.var tI,.own 2],cu⟩,[tI]),(.exit 0,⟨90,[.any,.any,.box 0 0,.box 1 0,.any,.own 2],cu⟩,[])]
def tU (ρ:Type):ô ρ:=⟨[],165,0,HK,fun(p:Val au) (v:Int) b a=>let A:=p.2.2.2.2;lF p.1 p.2.1 p.2.2.1 p.2.2.2.1 A.1 A.2.1 A.2.2.1 A.2.2.2.2.2.2.2.2.2.2.2 v (fun c=>b c) (a 0) (a 1)⟩
def HJ:Ç:=Ls 0 [tI,tI,ae,aa,af,ac,aa,tI,tI,ab,ab,tI,tI,tI,tI,ab] [tI] ⟨90,[.any,.any,.box 0 0,.box 1 0,.any,.own 2,.any,.var tI],cu⟩ [(.ret,⟨90,[.any,.any,.box 0 0,.box 1 0,.var tI,.own 2],cu⟩,[tI]),(.exit 2,⟨90,[.any,.any,.box 0 0,.box 1 0,.any,.own 2],cu⟩,[])]
def tT (ρ:Type):ô ρ:=⟨[],165,2,HJ,fun(p:Val au) (v:Int) b a=>let A:=p.2.2.2.2;jl p.1 p.2.1 p.2.2.1 p.2.2.2.1 A.1 A.2.1 A.2.2.1 A.2.2.2.2.1 A.2.2.2.2.2.2.2.2.2.2.2 v (fun c=>b c) (a 0) (a 1)⟩
def HI:Ç:=Ls 0 [tI,tI,ae,aa,af,ac,aa,tI,tI,ab,ab,tI,tI,tI,tI,ab] [tI] ⟨90,[.any,.any,.box 0 0,.box 1 0,.any,.own 2,.any,.any,.var tI],cu⟩ [(.ret,⟨90,[.any,.any,.box 0 0,.box 1 0,.var tI,.own 2],cu⟩,[tI]),(.exit 4,⟨90,[.any,.any,.box 0 0,.box 1 0,.any,.own 2],cu⟩,[])]
def tS (ρ:Type):ô ρ:=⟨[],165,4,HI,fun(p:Val au) (v:Int) b a=>let A:=p.2.2.2.2;Ι p.1 p.2.1 p.2.2.1 p.2.2.2.1 A.1 A.2.1 A.2.2.1 A.2.2.2.2.1 A.2.2.2.2.2.2.2.2.2.2.2 v (fun c=>b c) (a 0) (a 1)⟩
def jO (ρ:Type):Env ρ:=Ù [(33,qZ),(85,GI),(102,OZ),(166,qL)] [tU ρ,tT ρ,tS ρ]
def Vw:û:=⟨[È],[tI],fun(x:b6)=>Cy x⟩
def QI:Ç:=Ls 0 [tI,tI,ae,aa,af,ac,aa] [tI] ⟨170,[.any,.box 0 0,.any,.var tI],[bD]⟩ [(.ret,⟨170,[.any,.box 0 0,.var tI],[bD]⟩,[tI]),(.exit 0,⟨170,[.any,.box 0 0],[bD]⟩,[])]
def A8 (ρ:Type):ô ρ:=⟨[],83,0,QI,fun(p:Val am) (v:Int) b a=>qq p.2.2.1 v (fun c=>b c) (a 0) (a 1)⟩
def QG:Ç:=Ls 0 [tI,tI,tI,ae,aa,af,ac,aa] [tI] ⟨170,.any::.box 0 0::aN 4 [.con tI,.any,.var tI],[bD]⟩ [(.ret,⟨170,[.any,.box 0 0,.var tI,.any,.any,.any,.con tI],[bD]⟩,[tI]),(.exit 4,⟨170,.any::.box 0 0::aN 4 [.con tI],[bD]⟩,[])]
def A6 (ρ:Type):ô ρ:=⟨[],83,4,QG,fun(p:Val (.pair tI am)) (v:Int) b a=>qp p.1 p.2.2.2.2.2.2.1 v (fun c=>b c) (a 0) (a 1)⟩
def QH:Ç:=Ls 0 [tI,tI,ae,aa,af,ac,aa] [tI] ⟨170,.any::.box 0 0::aN 4 [.var tI],[bD]⟩ [(.ret,⟨170,[.any,.box 0 0,.var tI],[bD]⟩,[tI]),(.exit 2,⟨170,[.any,.box 0 0],[bD]⟩,[])]
def A7 (ρ:Type):ô ρ:=⟨[],83,2,QH,fun(p:Val am) (v:Int) b a=>let A:=p.2.2.2.2;kr p.1 p.2.1 p.2.2.1 p.2.2.2.1 A.1 A.2.1 A.2.2 v (fun c=>b c) (a 0) (a 1)⟩
def QF:Ç:=Ls 0 [tI,tI,ae,aa,af,ac,aa] [tI] ⟨170,.any::.box 0 0::aN 7 [.var tI],[bD]⟩ [(.ret,⟨170,[.any,.box 0 0,.var tI],[bD]⟩,[tI]),(.exit 6,⟨170,[.any,.box 0 0],[bD]⟩,[])]
def A5 (ρ:Type):ô ρ:=⟨[],83,6,QF,fun(p:Val am) (v:Int) b a=>let A:=p.2.2.2.2;kq p.1 p.2.1 p.2.2.1 p.2.2.2.1 A.1 A.2.1 A.2.2 v (fun c=>b c) (a 0) (a 1)⟩
def l8 (ρ:Type):Env ρ:=Ù [(45,B7),(124,B6),(131,afe),(160,oA),(161,Vt),(162,aaO),(163,Vr),(164,Vq),(165,GH),(166,qL)] [A8 ρ,A6 ρ,A7 ρ,A5 ρ]
def afd:û:=⟨[È,ġ],[tI],fun(x:xa)=>N9 x.1 x.2⟩
def XZ:Ç:=Ls 0 [tI,tI,ae,aa,af,ac,aa,tI,ab] [tI] ⟨70,[.any,.any,.box 0 0,.box 1 0,.any,.var tI],cw⟩ [(.ret,⟨70,[.any,.any,.box 0 0,.box 1 0,.var tI],cw⟩,[tI]),(.exit 0,⟨70,[.any,.any,.box 0 0,.box 1 0],cw⟩,[])]
def HD (ρ:Type):ô ρ:=⟨[],84,0,XZ,fun(p:Val aI) (v:Int) b a=>xG p.2.2.2.2.2.2.2.2 v (fun c=>b c) (a 0) (a 1)⟩
def XY:Ç:=Ls 0 [tI,tI,ae,aa,af,ac,aa,tI,ab] [tI] ⟨70,[.any,.any,.box 0 0,.box 1 0,.any,.any,.var tI],cw⟩ [(.ret,⟨70,[.any,.any,.box 0 0,.box 1 0,.var tI],cw⟩,[tI]),(.exit 2,⟨70,[.any,.any,.box 0 0,.box 1 0],cw⟩,[])]
def HC (ρ:Type):ô ρ:=⟨[],84,2,XY,fun(p:Val aI) (v:Int) b a=>let A:=p.2.2.2.2;Fy p.1 p.2.1 p.2.2.1 p.2.2.2.1 A.1 A.2.1 A.2.2.1 A.2.2.2.2 v (fun c=>b c) (a 0) (a 1)⟩
def XX:Ç:=Ls 0 [tI,tI,ae,aa,af,ac,aa,tI,ab] [tI] ⟨70,[.any,.any,.box 0 0,.box 1 0,.any,.any,.any,.var tI],cw⟩ [(.ret,⟨70,[.any,.any,.box 0 0,.box 1 0,.var tI],cw⟩,[tI]),(.exit 4,⟨70,[.any,.any,.box 0 0,.box 1 0],cw⟩,[])]
def HB (ρ:Type):ô ρ:=⟨[],84,4,XX,fun(p:Val aI) (v:Int) b a=>let A:=p.2.2.2.2;Fx p.1 p.2.1 p.2.2.1 p.2.2.2.1 A.1 A.2.1 A.2.2.1 A.2.2.2.1 A.2.2.2.2 v (fun c=>b c) (a 0) (a 1)⟩
def wm (ρ:Type):Env ρ:=Ù [(33,qZ),(109,EV),(166,qL)] [HD ρ,HC ρ,HB ρ]
def J1:û:=⟨[Â],[tI],fun(x:bl)=>wL x⟩
def AI:Ç:=Ls 0 [tI,tI,tI,ae,aa,af,ac,aa,ai,tI,ab] [tI,tI] ⟨99,[.any,.box 0 0,.any,.any,.var tI,.con tI,.box 1 0,.var tI],[bJ,bK]⟩ [(.ret,⟨99,[.any,.box 0 0,.var tI,.any,.any,.con tI,.box 1 0],[bJ,bK]⟩,[tI]),(.exit 2,⟨99,[.any,.box 0 0,.any,.any,.var tI,.con tI,.box 1 0],[bJ,bK]⟩,[tI])]
def AH (ρ:Type):ô ρ:=⟨[],21,2,AI,fun(p:Val (tyL AI.cs)) (v:a8) b a=>let A:=p.2.2.2.2;jf p.2.1 p.2.2.1 p.2.2.2.1 A.1 A.2.1 A.2.2.1 A.2.2.2.1 A.2.2.2.2.2.1 A.2.2.2.2.2.2 v.1 v.2 (fun c d=>b (c,d)) (a 0) (a 1)⟩
def P7:Ç:=Ls 0 [tI,tI,ae,aa,af,ac,aa,ai] [tI,tI] ⟨99,[.any,.box 0 0,.any,.any,.var tI,.var tI],[bJ]⟩ [(.ret,⟨99,[.any,.box 0 0,.var tI],[bJ]⟩,[tI]),(.exit 0,⟨99,[.any,.box 0 0,.any,.any,.var tI],[bJ]⟩,[tI])]
def AJ (ρ:Type):ô ρ:=⟨[],21,0,P7,fun(p:ry) (v:a8) b a=>let A:=p.2.2.2.2;qg p.1 p.2.1 p.2.2.1 p.2.2.2.1 A.1 A.2.1 A.2.2.1 A.2.2.2 v.1 v.2 (fun c d=>b (c,d)) (a 0) (a 1)⟩
def tQ (ρ:Type):Env ρ:=Ù [(83,Vw),(84,afd),(85,GI)] [AH ρ,AJ ρ]
def Xi:û:=⟨[ab,tI],[tI],fun(x:ly)=>Gd x.1 x.2⟩
def aby:Ç:=Ls 0 [ab,tI] [tI] ⟨19,[.con ab,.con tI,.any,.any,.any,.var tI],[]⟩ [(.ret,⟨19,[.con ab,.con tI,.any,.any,.var tI],[]⟩,[tI]),(.exit 0,⟨19,[.con ab,.con tI],[]⟩,[])]
def L7 (ρ:Type):ô ρ:=⟨[],38,0,aby,fun(p:ly) (v:Int) b a=>Cb p.1 p.2 v (fun c=>b c) (a 0) (a 1)⟩
def P8 (ρ:Type):Env ρ:=Ù [] [L7 ρ]
def J0:û:=⟨[Â,ag],[.bool],fun(x:lA)=>mc x.1 x.2⟩
def P5:Ç:=Ls 0 [ag,tI,tI,tI,ae,aa,af,ac,aa,ai] [tI] ⟨72,[.any,.con ag,.box 0 0,.any,.any,.con tI,.var tI],[bJ]⟩ [(.ret,⟨72,[.any,.con ag,.box 0 0,.any,.var .bool,.con tI],[bJ]⟩,[.bool]),(.exit 2,⟨72,[.any,.con ag,.box 0 0,.any,.any,.con tI],[bJ]⟩,[])]
def AF (ρ:Type):ô ρ:=⟨[],22,2,P5,fun(p:ni) (v:Int) b a=>kj p.1 p.2.1 p.2.2.2.2.2.2.2.2.2 v (fun c=>b c) (a 0) (a 1)⟩
def P6:Ç:=Ls 0 [ag,tI,tI,ae,aa,af,ac,aa,ai] [tI] ⟨72,[.any,.con ag,.box 0 0,.any,.any,.var tI],[bJ]⟩ [(.ret,⟨72,[.any,.con ag,.box 0 0,.any,.var .bool],[bJ]⟩,[.bool]),(.exit 0,⟨72,[.any,.con ag,.box 0 0],[bJ]⟩,[])]
def AG (ρ:Type):ô ρ:=⟨[],22,0,P6,fun(p:Val (.pair ag ah)) (v:Int) b a=>km p.1 p.2.2.2.2.2.2.2.2 v (fun c=>b c) (a 0) (a 1)⟩
def tP (ρ:Type):Env ρ:=Ù [(38,Xi)] [AF ρ,AG ρ]
def GG:û:=⟨[aj,aj],[.bool],fun(x:Val (.pair aj aj))=>mR x.1 x.2⟩
def HG:Ç:=Ls 0 [aj,aj] [tI] ⟨29,[.con aj,.con aj,.any,.any,.any,.var tI],[]⟩ [(.ret,⟨29,[.con aj,.con aj,.any,.any,.var .bool],[]⟩,[.bool]),(.exit 0,⟨29,[.con aj,.con aj],[]⟩,[])]
def tO (ρ:Type):ô ρ:=⟨[],25,0,HG,fun(p:Val (.pair aj aj)) (v:Int) b a=>lE p.1 p.2 v (fun c=>b c) (a 0) (a 1)⟩
def rP (ρ:Type):Env ρ:=Ù [(26,zM)] [tO ρ]
def GF:û:=⟨[Â,ag],[È,tI],fun(x:lA)=>qx x.1 x.2⟩
def As (ρ:Type):Env ρ:=Ù [(78,zL),(104,j8)] []
def Vn:û:=⟨[Â,ag],[tI,tI],fun(x:lA)=>Cr x.1 x.2⟩
def L6 (ρ:Type):Env ρ:=Ù [(78,zL),(116,JY)] []
def aaI:û:=⟨[Â,ag,tI],[aQ],fun(x:Val (.pair Â bi))=>I7 x.1 x.2.1 x.2.2⟩
def DJ:Ç:=Ls 0 [ag,tI,ae,tI,tI,tI,ae,aa,af,ac,aa,ai] [tI,aQ] ⟨30,.any::.con ag::.con tI::.box 0 0::aN 3 (.omp 1::aN 5 [.con ae,.con tI,.var tI]),[bJ,.mapv tI tI]⟩ [(.exit 0,⟨30,.any::.con ag::.con tI::.box 0 0::aN 3 (.omp 1::aN 5 [.con ae,.con tI]),[bJ,.mapv tI tI]⟩,[aQ])]
def DI (ρ:Type):ô ρ:=⟨[],117,0,DJ,fun(p:Val (tyL DJ.cs)) (v:y5) a b=>let A:=p.2.2.2.2;let B:=A.2.2.2.2;tz p.1 p.2.1 p.2.2.1 p.2.2.2.1 A.1 A.2.1 A.2.2.1 A.2.2.2.1 B.1 B.2.1 B.2.2.1 B.2.2.2 v.1 v.2 (fun c d=>a (c,d)) (b 0)⟩
def Ft (ρ:Type):Env ρ:=Ù [(105,JX)] [DI ρ]
def aaL:û:=⟨[Â,ag,tI,tI],[tI,tI],fun(x:rn)=>Jb x.1 x.2.1 x.2.2.1 x.2.2.2⟩
def PO (ρ:Type):Env ρ:=Ù [(78,zL),(88,zK),(117,aaI)] []
def yS:û:=⟨[Ð,Ð],[.bool],fun(x:Val (.pair Ð Ð))=>lK x.1 x.2⟩
def ud (ρ:Type):Env ρ:=Ù [(35,pT)] []
def Dr:û:=⟨[aa,aa],[.bool],fun(x:Val (.pair aa aa))=>kZ x.1 x.2⟩
def FG:Ç:=Ls 0 [aa,aa] [tI] ⟨26,[.con aa,.con aa,.any,.any,.any,.var tI],[]⟩ [(.ret,⟨26,[.con aa,.con aa,.any,.any,.var .bool],[]⟩,[.bool]),(.exit 0,⟨26,[.con aa,.con aa],[]⟩,[])]
def rR (ρ:Type):ô ρ:=⟨[],119,0,FG,fun(p:Val (.pair aa aa)) (v:Int) b a=>kp p.1 p.2 v (fun c=>b c) (a 0) (a 1)⟩
def pC (ρ:Type):Env ρ:=Ù [] [rR ρ]
def aaS:û:=⟨[È,È],[.bool],fun(x:Val (.pair È È))=>δ x.1 x.2⟩
def Ub:Ç:=Ls 0 [tI,tI,ae,aa,af,ac,aa,tI,tI,ae,aa,af,ac,aa] [tI] ⟨130,[.any,.any,.box 0 0,.box 1 0,.any,.var tI],cY⟩ [(.ret,⟨130,[.any,.any,.box 0 0,.box 1 0,.var .bool],cY⟩,[.bool]),(.exit 0,⟨130,[.any,.any,.box 0 0,.box 1 0],cY⟩,[])]
def Ea (ρ:Type):ô ρ:=⟨[],51,0,Ub,fun(p:Val aP) (v:Int) b a=>t7 p.2.2.1 p.2.2.2.2.2.2.2.2.2.1 v (fun c=>b c) (a 0) (a 1)⟩
def Ua:Ç:=Ls 0 [tI,tI,ae,aa,af,ac,aa,tI,tI,ae,aa,af,ac,aa] [tI] ⟨130,[.any,.any,.box 0 0,.box 1 0,.any,.any,.var tI],cY⟩ [(.ret,⟨130,[.any,.any,.box 0 0,.box 1 0,.var .bool],cY⟩,[.bool]),(.exit 2,⟨130,[.any,.any,.box 0 0,.box 1 0],cY⟩,[])]
def D9 (ρ:Type):ô ρ:=⟨[],51,2,Ua,fun(p:Val aP) (v:Int) b a=>tZ p.2.2.2.1 p.2.2.2.2.2.2.2.2.2.2.1 v (fun c=>b c) (a 0) (a 1)⟩
def T9:Ç:=Ls 0 [tI,tI,ae,aa,af,ac,aa,tI,tI,ae,aa,af,ac,aa] [tI] ⟨130,[.any,.any,.box 0 0,.box 1 0,.any,.any,.any,.var tI],cY⟩ [(.ret,⟨130,[.any,.any,.box 0 0,.box 1 0,.var .bool],cY⟩,[.bool]),(.exit 4,⟨130,[.any,.any,.box 0 0,.box 1 0],cY⟩,[])]
def D8 (ρ:Type):ô ρ:=⟨[],51,4,T9,fun(p:Val aP) (v:Int) b a=>tY p.2.2.2.2.1 p.2.2.2.2.2.2.2.2.2.2.2.1 v (fun c=>b c) (a 0) (a 1)⟩
def T8:Ç:=Ls 0 [tI,tI,ae,aa,af,ac,aa,tI,tI,ae,aa,af,ac,aa] [tI] ⟨130,aN 2 (.box 0 0::.box 1 0::aN 4 [.var tI]),cY⟩ [(.ret,⟨130,[.any,.any,.box 0 0,.box 1 0,.var .bool],cY⟩,[.bool]),(.exit 6,⟨130,[.any,.any,.box 0 0,.box 1 0],cY⟩,[])]
def D7 (ρ:Type):ô ρ:=⟨[],51,6,T8,fun(p:Val aP) (v:Int) b a=>tX p.2.2.2.2.2.1 p.2.2.2.2.2.2.2.2.2.2.2.2.1 v (fun c=>b c) (a 0) (a 1)⟩
def nO (ρ:Type):Env ρ:=Ù [(118,yS),(119,Dr)] [Ea ρ,D9 ρ,D8 ρ,D7 ρ]
def EU:û:=⟨[Â,ag],[tI],fun(x:lA)=>jU x.1 x.2⟩
def MY:Ç:=Ls 0 [ag,tI,tI,tI,ae,aa,af,ac,aa,ai] [tI,tI] ⟨43,[.any,.con ag,.box 0 0,.any,.any,.var tI,.con tI,.var tI],[bJ]⟩ [(.exit 2,⟨43,[.any,.con ag,.box 0 0,.any,.any,.var tI,.con tI],[bJ]⟩,[tI])]
def yV (ρ:Type):ô ρ:=⟨[],56,2,MY,fun(p:ni) (v:a8) a b=>oj p.1 p.2.1 p.2.2.2.2.2.2.2.2.2 v.1 v.2 (fun c d=>a (c,d)) (b 0)⟩
def MZ:Ç:=Ls 0 [ag,tI,tI,ae,aa,af,ac,aa,ai] [tI,tI] ⟨43,[.any,.con ag,.box 0 0,.any,.any,.var tI,.var tI],[bJ]⟩ [(.exit 0,⟨43,[.any,.con ag,.box 0 0,.any,.any,.var tI],[bJ]⟩,[tI])]
def yW (ρ:Type):ô ρ:=⟨[],56,0,MZ,fun(p:Val (.pair ag ah)) (v:a8) a b=>ol p.1 p.2.2.2.2.2.2.2.2 v.1 v.2 (fun c d=>a (c,d)) (b 0)⟩
def qe (ρ:Type):Env ρ:=Ù [] [yV ρ,yW ρ]
def OY:û:=⟨[ab],[ag],fun(x:an)=>Gc x⟩
def Ζ:Ç:=Ls 0 [ab,tI,ag] [tI,ag] ⟨51,[.con ab,.any,.any,.own 0,.con tI,.any,.con ag,.var tI],[.rowv ab]⟩ [(.exit 2,⟨51,[.con ab,.any,.any,.own 0,.con tI,.any,.con ag],[.rowv ab]⟩,[ag])]
def pA (rec:an->CK b5) (ρ:Type):ô ρ:=⟨[],120,2,Ζ,fun(p:v8) (v:px) a b=>kS rec p.1 p.2.1 p.2.2 v.1 v.2 (fun c d=>a (c,d)) (b 0)⟩
def Η:Ç:=Ls 0 [ab] [tI,ag] ⟨51,[.con ab,.any,.any,.own 0,.var tI],[.rowv ab]⟩ [(.exit 0,⟨51,[.con ab,.any,.any,.own 0],[.rowv ab]⟩,[ag])]
def pB (rec:an->CK b5) (ρ:Type):ô ρ:=⟨[],120,0,Η,fun(p:an) (v:px) a b=>oi rec p v.1 v.2 (fun c d=>a (c,d)) (b 0)⟩
def TM (rec:an->CK b5):Do (Nat×û):=[(120,⟨[ab],[ag],fun(x:an)=>rec x⟩)]
def AB (rec:an->CK b5) (ρ:Type):Do (ô ρ):=[pA rec ρ,pB rec ρ]
def Į (rec:an->CK b5) (ρ:Type):Env ρ:=Ù (TM rec) (AB rec ρ)
def aaN:û:=⟨[Â],[aj],fun(x:bl)=>Jc x⟩
def DW:Ç:=Ls 0 [tI,ag,tI,tI,tI,ae,aa,af,ac,aa,ai,aj] [tI,aj] ⟨82,[.any,.box 0 0,.any,.own 1,.con tI,.con ag,.own 2,.con tI,.var tI],cZ⟩ [(.exit 4,⟨82,[.any,.box 0 0,.any,.own 1,.con tI,.con ag,.own 2,.con tI],cZ⟩,[aj])]
def DU (ρ:Type):ô ρ:=⟨[],52,4,DW,fun(p:Val (tyL DW.cs)) (v:i4) a b=>oS p.2.1 p.2.2.1 p.2.2.2.2.2.2.2.2.2.2.2 v.1 v.2 (fun c d=>a (c,d)) (b 0)⟩
def DY:Ç:=Ls 0 [tI,ag,tI,tI,ae,aa,af,ac,aa,ai,aj] [tI,aj] ⟨82,[.any,.box 0 0,.any,.own 1,.con tI,.con ag,.own 2,.var tI],cZ⟩ [(.exit 2,⟨82,[.any,.box 0 0,.any,.own 1,.con tI,.con ag,.own 2],cZ⟩,[aj])]
def DX (ρ:Type):ô ρ:=⟨[],52,2,DY,fun(p:Val (tyL DY.cs)) (v:i4) a b=>oT p.2.1 p.2.2.2.2.2.2.2.2.2.2 v.1 v.2 (fun c d=>a (c,d)) (b 0)⟩
def TT:Ç:=Ls 0 [tI,tI,ae,aa,af,ac,aa,ai] [tI,aj] ⟨82,[.any,.box 0 0,.any,.own 1,.var tI],[bJ,.rowv ag]⟩ [(.exit 0,⟨82,[.any,.box 0 0,.any,.own 1],[bJ,.rowv ag]⟩,[aj])]
def DZ (ρ:Type):ô ρ:=⟨[],52,0,TT,fun(p:ry) (v:i4) a b=>tN p.2.2.2.2.2.2.2 v.1 v.2 (fun c d=>a (c,d)) (b 0)⟩
def TR:Ç:=Ls 0 [tI,tI,tI,ae,aa,af,ac,aa,ai,aj] [tI,aj] ⟨82,.any::.box 0 0::.any::.own 1::aN 5 [.own 2,.con tI,.var tI],cZ⟩ [(.exit 8,⟨82,.any::.box 0 0::.any::.own 1::aN 5 [.own 2,.con tI],cZ⟩,[aj])]
def DS (ρ:Type):ô ρ:=⟨[],52,8,TR,fun(p:Val (.pair tI aL)) (v:i4) a b=>let A:=p.2.2.2.2;oR p.1 p.2.1 p.2.2.1 p.2.2.2.1 A.1 A.2.1 A.2.2.1 A.2.2.2.1 A.2.2.2.2.1 A.2.2.2.2.2 v.1 v.2 (fun c d=>a (c,d)) (b 0)⟩
def TS:Ç:=Ls 0 [tI,tI,ae,aa,af,ac,aa,ai,aj] [tI,aj] ⟨82,.any::.box 0 0::.any::.own 1::aN 5 [.own 2,.var tI],cZ⟩ [(.exit 6,⟨82,.any::.box 0 0::.any::.own 1::aN 5 [.own 2],cZ⟩,[aj])]
def DT (ρ:Type):ô ρ:=⟨[],52,6,TS,fun(p:Val aL) (v:i4) a b=>let A:=p.2.2.2.2;tM p.1 p.2.1 p.2.2.1 p.2.2.2.1 A.1 A.2.1 A.2.2.1 A.2.2.2.1 A.2.2.2.2 v.1 v.2 (fun c d=>a (c,d)) (b 0)⟩
def lR (ρ:Type):Env ρ:=Ù [(56,EU),(120,OY)] [DU ρ,DX ρ,DZ ρ,DS ρ,DT ρ]
def Vk:û:=⟨[Â,ag,tI,tI],[tI],fun(x:rn)=>Co x.1 x.2.1 x.2.2.1 x.2.2.2⟩
def L1 (ρ:Type):Env ρ:=Ù [(21,J1),(22,J0),(33,qZ),(45,B7)] []
def NR:û:=⟨[Â,ag,tI,tI],[tI],fun(x:rn)=>qy x.1 x.2.1 x.2.2.1 x.2.2.2⟩
def X3:Ç:=Ls 0 [ag,tI,tI,tI,ae,aa,af,ac,aa,ai] [tI,tI] ⟨45,.any::.con ag::.var tI::.con tI::.box 0 0::aN 4 [.var tI],[bJ]⟩ [(.exit 0,⟨45,[.any,.con ag,.var tI,.con tI,.box 0 0],[bJ]⟩,[tI])]
def HE (ρ:Type):ô ρ:=⟨[],54,0,X3,fun(p:ni) (v:a8) a b=>xH p.1 p.2.1 p.2.2.2.2.2.2.2.2.2 v.1 v.2 (fun c d=>a (c,d)) (b 0)⟩
def Ks (ρ:Type):Env ρ:=Ù [(38,Xi)] [HE ρ]
def Vp:û:=⟨[Â,ag,tI,tI],[tI],fun(x:rn)=>wK x.1 x.2.1 x.2.2.1 x.2.2.2⟩
def P4:Ç:=Ls 0 [ag,tI,tI,tI,ae,aa,af,ac,aa,ai] [tI,tI] ⟨44,.any::.con ag::.var tI::.con tI::.box 0 0::aN 4 [.var tI],[bJ]⟩ [(.exit 0,⟨44,[.any,.con ag,.var tI,.con tI,.box 0 0],[bJ]⟩,[tI])]
def AD (ρ:Type):ô ρ:=⟨[],55,0,P4,fun(p:ni) (v:a8) a b=>qf p.1 p.2.1 p.2.2.2.2.2.2.2.2.2 v.1 v.2 (fun c d=>a (c,d)) (b 0)⟩
def AE (ρ:Type):Env ρ:=Ù [(38,Xi)] [AD ρ]
def aaM:û:=⟨[Â,ag,ab,tI],[ab],fun(x:Val (.pair Â (.pair ag ay)))=>Bz x.1 x.2.1 x.2.2.1 x.2.2.2⟩
def DP:Ç:=Ls 0 [ag,ab,tI,tI,tI,tI,tI,ae,aa,af,ac,aa,ai,ab] [tI] ⟨57,.any::.con ag::.con ab::.con tI::.box 0 0::aN 4 [.own 1,.con tI,.con tI,.var tI],[bJ,.rowc tI]⟩ [(.exit 2,⟨57,.any::.con ag::.con ab::.con tI::.box 0 0::aN 4 [.own 1,.con tI,.con tI,.var tI],[bJ,.rowc tI]⟩,[tI])]
def DN (ρ:Type):ô ρ:=⟨[],121,2,DP,fun(p:Val (tyL DP.cs)) (v:Int) a b=>oQ p.2.2.2.2.1 p.2.2.2.2.2.2.2.2.2.2.2.2.2 v (fun c=>a c) (b 0)⟩
def DR:Ç:=Ls 0 [ag,ab,tI,tI,tI,ae,aa,af,ac,aa,ai] [tI,ab] ⟨57,.any::.con ag::.con ab::.con tI::.box 0 0::aN 4 [.own 1,.var tI],[bJ,.rowv tI]⟩ [(.exit 0,⟨57,.any::.con ag::.con ab::.con tI::.box 0 0::aN 4 [.own 1],[bJ,.rowv tI]⟩,[ab])]
def DQ (ρ:Type):ô ρ:=⟨[],121,0,DR,fun(p:Val (tyL DR.cs)) (v:f4) a b=>let A:=p.2.2.2.2;let B:=A.2.2.2.2;tK p.1 p.2.1 p.2.2.1 p.2.2.2.1 A.1 A.2.1 A.2.2.1 A.2.2.2.1 B.1 B.2.1 B.2.2 v.1 v.2 (fun c d=>a (c,d)) (b 0)⟩
def xF (ρ:Type):Env ρ:=Ù [(54,NR)] [DN ρ,DQ ρ]
def Dq:û:=⟨[Â,ag],[È],fun(x:lA)=>π x.1 x.2⟩
def rO:Ç:=Ls 0 [ag,tI,tI,ae,aa,af,ac,aa,ai,tI,tI,tI,tI,ae] [tI,aa] ⟨156,[.any,.con ag,.box 0 0,.any,.box 1 0,.box 2 0,.var tI],[bJ,bP,cj,.rowv Ã]⟩ [(.exit 0,⟨156,[.any,.con ag,.box 0 0,.any,.box 1 0,.box 2 0],[bJ,bP,cj,.rowv Ã]⟩,[aa])]
def rN (ρ:Type):ô ρ:=⟨[],57,0,rO,fun(p:Val (tyL rO.cs)) (v:pc) a b=>let A:=p.2.2.2.2;ki p.1 p.2.1 p.2.2.1 p.2.2.2.1 A.1 A.2.1 A.2.2.1 A.2.2.2.1 A.2.2.2.2.1 v.1 v.2 (fun c d=>a (c,d)) (b 0)⟩
def rM:Ç:=Ls 0 [ag,tI,tI,ae,aa,af,ac,aa,ai,tI,tI,tI,tI,ae,aa] [tI,af] ⟨156,[.any,.con ag,.box 0 0,.any,.box 1 0,.box 2 0,.any,.any,.var tI],[bJ,bP,cm,.rowc Ã,.rowv iE]⟩ [(.exit 2,⟨156,[.any,.con ag,.box 0 0,.any,.box 1 0,.box 2 0],[bJ,bP,cm,.rowc Ã,.rowv iE]⟩,[af])]
def rL (ρ:Type):ô ρ:=⟨[],57,2,rM,fun(p:Val (tyL rM.cs)) (v:y6) a b=>let A:=p.2.2.2.2;kh p.1 p.2.1 p.2.2.1 p.2.2.2.1 A.1 A.2.1 A.2.2.1 A.2.2.2.1 A.2.2.2.2.1 v.1 v.2 (fun c d=>a (c,d)) (b 0)⟩
def rK:Ç:=Ls 0 [ag,tI,tI,ae,aa,af,ac,aa,ai,tI,tI,tI,tI,ae,aa,af] [tI,ac] ⟨156,.any::.con ag::.box 0 0::.any::.box 1 0::.box 2 0::aN 4 [.var tI],dc⟩ [(.exit 4,⟨156,[.any,.con ag,.box 0 0,.any,.box 1 0,.box 2 0],dc⟩,[ac])]
def rJ (ρ:Type):ô ρ:=⟨[],57,4,rK,fun(p:Val (tyL rK.cs)) (v:Val bc) a b=>let A:=p.2.2.2.2;kg p.1 p.2.1 p.2.2.1 p.2.2.2.1 A.1 A.2.1 A.2.2.1 A.2.2.2.1 A.2.2.2.2.1 v.1 v.2 (fun c d=>a (c,d)) (b 0)⟩
def rI:Ç:=Ls 0 [ag,tI,tI,ae,aa,af,ac,aa,ai,tI,tI,tI,tI,ae,aa,af,ac] [tI,aa] ⟨156,.any::.con ag::.box 0 0::.any::.box 1 0::.box 2 0::aN 6 [.var tI],de⟩ [(.exit 6,⟨156,[.any,.con ag,.box 0 0,.any,.box 1 0,.box 2 0],de⟩,[aa])]
def rH (ρ:Type):ô ρ:=⟨[],57,6,rI,fun(p:Val (tyL rI.cs)) (v:pc) a b=>let A:=p.2.2.2.2;ke p.1 p.2.1 p.2.2.1 p.2.2.2.1 A.1 A.2.1 A.2.2.1 A.2.2.2.1 A.2.2.2.2.1 v.1 v.2 (fun c d=>a (c,d)) (b 0)⟩
def Θ (ρ:Type):Env ρ:=Ù [(54,NR),(121,aaM)] [rN ρ,rL ρ,rJ ρ,rH ρ]
def pR:û:=⟨[Â,ag,tI,tI],[.bool],fun(x:rn)=>yz x.1 x.2.1 x.2.2.1 x.2.2.2⟩
def Ab (ρ:Type):Env ρ:=Ù [(15,Vi),(16,Vj),(17,OX),(21,J1),(22,J0),(25,GG),(40,Xh),(41,GF),(48,Vn),(49,adn),(50,aaL),(51,aaS),(52,aaN),(53,Vk),(54,NR),(55,Vp),(56,EU),(57,Dq)] []
end Go.Proofs.ZzM
end
