/- lemmas -/
import Derived.Test.YtdmegkgjpgcfgaaGreatAmC
import Derived.Test.YtdmegkgjpgcfgaaGreatAmE
import Derived.KernelRfl
import Derived.Test.YtdmegkgjpgcfgaaGreatMdTA
import Derived.Test.YtdmegkgjpgcfgaaGreatProg
set_option linter.all false
noncomputable section
set_option maxRecDepth 100000
namespace Go.Proofs.ZzM
open Go Go.Am
def Q6:Nat->Bool
  |114=>true
  |115=>true
  |140=>true
  |170=>true
  |182=>true
  |250=>true
  |251=>true
  |252=>true
  |_=>false
def abm:Nat->Bool
  |184=>true
  |_=>false
def Bk:Nat->Bool
  |249=>true
  |_=>false
def isInl:Nat->Bool
  |2=>true
  |89=>true
  |90=>true
  |94=>true
  |95=>true
  |96=>true
  |97=>true
  |99=>true
  |100=>true
  |101=>true
  |107=>true
  |108=>true
  |129=>true
  |130=>true
  |137=>true
  |138=>true
  |144=>true
  |150=>true
  |151=>true
  |152=>true
  |157=>true
  |158=>true
  |159=>true
  |167=>true
  |168=>true
  |169=>true
  |171=>true
  |174=>true
  |175=>true
  |176=>true
  |177=>true
  |178=>true
  |186=>true
  |197=>true
  |198=>true
  |200=>true
  |202=>true
  |207=>true
  |210=>true
  |211=>true
  |213=>true
  |214=>true
  |221=>true
  |222=>true
  |223=>true
  |224=>true
  |225=>true
  |229=>true
  |230=>true
  |232=>true
  |235=>true
  |237=>true
  |238=>true
  |244=>true
  |245=>true
  |246=>true
  |254=>true
  |255=>true
  |256=>true
  |257=>true
  |258=>true
  |260=>true
  |266=>true
  |267=>true
  |275=>true
  |276=>true
  |277=>true
  |278=>true
  |279=>true
  |280=>true
  |282=>true
  |283=>true
  |293=>true
  |294=>true
  |295=>true
  |298=>true
  |299=>true
  |301=>true
  |302=>true
  |304=>true
  |305=>true
  |310=>true
  |311=>true
  |314=>true
  |315=>true
  |317=>true
  |318=>true
  |321=>true
  |322=>true
  |_=>false
def isFz:Nat->Bool
  |74=>true
  |93=>true
  |_=>false
def isEat:Nat->Nat->Bool
  |104,2=>true
  |104,3=>true
  |174,25=>true
  |245,0=>true
  |_,_=>false
def am5:BY Nat->Nat->Bool
  |_,_=>false
abbrev Ğ {ρ:Type} (E:Env ρ) (f:Nat) (ts rs:BY Ty) (x:Val (tyL ts)) (k:Val (tyL rs)->BE ρ):BE ρ:=topK E f (adq ts x) (fun h v=>Æ (anM rs h v) k)
abbrev Ls (p:Nat) (c v:BY Ty) (h:Tpl) (e:BY (Exit×Tpl×BY Ty)):Ç:=⟨p,c,v,h,e,false⟩
def Ú {ρ:Type} (pt:BY (Nat×ă)) (tab:BY (õ ρ)):Env ρ :=
  {P:=Tryz.prog,eat:=isEat,clone:=Q6,sort:=abm,compact:=Bk,inl:=isInl,fz:=isFz,stop:=am5,pure:=agt pt,loops:=lO tab}
def aeM {ρ:Type} (pt:BY (Nat×ă)) (tab:BY (õ ρ)) (xt:BY (Nat×afB)):Env ρ:={Ú pt tab with ext:=extT xt}
def mkEnvU {ρ:Type} (pt:BY (Nat×ă)) (tab:BY (õ ρ)) (us:BY amC):Env ρ :=
  {P:=Tryz.prog,eat:=isEat,clone:=Q6,sort:=abm,compact:=Bk,inl:=isInl,fz:=isFz,stop:=am5,pure:=agt pt,loops:=aeN (Ú pt tab) us}
abbrev bC:jt:=.cells [.con ab]
abbrev bD:jt:=.cells [.con tI,.con tI,.con ae,.con aa,.con af,.con ac,.con aa]
abbrev bE:jt:=.cells [.con tI,.con tI,.con tI,.con tI,.con tI,.con tI,.con tI,.con tI]
abbrev bG:jt:=.cells [.con tI,.con tI,.con tI,.con tI]
abbrev bH:jt:=.cells [.con tI]
abbrev bI:jt:=.cells [.con tI,.con tI,.con ab,.con ab,.con tI,.con tI,.con tI,.con tI]
abbrev bJ:jt:=.cells [.con tI,.con tI,.con ae,.con aa,.con af,.con ac,.con aa,.con aj]
abbrev bK:jt:=.cells [.con tI,.con ab]
abbrev bL:jt:=.cells [.omp 3]
abbrev bM:jt:=.cells [.con tI,.con tI]
abbrev bN:jt:=.cells [.con tI,.con tI,.con ae,.con aa,.con af,.con ac,.con aa,.con aa,.con tI,.own 3,.own 4]
abbrev bO:jt:=.cells [.con tI,.con tI,.con ae,.con aa,.con af,.con ac,.con aa,.con aa,.con tI,.own 2,.own 3]
abbrev bP:jt:=.cells [.con tI,.con tI,.nils,.nils,.nils,.nils,.nils]
abbrev bQ:jt:=.cells [.con tI,.con tI,.own 3,.own 4,.nils,.nils,.nils]
abbrev bR:jt:=.cells [.con tI,.con tI,.own 3,.own 4,.own 5,.nils,.nils]
abbrev bS:jt:=.cells [.con tI,.con tI,.own 3,.own 4,.own 5,.own 6,.nils]
abbrev bT:jt:=.cells [.con tI,.con tI,.own 2,.own 3,.own 4,.own 5,.own 6]
abbrev bU:jt:=.cells [.con tI,.con am]
abbrev bV:jt:=.cells [.own 6]
abbrev bW:jt:=.cells [.var tI,.var tI,.var ae,.var aa,.var af,.var ac,.var aa,.var aj]
abbrev bX:jt:=.cells [.con aj]
abbrev bY:jt:=.cells [.own 4]
abbrev bZ:jt:=.cells [.fn 90 [(1,0)]]
abbrev b7:jt:=.cells [.con tI,.con tI,.nils,.nils,.nils,.nils,.nils,.nils]
abbrev b8:jt:=.cells [.fn 167 [(1,0)]]
abbrev b9:jt:=.cells [.fn 97 [(0,0),(1,0)]]
abbrev ca:jt:=.cells [.fn 97 [(3,0),(0,0)]]
abbrev cd:jt:=.cells [.con tI,.con tI,.own 9,.own 10,.own 11,.con ac,.own 12]
abbrev ce:jt:=.cells [.con tI,.con tI,.con tI]
abbrev cf:jt:=.cells [.var tI,.var tI,.var tI,.var tI]
abbrev cg:jt:=.cells [.nils,.nils]
abbrev ci:jt:=.cells [.own 3,.own 4]
abbrev cj:jt:=.cells [.con tI,.con tI,.con ae,.own 3,.nils,.nils,.nils]
abbrev cm:jt:=.cells [.con tI,.con tI,.con ae,.own 3,.own 4,.nils,.nils]
abbrev cn:jt:=.cells [.con tI,.con tI,.con ae,.own 3,.own 4,.own 5,.nils]
abbrev cp:jt:=.cells [.con tI,.con tI,.con ae,.own 3,.own 4,.own 5,.own 6]
abbrev cq:BY jt:=[.rowv tI]
abbrev cr:BY jt:=[bD,bG]
abbrev cu:BY jt:=[bD,bI,.rowc tI]
abbrev cw:BY jt:=[bD,bK]
abbrev cz:BY jt:=[bD,bK,bL,.mapc tI tI]
abbrev cA:BY jt:=[bD,bO,.rowv ĝ,.rowv Ã]
abbrev cB:BY jt:=[bP,bD,bR,.rowc Ö,.rowc Ã,.rowv ω]
abbrev cD:BY jt:=[bP,bD,bS,.rowc Ö,.rowc Ã,.rowc ω,.rowv Ô]
abbrev cE:BY jt:=[bP,bT,.rowc Ö,.rowc Ã,.rowc ω,.rowc Ô,.rowv Ã]
abbrev cF:BY jt:=[bU,.rowc tI,bU,bV,.rowv .bool,.rowc tI,.rowv tI]
abbrev cG:BY jt:=[bU,.rowv tI,bU,bV,.rowv .bool,.rowc tI,.rowv tI]
abbrev cH:BY jt:=[bU,.rowv tI,bU,bV,.rowv .bool,.rowv tI,.rowv tI]
abbrev cI:BY jt:=[.rowv ah,bJ]
abbrev cJ:BY jt:=[.rowc ah,bJ]
abbrev cM:BY jt:=[.rowv ah,bW]
abbrev cN:BY jt:=[bJ,bH,bJ,bZ,b7,.rowc Ô]
abbrev cO:BY jt:=[bJ,bC,b7,bJ,b8,b7,.rowc Ô]
abbrev cP:BY jt:=[bC,ca,.rowc tI,bJ]
abbrev cQ:BY jt:=[bC,ca,.rowv tI,bJ]
abbrev cR:BY jt:=[bD,bM,bP,bD,bP,.dead,cd,bP,.rowv Ô,.rowc Ö,.rowc Ã,.rowc ω,.rowc Ã]
abbrev cS:BY jt:=[bU,.rowv tI]
abbrev cT:BY jt:=[.rowc ab,bU,.dead,.dead,.rowv tI]
abbrev cV:BY jt:=[bU,.rowc ah,ce,bU,.rowv tI]
abbrev cW:BY jt:=[bD,.rowv tI]
abbrev cX:BY jt:=[bD,.rowc tI,.rowv Ã]
abbrev cY:BY jt:=[bD,cg,ci,.rowv ĝ,.rowv Ã]
abbrev cZ:BY jt:=[bJ,bP,cn,.rowc Ã,.rowc ω,.rowv Ô]
abbrev dc:BY jt:=[bJ,bP,cp,.rowc Ã,.rowc ω,.rowc Ô,.rowv Ã]
abbrev de:BY jt:=[bJ,.rowc ah,.rowv ah]
def jD:ă:=⟨[ah],[ab],fun(x:b5)=>ĩ x⟩
def xo:Ç:=Ls 0 [ah,ah,tI] [tI,tI] ⟨36,.con ah::aN 2 (.var tI::aN 5 [.con ah,.con tI,.var tI]),[]⟩ [(.exit 0,⟨36,.con ah::aN 2 (.var tI::aN 5 [.con ah,.con tI]),[]⟩,[tI])]
def mJ (ρ:Type):õ ρ:=⟨[],93,0,xo,fun(p:Val (.pair ah bn)) (v:bl) a b=>Ρ p.2.1 p.2.2 v.1 v.2 (fun c d=>a (c,d)) (b 0)⟩
def xn:Ç:=Ls 0 [ah,tI] [tI,ab] ⟨36,aN 6 (.own 0::aN 18 [.con ah,.con tI,.var tI]),cq⟩ [(.exit 2,⟨36,aN 6 (.own 0::aN 18 [.con ah,.con tI]),cq⟩,[ab])]
def mI (ρ:Type):õ ρ:=⟨[],93,2,xn,fun(p:Val bn) (v:f4) a b=>Ĥ p.1 p.2 v.1 v.2 (fun c d=>a (c,d)) (b 0)⟩
def π (ρ:Type):Env ρ:=Ú [] [mJ ρ,mI ρ]
def Q3:anl:=⟨272,ab,ab,Ca⟩
def iC:Tpl:=⟨37,.any::.box 1 0::.box 2 0::.any::.box 3 0::aN 6 [.con ab,.con tI,.con tI],[.acc ab,.cells [.con ab],.cells [.yld],.cells [.con tI]]⟩
def kd (al:b5) (rec:an->BE (b5)) (ρ:Type):Jl ρ:=⟨[],272,2,4,[ab,tI,tI,ab,tI],[ah],iC,⟨272,ab,ab,rec⟩,fun(p:Val bf) (v:b5) y a=>rc al rec p.2.2.2.2 v y (fun b=>a b)⟩
def Ů:Ç:=Ls 2 [ab,tI,ab] [tI,ah] ⟨37,.any::.box 1 0::.box 2 0::aN 8 [.con ab,.con tI,.var tI],[.acc ab,bC,.cells [.yld]]⟩ [(.exit 0,⟨37,.any::.box 1 0::.box 2 0::aN 8 [.con ab,.con tI],[.acc ab,bC,.cells [.yld]]⟩,[ah])]
def nF (al:b5) (rec:an->BE (b5)) (ρ:Type):õ ρ:=⟨[],272,0,Ů,fun(p:Val bi) (v:pi) a b=>rg al rec p.1 p.2.1 p.2.2 v.1 v.2 (fun c d=>a (c,d)) (b 0)⟩
def zU (al:b5) (rec:an->BE (b5)) (ρ:Type):BY (Jl ρ):=[kd al rec ρ]
def yL (al:b5) (rec:an->BE (b5)) (ρ:Type):BY (õ ρ):=[nF al rec ρ]
def Ć (al:b5) (rec:an->BE (b5)) (ρ:Type):Env ρ:={Ú [(93,jD)] (yL al rec ρ) with ranges:=Ν (zU al rec ρ),yld:=some ⟨ab,al⟩}
def rX:anl:=⟨231,aj,ah,nW⟩
def ų:Tpl:=⟨27,.any::.box 1 0::.box 2 0::.box 3 0::aN 11 [.con ab],[.acc ah,.cells [.con aj],.cells [.yld],.cells [.con ab]]⟩
def jb (al:a7) (rec:c9->BE (a7)) (ρ:Type):Jl ρ:=⟨[],231,2,4,[ab,aj,ab],[ak],ų,⟨231,aj,ah,rec⟩,fun(p:Val br) (v:a7) y a=>nJ al rec p.2.2 v y (fun b=>a b)⟩
def Ŵ:Tpl:=⟨27,[.any,.box 1 0,.box 2 0],[.acc ah,.cells [.con aj],.cells [.yld]]⟩
def jc (al:a7) (rec:c9->BE (a7)) (ρ:Type):Jl ρ:=⟨[],231,0,3,[aj],[ak],Ŵ,Q3,fun(p:c9) (v:a7) y a=>nM al rec p v y (fun b=>a b)⟩
def vy (al:a7) (rec:c9->BE (a7)) (ρ:Type):BY (Jl ρ):=[jb al rec ρ,jc al rec ρ]
def tp (al:a7) (rec:c9->BE (a7)) (ρ:Type):BY (õ ρ):=[]
def ì (al:a7) (rec:c9->BE (a7)) (ρ:Type):Env ρ:={Ú [] (tp al rec ρ) with ranges:=Ν (vy al rec ρ),yld:=some ⟨ah,al⟩}
def Im:anl:=⟨268,ab,tI,B9⟩
def ě:Ç:=Ls 2 [ab,tI,ab] [tI,ab] ⟨16,.yld::aN 4 [.con ab,.con tI,.var tI],[.acc tI,bC]⟩ [(.exit 0,⟨16,.yld::aN 4 [.con ab,.con tI],[.acc tI,bC]⟩,[ab])]
def ζ (al:an) (rec:an->BE (an)) (ρ:Type):õ ρ:=⟨[],268,0,ě,fun(p:Val bi) (v:f4) a b=>jd al rec p.1 p.2.1 v.1 v.2 (fun c d=>a (c,d)) (b 0)⟩
def vP (al:an) (rec:an->BE (an)) (ρ:Type):BY (õ ρ):=[ζ al rec ρ]
def ď (al:an) (rec:an->BE (an)) (ρ:Type):Env ρ:={Ú [] (vP al rec ρ) with yld:=some ⟨tI,al⟩}
def nz:ă:=⟨[ab,tI],[tI],fun(x:lA)=>iN x.1 x.2⟩
def yX:Ç:=Ls 0 [ab,tI,tI] [tI] ⟨19,.con ab::.con tI::aN 5 [.con tI,.var tI],[]⟩ [(.ret,⟨19,[.con ab,.con tI,.any,.any,.var tI,.any,.any,.con tI],[]⟩,[tI]),(.exit 0,⟨19,.con ab::.con tI::aN 5 [.con tI],[]⟩,[])]
def nk (ρ:Type):õ ρ:=⟨[],173,0,yX,fun(p:Val (.pair ab Ã)) (v:Int) b a=>ο p.1 p.2.1 p.2.2 v (fun c=>b c) (a 0) (a 1)⟩
def lT (ρ:Type):Env ρ:=Ú [] [nk ρ]
def Ť:ă:=⟨[ab,tI],[.bool],fun(x:lA)=>å x.1 x.2⟩
def nl (ρ:Type):Env ρ:=Ú [(173,nz)] []
def Wr:ă:=⟨[È,Ö],[ab],fun(x:Val (.pair È Ö))=>qx x.1 x.2⟩
def X9:Ç:=Ls 0 [ac,tI,tI,tI,ae,aa,af,ac,aa,tI,tI,tI,tI,tI,tI,tI,tI] [tI,ab] ⟨59,aN 2 (.box 0 0::.box 1 0::.any::.own 2::aN 8 [.con ac,.con tI,.var tI]),[bD,bE,.rowv tI]⟩ [(.exit 0,⟨59,aN 2 (.box 0 0::.box 1 0::.any::.own 2::aN 8 [.con ac,.con tI]),[bD,bE,.rowv tI]⟩,[ab])]
def Ib (ρ:Type):õ ρ:=⟨[],201,0,X9,fun(p:Val (.pair ac ar)) (v:f4) a b=>xY p.1 p.2.1 p.2.2.2.2.2.2.2.2.2.1 v.1 v.2 (fun c d=>a (c,d)) (b 0)⟩
def X8:Ç:=Ls 0 [aa,tI,tI,tI,tI,tI,tI,tI,tI,tI] [tI,ab] ⟨59,aN 3 (.box 0 0::.any::.own 1::aN 32 [.con aa,.con tI,.var tI]),[bE,.rowv tI]⟩ [(.exit 2,⟨59,aN 3 (.box 0 0::.any::.own 1::aN 32 [.con aa,.con tI]),[bE,.rowv tI]⟩,[ab])]
def Ia (ρ:Type):õ ρ:=⟨[],201,2,X8,fun(p:Val aX) (v:f4) a b=>xX p.1 p.2.1 p.2.2.1 v.1 v.2 (fun c d=>a (c,d)) (b 0)⟩
def B6 (ρ:Type):Env ρ:=Ú [(92,Ť)] [Ib ρ,Ia ρ]
def Gs:ă:=⟨[È],[aa],fun(x:b6)=>sh x⟩
def Ek:Ç:=Ls 0 [ae,tI,tI,ab,tI,tI,tI,ae,aa,af,ac,aa,tI,tI,tI,tI,tI,tI,tI,tI] [tI,aa] ⟨33,.any::.box 0 0::.any::.own 1::.any::.box 2 0::aN 3 (.con ae::.con tI::.con tI::aN 5 [.con ab,.con tI,.var tI]),[bD,.rowv Ã,bE]⟩ [(.exit 2,⟨33,.any::.box 0 0::.any::.own 1::.any::.box 2 0::aN 3 (.con ae::.con tI::.con tI::aN 5 [.con ab,.con tI]),[bD,.rowv Ã,bE]⟩,[aa])]
def Ej (ρ:Type):õ ρ:=⟨[],136,2,Ek,fun(p:Val (tyL Ek.cs)) (v:nn) a b=>uh p.2.2.2.1 p.2.2.2.2.1 p.2.2.2.2.2.2.2.2.2.2.2.2.1 v.1 v.2 (fun c d=>a (c,d)) (b 0)⟩
def Em:Ç:=Ls 0 [ae,tI,tI,tI,ae,aa,af,ac,aa] [tI,aa] ⟨33,.any::.box 0 0::.any::.own 1::aN 5 [.con ae,.con tI,.var tI],[bD,.rowv Ã]⟩ [(.exit 0,⟨33,.any::.box 0 0::.any::.own 1::aN 5 [.con ae,.con tI],[bD,.rowv Ã]⟩,[aa])]
def El (ρ:Type):õ ρ:=⟨[],136,0,Em,fun(p:Val (tyL Em.cs)) (v:nn) a b=>let A:=p.2.2.2.2;uj p.1 p.2.1 p.2.2.1 p.2.2.2.1 A.1 A.2.1 A.2.2.1 A.2.2.2.1 A.2.2.2.2 v.1 v.2 (fun c d=>a (c,d)) (b 0)⟩
def xQ (ρ:Type):Env ρ:=Ú [(201,Wr)] [Ej ρ,El ρ]
def vq:ă:=⟨[Ã,tI,tI],[.bool],fun(x:hO)=>Κ x.1 x.2.1 x.2.2⟩
def LO (ρ:Type):Env ρ:=Ú [] []
def l5:ă:=⟨[tI,tI,tI],[.bool],fun(x:rm)=>ġ x.1 x.2.1 x.2.2⟩
def LN (ρ:Type):Env ρ:=Ú [] []
def zD:ă:=⟨[tI],[.bool],fun(x:Int)=>mU x⟩
def QN (ρ:Type):Env ρ:=Ú [(212,l5)] []
def Wq:ă:=⟨[tI],[(.int .u64)],fun(x:Int)=>uB x⟩
def Vi (ρ:Type):Env ρ:=Ú [] []
def acC:ă:=⟨[(.int .u64),(.int .u64)],[(.int .u64)],fun(x:Val bu)=>Rv x.1 x.2⟩
def aa0:Ç:=Ls 0 [] [(.int .u64),(.int .u64)] ⟨12,[.var (.int .u64),.var (.int .u64)],[]⟩ [(.exit 0,⟨12,[.var (.int .u64)],[]⟩,[(.int .u64)])]
def LK (ρ:Type):õ ρ:=⟨[],292,0,aa0,fun(p:Unit) (v:Val bu) a b=>B0 v.1 v.2 (fun c d=>a (c,d)) (b 0)⟩
def Qz (ρ:Type):Env ρ:=Ú [] [LK ρ]
def Gp:ă:=⟨[Ã],[.bool],fun(x:bl)=>wG x⟩
def QB (ρ:Type):Env ρ:=Ú [(291,Wq),(292,acC)] []
def Ou:ă:=⟨[Ö],[.bool],fun(x:nj)=>yy x⟩
def H9 (ρ:Type):Env ρ:=Ú [(141,vq),(205,zD),(212,l5),(253,Gp)] []
def zE:ă:=⟨[È],[tI],fun(x:b6)=>Ż x⟩
def pO:Ç:=Ls 0 [ae,tI,tI,tI,ae,aa,af,ac,aa] [tI] ⟨31,.any::.box 0 0::aN 4 [.con ae,.con tI,.var tI],[bD]⟩ [(.ret,⟨31,[.any,.box 0 0,.var tI,.any,.any,.any,.con ae,.con tI],[bD]⟩,[tI]),(.exit 0,⟨31,.any::.box 0 0::aN 4 [.con ae,.con tI],[bD]⟩,[])]
def pN (ρ:Type):õ ρ:=⟨[],142,0,pO,fun(p:Val (tyL pO.cs)) (v:Int) b a=>jF p.1 p.2.1 p.2.2.2.2.1 v (fun c=>b c) (a 0) (a 1)⟩
def nR (ρ:Type):Env ρ:=Ú [(203,Ou)] [pN ρ]
def xb:ă:=⟨[È],[aq],fun(x:b6)=>Ń x⟩
def MW:Ç:=Ls 0 [ae,tI] [tI,aq] ⟨20,aN 3 (.omp 0::aN 4 [.con ae,.con tI,.var tI]),[.mapv tI Ö]⟩ [(.exit 0,⟨20,aN 3 (.omp 0::aN 4 [.con ae,.con tI]),[.mapv tI Ö]⟩,[aq])]
def yS (ρ:Type):õ ρ:=⟨[],143,0,MW,fun(p:Val (.pair ae tI)) (v:Val (.pair tI aq)) a b=>ot p.1 p.2 v.1 v.2 (fun c d=>a (c,d)) (b 0)⟩
def xN (ρ:Type):Env ρ:=Ú [] [yS ρ]
def og:ă:=⟨[aq,tI,tI],[tI],fun(x:Val (.pair aq Ã))=>jy x.1 x.2.1 x.2.2⟩
def yT (ρ:Type):Env ρ:=Ú [] []
def acE:ă:=⟨[tI,tI,(.ptr aq)],[tI],fun(x:Val (.pair tI (.pair tI (.ptr aq))))=>ń x.1 x.2.1 x.2.2⟩
def HS (ρ:Type):Env ρ:=Ú [(205,zD),(206,og)] []
def Ws:ă:=⟨[È,aq,tI],[tI],fun(x:Val bz)=>Χ x.1 x.2.1 x.2.2⟩
def Ie:Ç:=Ls 2 [af,tI,tI,tI,ae,aa,af,ac,aa,tI,tI,tI,tI] [tI] ⟨19,.con af::.fn 254 [(1,0)]::aN 5 [.con tI,.var tI],cr⟩ [(.ret,⟨19,[.con af,.fn 254 [(1,0)],.any,.any,.var tI,.any,.any,.con tI],cr⟩,[tI]),(.exit 0,⟨19,.con af::.fn 254 [(1,0)]::aN 5 [.con tI],cr⟩,[])]
def un (ρ:Type):õ ρ:=⟨[9,5,1,2],293,0,Ie,fun(p:Val (.pair af aI)) (v:Int) b a=>let A:=p.2.2.2.2.2.2.2.2.2;lN p.1 p.2.1 A.1 A.2.1 A.2.2.1 v (fun c=>b c) (a 0) (a 1)⟩
def Ic:Ç:=Ls 2 [aa,tI,tI,tI,ae,aa,af,ac,aa,tI,tI,tI,tI] [tI] ⟨19,.con aa::.fn 255 [(1,0)]::aN 5 [.con tI,.var tI],cr⟩ [(.ret,⟨19,[.con aa,.fn 255 [(1,0)],.any,.any,.var tI,.any,.any,.con tI],cr⟩,[tI]),(.exit 0,⟨19,.con aa::.fn 255 [(1,0)]::aN 5 [.con tI],cr⟩,[])]
def uk (ρ:Type):õ ρ:=⟨[9,10,1,2],294,0,Ic,fun(p:Val (.pair aa aI)) (v:Int) b a=>let A:=p.2.2.2.2.2.2.2.2.2;Ι p.1 p.2.1 A.1 A.2.1 A.2.2.1 v (fun c=>b c) (a 0) (a 1)⟩
def mP (ρ:Type):Env ρ:=Ú [(141,vq),(206,og),(212,l5)] [un ρ,uk ρ]
def Gt:ă:=⟨[ab,ab],[ab],fun(x:u6)=>Φ x.1 x.2⟩
def X4:Ç:=Ls 2 [tI,ab,ab] [tI] ⟨19,.own 1::.fn 214 [(0,0)]::aN 5 [.con tI,.var tI],[bC,.rowc tI]⟩ [(.ret,⟨19,[.own 1,.fn 214 [(0,0)],.any,.any,.var tI,.any,.any,.con tI],[bC,.rowc tI]⟩,[tI]),(.exit 0,⟨19,.own 1::.fn 214 [(0,0)]::aN 5 [.con tI],[bC,.rowc tI]⟩,[])]
def H8 (ρ:Type):õ ρ:=⟨[1,3,1,2],260,0,X4,fun(p:Val (.pair tI aQ)) (v:Int) b a=>xW p.1 p.2.1 p.2.2 v (fun c=>b c) (a 0) (a 1)⟩
def X3:Ç:=Ls 2 [ab] [tI,tI,ab] ⟨42,[.own 1,.fn 214 [(0,0)],.any,.any,.any,.var tI,.var tI],[bC,.rowv tI]⟩ [(.exit 0,⟨42,[.own 1,.fn 214 [(0,0)],.any,.any,.any,.var tI],[bC,.rowv tI]⟩,[tI,ab])]
def H7 (ρ:Type):õ ρ:=⟨[1,3],213,0,X3,fun(p:an) (v:Val bg) a b=>lW p v.1 v.2.1 v.2.2 (fun c d e=>a (c,d,e)) (b 0)⟩
def B5 (ρ:Type):Env ρ:=Ú [(92,Ť)] [H8 ρ,H7 ρ]
def JB:ă:=⟨[ab],[.bool],fun(x:an)=>oa x⟩
def QL:Ç:=Ls 0 [ab,ab,tI] [tI] ⟨32,.con ab::aN 4 [.con ab,.con tI,.var tI],[]⟩ [(.ret,⟨32,[.con ab,.any,.var .bool,.any,.any,.con ab,.con tI],[]⟩,[.bool]),(.exit 0,⟨32,.con ab::aN 4 [.con ab,.con tI],[]⟩,[])]
def Bb (ρ:Type):õ ρ:=⟨[],172,0,QL,fun(p:x9) (v:Int) b a=>qq p.1 p.2.1 p.2.2 v (fun c=>b c) (a 0) (a 1)⟩
def Bc (ρ:Type):Env ρ:=Ú [(212,l5)] [Bb ρ]
def Wt:ă:=⟨[È,tI,tI],[ω,.bool],fun(x:nm)=>yz x.1 x.2.1 x.2.2⟩
def Ig:Ç:=Ls 4 [af,tI,tI,tI,ae,aa,af,ac,aa,tI,tI,tI,tI,tI,tI] [tI] ⟨19,.con af::.fn 295 [(1,0),(2,0)]::aN 5 [.con tI,.var tI],[bD,bH,bH,bG]⟩ [(.ret,⟨19,[.con af,.fn 295 [(1,0),(2,0)],.any,.any,.var tI,.any,.any,.con tI],[bD,bH,bH,bG]⟩,[tI]),(.exit 0,⟨19,.con af::.fn 295 [(1,0),(2,0)]::aN 5 [.con tI],[bD,bH,bH,bG]⟩,[])]
def If (ρ:Type):õ ρ:=⟨[1,3],293,0,Ig,fun(p:Val (tyL Ig.cs)) (v:Int) b a=>ya p.1 p.2.1 p.2.2.2.2.2.2.2.2.2.1 p.2.2.2.2.2.2.2.2.2.2.1 v (fun c=>b c) (a 0) (a 1)⟩
def Kz (ρ:Type):Env ρ:=Ú [(212,l5)] [If ρ]
def L9:ă:=⟨[È,aq,tI],[tI],fun(x:Val bz)=>ň x.1 x.2.1 x.2.2⟩
def pm:Ç:=Ls 2 [ac,tI,tI,tI,ae,aa,af,ac,aa,tI,tI,ab,ab,tI,tI,tI,tI] [tI] ⟨19,.con ac::.fn 258 [(1,0)]::aN 5 [.con tI,.var tI],[bD,bI]⟩ [(.ret,⟨19,[.con ac,.fn 258 [(1,0)],.any,.any,.var tI,.any,.any,.con tI],[bD,bI]⟩,[tI]),(.exit 0,⟨19,.con ac::.fn 258 [(1,0)]::aN 5 [.con tI],[bD,bI]⟩,[])]
def pl (ρ:Type):õ ρ:=⟨[4,5,1,2],175,0,pm,fun(p:Val (tyL pm.cs)) (v:Int) b a=>jg p.1 p.2.1 p.2.2.2.2.2.2.2.2.2.1 v (fun c=>b c) (a 0) (a 1)⟩
def ph:Ç:=Ls 0 [aq,ab,tI,tI,tI,ab,tI,tI,tI,ae,aa,af,ac,aa,tI,tI,ab,ab,tI,tI,tI,tI,ab] [tI] ⟨140,.any::.con aq::.any::.box 0 0::aN 3 (.box 1 0::.con ab::.any::.con tI::aN 65 [.own 2,.con tI,.con tI,.any,.any,.any,.con ab,.con tI,.var tI]),cu⟩ [(.ret,⟨140,.any::.con aq::.any::.box 0 0::aN 2 (.var tI::.box 1 0::.con ab::.any::.con tI::aN 65 [.own 2,.con tI,.con tI,.any,.any,.any,.con ab,.con tI]),cu⟩,[tI]),(.exit 2,⟨140,.any::.con aq::.any::.box 0 0::aN 3 (.box 1 0::.con ab::.any::.con tI::aN 65 [.own 2,.con tI,.con tI,.any,.any,.any,.con ab,.con tI]),cu⟩,[])]
def pf (ρ:Type):õ ρ:=⟨[],209,2,ph,fun(p:Val (tyL ph.cs)) (v:Int) b a=>let A:=p.2.2.2.2.2;jf p.1 p.2.2.1 A.1 A.2.1 A.2.2.2.2.2.2.2.2.2.2.1 v (fun c=>b c) (a 0) (a 1)⟩
def pk:Ç:=Ls 0 [aq,ab,tI,tI,tI,ae,aa,af,ac,aa,tI,tI,ab,ab,tI,tI,tI,tI,ab] [tI] ⟨140,.any::.con aq::.any::.box 0 0::aN 3 (.box 1 0::.con ab::aN 67 [.own 2,.con tI,.var tI]),cu⟩ [(.ret,⟨140,.any::.con aq::.any::.box 0 0::aN 2 (.var tI::.box 1 0::.con ab::aN 67 [.own 2,.con tI]),cu⟩,[tI]),(.exit 0,⟨140,.any::.con aq::.any::.box 0 0::aN 3 (.box 1 0::.con ab::aN 67 [.own 2,.con tI]),cu⟩,[])]
def pj (ρ:Type):õ ρ:=⟨[],209,0,pk,fun(p:Val (tyL pk.cs)) (v:Int) b a=>ő p.1 p.2.1 p.2.2.1 p.2.2.2.2.2.2.2.2.2.2.2.1 p.2.2.2.2.2.2.2.2.2.2.2.2.2.2.2.2.2.2 v (fun c=>b c) (a 0) (a 1)⟩
def pe:Ç:=Ls 0 [ab,tI,tI,tI,ae,aa,af,ac,aa,tI,tI,ab,ab,tI,tI,tI,tI] [tI] ⟨140,aN 3 (.box 0 0::aN 3 (.box 1 0::aN 90 [.con ab,.con tI,.var tI])),[bD,bI]⟩ [(.ret,⟨140,aN 3 (.box 0 0::aN 2 (.var tI::.box 1 0::aN 90 [.con ab,.con tI])),[bD,bI]⟩,[tI]),(.exit 4,⟨140,aN 3 (.box 0 0::aN 3 (.box 1 0::aN 90 [.con ab,.con tI])),[bD,bI]⟩,[])]
def pd (ρ:Type):õ ρ:=⟨[],209,4,pe,fun(p:Val (tyL pe.cs)) (v:Int) b a=>let A:=p.2.2.2.2;Ő p.1 p.2.1 p.2.2.1 p.2.2.2.1 A.1 A.2.1 A.2.2.1 A.2.2.2.1 A.2.2.2.2.1 A.2.2.2.2.2.2.1 v (fun c=>b c) (a 0) (a 1)⟩
def Ş (ρ:Type):Env ρ:=Ú [(93,jD),(141,vq),(148,Gt),(172,JB),(205,zD),(206,og),(212,l5),(259,Wt)] [pl ρ,pf ρ,pj ρ,pd ρ]
def vt:ă:=⟨[È],[tI],fun(x:b6)=>Ω x⟩
def ZU:ă:=⟨[ab],[bw],fun(x:an)=>IF x⟩
def Uw:ă:=⟨[Â],[.bool],fun(x:a8)=>Ce x⟩
def zM:Ç:=Ls 0 [tI,tI,ae,aa,af,ac,aa,aj,tI,tI,ae,aa,af,ac,aa] [tI] ⟨90,[.any,.box 0 0,.any,.box 1 0,.var tI],[bJ,bD]⟩ [(.ret,⟨90,[.any,.box 0 0,.var .bool,.box 1 0],[bJ,bD]⟩,[.bool]),(.exit 0,⟨90,[.any,.box 0 0,.any,.box 1 0],[bJ,bD]⟩,[])]
def zL (ρ:Type):õ ρ:=⟨[],15,0,zM,fun(p:Val (tyL zM.cs)) (v:Int) b a=>pT p.2.2.2.2.2.2.2.2.2.2.2.2.2.1 v (fun c=>b c) (a 0) (a 1)⟩
def zK:Ç:=Ls 0 [tI,tI,ae,aa,af,ac,aa,aj,tI,tI,ae,aa,af,ac,aa] [tI] ⟨90,[.any,.box 0 0,.any,.box 1 0,.any,.var tI],[bJ,bD]⟩ [(.ret,⟨90,[.any,.box 0 0,.var .bool,.box 1 0],[bJ,bD]⟩,[.bool]),(.exit 2,⟨90,[.any,.box 0 0,.any,.box 1 0],[bJ,bD]⟩,[])]
def zJ (ρ:Type):õ ρ:=⟨[],15,2,zK,fun(p:Val (tyL zK.cs)) (v:Int) b a=>mA p.2.2.2.2.2.2.2.1 v (fun c=>b c) (a 0) (a 1)⟩
def sY (ρ:Type):Env ρ:=Ú [] [zL ρ,zJ ρ]
def Ux:ă:=⟨[ah,tI],[.bool],fun(x:Val bn)=>Cf x.1 x.2⟩
def OK:Ç:=Ls 0 [ah] [tI] ⟨22,.con ah::aN 4 [.var tI],[]⟩ [(.ret,⟨22,[.con ah,.any,.any,.any,.var .bool],[]⟩,[.bool]),(.exit 0,⟨22,[.con ah],[]⟩,[])]
def zN (ρ:Type):õ ρ:=⟨[],16,0,OK,fun(p:b5) (v:Int) b a=>pU p v (fun c=>b c) (a 0) (a 1)⟩
def zO (ρ:Type):Env ρ:=Ú [] [zN ρ]
def aah:ă:=⟨[È,tI,ab],[tI],fun(x:xl)=>I0 x.1 x.2.1 x.2.2⟩
def Ep:Ç:=Ls 1 [ab,tI,tI,tI,ae,aa,af,ac,aa] [tI] ⟨19,.con ab::.fn 299 []::aN 5 [.con tI,.var tI],[bD]⟩ [(.ret,⟨19,[.con ab,.fn 299 [],.any,.any,.var tI,.any,.any,.con tI],[bD]⟩,[tI]),(.exit 0,⟨19,.con ab::.fn 299 []::aN 5 [.con tI],[bD]⟩,[])]
def Eo (ρ:Type):õ ρ:=⟨[4,1,1,2],260,0,Ep,fun(p:Val (tyL Ep.cs)) (v:Int) b a=>uq p.1 p.2.1 v (fun c=>b c) (a 0) (a 1)⟩
def FL (ρ:Type):Env ρ:=Ú [(72,vt),(143,xb),(205,zD)] [Eo ρ]
def aeH:ă:=⟨[È,tI,tI],[.bool,tI],fun(x:nm)=>Cx x.1 x.2.1 x.2.2⟩
def Vl (ρ:Type):Env ρ:=Ú [(259,Wt),(269,aah)] []
def ZW:ă:=⟨[È,aj,tI],[tI],fun(x:Val (.pair È (.pair aj tI)))=>IH x.1 x.2.1 x.2.2⟩
def Dw:Ç:=Ls 0 [aj,tI,tI,tI,ae,aa,af,ac,aa,tI,ab] [tI] ⟨104,[.any,.con aj,.con tI,.box 0 0,.any,.any,.any,.box 1 0,.var tI],cw⟩ [(.ret,⟨104,[.any,.con aj,.con tI,.box 0 0,.any,.any,.var tI,.box 1 0],cw⟩,[tI]),(.exit 0,⟨104,[.any,.con aj,.con tI,.box 0 0,.any,.any,.any,.box 1 0],cw⟩,[])]
def Dv (ρ:Type):õ ρ:=⟨[],156,0,Dw,fun(p:Val (tyL Dw.cs)) (v:Int) b a=>oH p.2.2.2.2.2.2.2.2.2.2 v (fun c=>b c) (a 0) (a 1)⟩
def Du:Ç:=Ls 0 [aj,tI,ae,tI,tI,tI,ae,aa,af,ac,aa,tI,ab] [tI,bj] ⟨104,.any::.con aj::.con tI::.box 0 0::aN 3 (.box 1 0::.any::.box 2 0::aN 50 [.con ae,.con tI,.var tI]),[bD,bK,bL,.mapv tI tI]⟩ [(.exit 2,⟨104,.any::.con aj::.con tI::.box 0 0::aN 3 (.box 1 0::.any::.box 2 0::aN 50 [.con ae,.con tI]),[bD,bK,bL,.mapv tI tI]⟩,[bj])]
def Dt (ρ:Type):õ ρ:=⟨[],156,2,Du,fun(p:Val (tyL Du.cs)) (v:Val (.pair tI bj)) a b=>oG p.2.2.1 p.2.2.2.1 v.1 v.2 (fun c d=>a (c,d)) (b 0)⟩
def SJ:Ç:=Ls 4 [ab,tI,tI,tI,ae,aa,af,ac,aa,tI,ab,bj] [tI] ⟨19,.con ab::.fn 223 [(2,0)]::aN 5 [.con tI,.var tI],cz⟩ [(.ret,⟨19,[.con ab,.fn 223 [(2,0)],.any,.any,.var tI,.any,.any,.con tI],cz⟩,[tI]),(.exit 0,⟨19,.con ab::.fn 223 [(2,0)]::aN 5 [.con tI],cz⟩,[])]
def Ds (ρ:Type):õ ρ:=⟨[18,3,1,2],260,0,SJ,fun(p:Val aM) (v:Int) b a=>oF p.1 p.2.1 p.2.2.2.2.2.2.2.2.2.2.2 v (fun c=>b c) (a 0) (a 1)⟩
def SI:Ç:=Ls 4 [ab,tI,tI,tI,ae,aa,af,ac,aa,tI,ab,bj] [tI] ⟨19,.con ab::.fn 224 [(1,0),(2,0)]::aN 5 [.con tI,.var tI],cz⟩ [(.ret,⟨19,[.con ab,.fn 224 [(1,0),(2,0)],.any,.any,.var tI,.any,.any,.con tI],cz⟩,[tI]),(.exit 0,⟨19,.con ab::.fn 224 [(1,0),(2,0)]::aN 5 [.con tI],cz⟩,[])]
def Dr (ρ:Type):õ ρ:=⟨[20,3,1,2],260,0,SI,fun(p:Val aM) (v:Int) b a=>mc p.1 p.2.1 p.2.2.2.2.2.2.2.2.2.1 p.2.2.2.2.2.2.2.2.2.2.2 v (fun c=>b c) (a 0) (a 1)⟩
def SH:Ç:=Ls 4 [ab,tI,tI,tI,ae,aa,af,ac,aa,tI,ab,bj] [tI] ⟨19,.con ab::.fn 225 [(0,0),(1,0)]::aN 5 [.con tI,.var tI],cz⟩ [(.ret,⟨19,[.con ab,.fn 225 [(0,0),(1,0)],.any,.any,.var tI,.any,.any,.con tI],cz⟩,[tI]),(.exit 0,⟨19,.con ab::.fn 225 [(0,0),(1,0)]::aN 5 [.con tI],cz⟩,[])]
def Dq (ρ:Type):õ ρ:=⟨[24,3,1,2],260,0,SH,fun(p:Val aM) (v:Int) b a=>let A:=p.2.2.2.2;ņ p.1 p.2.1 p.2.2.1 p.2.2.2.1 A.1 A.2.1 A.2.2.1 A.2.2.2.1 A.2.2.2.2.1 A.2.2.2.2.2.1 v (fun c=>b c) (a 0) (a 1)⟩
def lS (ρ:Type):Env ρ:=Ú [(226,aeH)] [Dv ρ,Dt ρ,Ds ρ,Dr ρ,Dq ρ]
def jI:ă:=⟨[Â],[tI],fun(x:a8)=>iM x⟩
def SX:Ç:=Ls 0 [aj,tI,tI,tI,tI,tI,ae,aa,af,ac,aa,aj] [tI,tI] ⟨50,.any::.box 0 0::aN 2 (.var tI::aN 15 (.con aj::.con tI::.con tI::aN 15 [.con tI,.var tI])),[bJ]⟩ [(.exit 2,⟨50,.any::.box 0 0::aN 2 (.var tI::aN 15 (.con aj::.con tI::.con tI::aN 15 [.con tI])),[bJ]⟩,[tI])]
def DA (ρ:Type):õ ρ:=⟨[],80,2,SX,fun(p:Val (.pair aj bt)) (v:bl) a b=>oI p.2.2.2.1 v.1 v.2 (fun c d=>a (c,d)) (b 0)⟩
def SY:Ç:=Ls 0 [aj,tI,tI,tI,ae,aa,af,ac,aa,aj] [tI,tI] ⟨50,.any::.box 0 0::aN 2 (.var tI::aN 15 [.con aj,.con tI,.var tI]),[bJ]⟩ [(.ret,⟨50,.any::.box 0 0::.var tI::aN 17 [.con aj,.con tI],[bJ]⟩,[tI]),(.exit 0,⟨50,.any::.box 0 0::aN 2 (.var tI::aN 15 [.con aj,.con tI]),[bJ]⟩,[tI])]
def DB (ρ:Type):õ ρ:=⟨[],80,0,SY,fun(p:Val (.pair aj aJ)) (v:bl) b a=>let A:=p.2.2.2.2;tC p.1 p.2.1 p.2.2.1 p.2.2.2.1 A.1 A.2.1 A.2.2.1 A.2.2.2.1 A.2.2.2.2.1 A.2.2.2.2.2 v.1 v.2 (fun c d=>b (c,d)) (a 0) (a 1)⟩
def xj (ρ:Type):Env ρ:=Ú [(72,vt),(156,ZW)] [DA ρ,DB ρ]
def Ű:ă:=⟨[aa,Ã],[tI],fun(x:Val (.pair aa Ã))=>ù x.1 x.2⟩
def nf:Ç:=Ls 0 [aa,tI,tI,tI] [tI] ⟨19,[.con aa,.any,.any,.box 0 0,.any,.any,.any,.con tI,.var tI],[bM]⟩ [(.ret,⟨19,[.con aa,.any,.any,.box 0 0,.var tI,.any,.any,.con tI],[bM]⟩,[tI]),(.exit 0,⟨19,[.con aa,.any,.any,.box 0 0,.any,.any,.any,.con tI],[bM]⟩,[])]
def κ (ρ:Type):õ ρ:=⟨[],135,0,nf,fun(p:Val (.pair aa ĝ)) (v:Int) b a=>Ĩ p.1 p.2.1 p.2.2.1 p.2.2.2 v (fun c=>b c) (a 0) (a 1)⟩
def Š (ρ:Type):Env ρ:=Ú [] [κ ρ]
def Lq:ă:=⟨[bh,ab,tI],[tI],fun(x:Val (.pair bh az))=>mg x.1 x.2.1 x.2.2⟩
def En (ρ:Type):Env ρ:=Ú [(135,Ű)] []
def aeF:ă:=⟨[È,Ö,tI,tI],[tI],fun(x:Val (.pair È (.pair Ö Ã)))=>Cw x.1 x.2.1 x.2.2.1 x.2.2.2⟩
def H6:Ç:=Ls 0 [tI,tI,af,tI,tI,tI,ae,aa,af,ac,aa,tI,tI,tI,tI,tI,tI,tI,tI] [tI,tI] ⟨88,aN 2 (.con tI::.con tI::.box 0 0::.box 1 0::aN 3 (.var tI::aN 7 [.con af,.con tI,.var tI])),[bD,bE]⟩ [(.exit 0,⟨88,aN 2 (.con tI::.con tI::.box 0 0::.box 1 0::aN 3 (.var tI::aN 7 [.con af,.con tI])),[bD,bE]⟩,[tI])]
def H5 (ρ:Type):õ ρ:=⟨[],247,0,H6,fun(p:Val (tyL H6.cs)) (v:bl) a b=>xV p.1 p.2.1 p.2.2.1 p.2.2.2.1 p.2.2.2.2.2.2.2.2.2.2.2.1 v.1 v.2 (fun c d=>a (c,d)) (b 0)⟩
def H4:Ç:=Ls 0 [tI,tI,tI,aa,tI,tI,tI,tI,tI,tI,tI,tI,tI] [tI,ab] ⟨88,aN 2 (.con tI::.con tI::.any::.box 0 0::aN 3 (.con tI::aN 3 (.own 1::aN 39 [.con aa,.con tI,.var tI]))),[bE,.rowv tI]⟩ [(.exit 2,⟨88,aN 2 (.con tI::.con tI::.any::.box 0 0::aN 3 (.con tI::aN 3 (.own 1::aN 39 [.con aa,.con tI]))),[bE,.rowv tI]⟩,[ab])]
def HZ (ρ:Type):õ ρ:=⟨[],247,2,H4,fun(p:Val (tyL H4.cs)) (v:f4) a b=>xU p.1 p.2.1 p.2.2.2.1 p.2.2.2.2.1 p.2.2.2.2.2.1 v.1 v.2 (fun c d=>a (c,d)) (b 0)⟩
def B4 (ρ:Type):Env ρ:=Ú [(212,l5)] [H5 ρ,HZ ρ]
def yK:ă:=⟨[aq,ab],[Ã],fun(x:Val (.pair aq ab))=>jo x.1 x.2⟩
def ug (ρ:Type):Env ρ:=Ú [] []
def vp:ă:=⟨[aa],[tI],fun(x:bx)=>lq x⟩
def TN:Ç:=Ls 0 [aa,tI] [tI] ⟨15,aN 5 [.con aa,.con tI,.var tI],[]⟩ [(.ret,⟨15,[.any,.any,.var tI,.any,.any,.con aa,.con tI],[]⟩,[tI]),(.exit 0,⟨15,aN 5 [.con aa,.con tI],[]⟩,[])]
def Ei (ρ:Type):õ ρ:=⟨[],264,0,TN,fun(p:Val bq) (v:Int) b a=>ue p.1 p.2 v (fun c=>b c) (a 0) (a 1)⟩
def FB (ρ:Type):Env ρ:=Ú [(253,Gp)] [Ei ρ]
def EH:ă:=⟨[tI,tI],[Ã,tI],fun(x:bl)=>sg x.1 x.2⟩
def HN (ρ:Type):Env ρ:=Ú [(291,Wq),(292,acC)] []
def aia:ă:=⟨[Ã,Ã],[Ã,tI],fun(x:hO)=>YE x.1 x.2⟩
def aa2 (ρ:Type):Env ρ:=Ú [(264,vp),(312,EH)] []
def Gr:ă:=⟨[Ã,Ã],[Ã],fun(x:hO)=>yx x.1 x.2⟩
def A9 (ρ:Type):Env ρ:=Ú [(296,aia)] []
def acD:ă:=⟨[Ã,Ã],[tI],fun(x:hO)=>Rw x.1 x.2⟩
def aa1 (ρ:Type):Env ρ:=Ú [] []
def Dj:ă:=⟨[ç],[.bool],fun(x:hO)=>uX x⟩
def yR (ρ:Type):Env ρ:=Ú [(264,vp),(320,acD)] []
def aib:ă:=⟨[Ã,Ã],[Ã,tI],fun(x:hO)=>Ry x.1 x.2⟩
def aa4 (ρ:Type):Env ρ:=Ú [(264,vp),(312,EH)] []
def aae:ă:=⟨[ç,Ã],[ç,tI],fun(x:xa)=>Rx x.1 x.2⟩
def LM:BY (Nat×ă):=[(253,Gp),(313,Dj),(316,aib),(320,acD)]
def xM (ρ:Type):BY (õ ρ):=[]
def LL:BY amC:=[⟨[3,2],314,0,4⟩]
def aa3 (ρ:Type):Env ρ:=Ú LM (xM ρ)
def FD (ρ:Type):Env ρ:=mkEnvU LM (xM ρ) LL
def Gq:ă:=⟨[Ã,Ã],[ç],fun(x:hO)=>qw x.1 x.2⟩
def A8 (ρ:Type):Env ρ:=Ú [(297,aae)] []
def UP:ă:=⟨[È,Ô],[ç],fun(x:rn)=>wH x.1 x.2⟩
def LP (ρ:Type):Env ρ:=Ú [(143,xb),(148,Gt),(261,yK),(262,Gr),(263,Gq)] []
def aag:ă:=⟨[È,Ô],[Ã],fun(x:rn)=>Br x.1 x.2⟩
def QP (ρ:Type):Env ρ:=Ú [] []
def Ot:ă:=⟨[tI,tI],[tI],fun(x:bl)=>wF x.1 x.2⟩
def QA (ρ:Type):Env ρ:=Ú [] []
def aeC:ă:=⟨[Ã],[tI,tI],fun(x:bl)=>NC x⟩
def Vj (ρ:Type):Env ρ:=Ú [(264,vp),(265,Ot)] []
def aaf:ă:=⟨[Ã],[tI,tI],fun(x:bl)=>IZ x⟩
def QE (ρ:Type):Env ρ:=Ú [(264,vp),(265,Ot)] []
def aeD:ă:=⟨[È,Ô],[Ã],fun(x:rn)=>Cv x.1 x.2⟩
def Vk (ρ:Type):Env ρ:=Ú [(215,UP),(216,aag),(217,aeC),(218,aaf)] []
def aeE:ă:=⟨[È],[bh],fun(x:b6)=>ND x⟩
def HW:Ç:=Ls 2 [tI,ab,tI,ae,tI,tI,tI,tI,ae,aa,af,ac,aa,tI,tI,ae,aa,af,ac,aa,aa,tI,tI,tI,tI,tI,tI,tI,tI,tI] [tI,am,aa] ⟨144,.box 1 0::.any::.con tI::.box 2 0::.con ab::.con tI::.var tI::aN 24 [.con ae,.con tI,.con tI],[bD,bN,bE,.rowv ĝ,.rowv Ã]⟩ [(.exit 2,⟨144,.box 1 0::.any::.con tI::.box 2 0::.con ab::.con tI::aN 25 [.con ae,.con tI,.con tI],[bD,bN,bE,.rowv ĝ,.rowv Ã]⟩,[am,aa])]
def HV (ρ:Type):õ ρ:=⟨[2,1],200,2,HW,fun(p:Val (tyL HW.cs)) (v:v6) a b=>let A:=p.2.2.2.2.2.2.2.2.2.2.2.2.2;let B:=A.2.2.2.2;let C:=B.2.2.2.2.2;let D:=C.2.2.2.2;xS p.1 p.2.1 p.2.2.1 A.1 A.2.1 A.2.2.1 A.2.2.2.1 B.1 B.2.1 B.2.2.1 C.1 C.2.1 C.2.2.1 C.2.2.2.1 D.1 D.2.1 D.2.2.1 D.2.2.2 v.1 v.2.1 v.2.2 (fun c d e=>a (c,d,e)) (b 0)⟩
def HY:Ç:=Ls 2 [ae,tI,tI,tI,ae,aa,af,ac,aa,tI,tI,ae,aa,af,ac,aa,aa,tI] [tI,am,aa] ⟨144,.box 1 0::aN 30 [.con ae,.con tI,.var tI],cA⟩ [(.exit 0,⟨144,.box 1 0::aN 30 [.con ae,.con tI],cA⟩,[am,aa])]
def HX (ρ:Type):õ ρ:=⟨[2,1],200,0,HY,fun(p:Val (tyL HY.cs)) (v:v6) a b=>let A:=p.2.2.2.2.2.2.2.2.2;let B:=A.2.2.2.2;xT p.1 p.2.1 A.1 A.2.1 A.2.2.1 A.2.2.2.1 B.1 B.2.1 B.2.2.1 B.2.2.2.1 B.2.2.2.2 v.1 v.2.1 v.2.2 (fun c d e=>a (c,d,e)) (b 0)⟩
def HU:Ç:=Ls 2 [ac,tI,tI,tI,ae,aa,af,ac,aa,tI,tI,ae,aa,af,ac,aa,aa,tI] [tI,am,aa] ⟨144,.box 1 0::aN 107 [.con ac,.con tI,.var tI],cA⟩ [(.exit 4,⟨144,.box 1 0::aN 107 [.con ac,.con tI],cA⟩,[am,aa])]
def HT (ρ:Type):õ ρ:=⟨[2,1],200,4,HU,fun(p:Val (tyL HU.cs)) (v:v6) a b=>let A:=p.2.2.2.2.2.2.2.2.2;let B:=A.2.2.2.2;xR p.1 p.2.1 A.1 A.2.1 A.2.2.1 A.2.2.2.1 B.1 B.2.1 B.2.2.1 B.2.2.2.1 B.2.2.2.2 v.1 v.2.1 v.2.2 (fun c d e=>a (c,d,e)) (b 0)⟩
def wn (ρ:Type):Env ρ:=Ú [(136,Gs),(147,Lq),(148,Gt),(201,Wr),(247,aeF),(248,aeD)] [HV ρ,HX ρ,HT ρ]
def vr:ă:=⟨[È],[Ð,aa,tI],fun(x:b6)=>jz x⟩
def LQ (ρ:Type):Env ρ:=Ú [(72,vt),(132,aeE)] []
def Og:ă:=⟨[Â,ah,tI,tI],[tI],fun(x:Val aY)=>uW x.1 x.2.1 x.2.2.1 x.2.2.2⟩
def aaz:Ç:=Ls 0 [ah,tI,tI,tI,ae,aa,af,ac,aa,aj] [tI,tI] ⟨47,.any::.con ah::.var tI::.con tI::.box 0 0::aN 4 [.var tI],[bJ]⟩ [(.exit 0,⟨47,[.any,.con ah,.var tI,.con tI,.box 0 0],[bJ]⟩,[tI])]
def Lu (ρ:Type):õ ρ:=⟨[],105,0,aaz,fun(p:qs) (v:bl) a b=>BU p.1 p.2.1 p.2.2.2.2.2.2.2.2.2 v.1 v.2 (fun c d=>a (c,d)) (b 0)⟩
def OM (ρ:Type):Env ρ:=Ú [(173,nz)] [Lu ρ]
def zz:ă:=⟨[ab,tI,ay,aO],[ab],fun(x:Val (.pair ab (.pair tI (.pair ay aO))))=>jV x.1 x.2.1 x.2.2.1 x.2.2.2⟩
def pM:Ç:=Ls 0 [tI,ay,aO,ab,tI] [tI,ab] ⟨28,[.any,.con tI,.con ay,.con aO,.any,.any,.any,.own 0,.any,.any,.con ab,.con tI,.var tI],cq⟩ [(.exit 0,⟨28,[.any,.con tI,.con ay,.con aO,.any,.any,.any,.own 0,.any,.any,.con ab,.con tI],cq⟩,[ab])]
def pL (ρ:Type):õ ρ:=⟨[],183,0,pM,fun(p:Val (tyL pM.cs)) (v:f4) a b=>jE p.1 p.2.1 p.2.2.1 p.2.2.2.1 p.2.2.2.2 v.1 v.2 (fun c d=>a (c,d)) (b 0)⟩
def nE (ρ:Type):Env ρ:=Ú [(105,Og)] [pL ρ]
def mq:ă:=⟨[Â,ah],[È],fun(x:ly)=>ji x.1 x.2⟩
def tg:Ç:=Ls 0 [ay,aO,ay,aO,aa,tI,tI,tI,tI,tI,ae,aa,af,ac,aa,tI,tI,ae] [tI,aa] ⟨123,aN 2 (.con ay::.con aO::.box 0 0::.box 1 0::.box 2 0::.fnd 183 [Â,ah]::aN 18 [.con aa,.con tI,.var tI]),[bP,bD,bQ,.rowc Ö,.rowv Ã]⟩ [(.exit 0,⟨123,aN 2 (.con ay::.con aO::.box 0 0::.box 1 0::.box 2 0::.fnd 183 [Â,ah]::aN 18 [.con aa,.con tI]),[bP,bD,bQ,.rowc Ö,.rowv Ã]⟩,[aa])]
def tf (ρ:Type):õ ρ:=⟨[],104,0,tg,fun(p:Val (tyL tg.cs)) (v:nn) a b=>lG p.1 p.2.1 p.2.2.2.2.1 p.2.2.2.2.2.1 v.1 v.2 (fun c d=>a (c,d)) (b 0)⟩
def td:Ç:=Ls 0 [ay,aO,ay,aO,af,tI,tI,tI,tI,tI,ae,aa,af,ac,aa,tI,tI,ae,aa] [tI,af] ⟨123,aN 2 (.con ay::.con aO::.box 0 0::.box 1 0::.box 2 0::.fnd 183 [Â,ah]::aN 41 [.con af,.con tI,.var tI]),cB⟩ [(.exit 2,⟨123,aN 2 (.con ay::.con aO::.box 0 0::.box 1 0::.box 2 0::.fnd 183 [Â,ah]::aN 41 [.con af,.con tI]),cB⟩,[af])]
def tc (ρ:Type):õ ρ:=⟨[],104,2,td,fun(p:Val (tyL td.cs)) (v:y6) a b=>lF p.1 p.2.1 p.2.2.2.2.1 p.2.2.2.2.2.1 v.1 v.2 (fun c d=>a (c,d)) (b 0)⟩
def ta:Ç:=Ls 0 [ay,aO,ay,aO,ac,tI,tI,tI,tI,tI,ae,aa,af,ac,aa,tI,tI,ae,aa,af] [tI,ac] ⟨123,aN 2 (.con ay::.con aO::.box 0 0::.box 1 0::.box 2 0::.fnd 183 [Â,ah]::aN 64 [.con ac,.con tI,.var tI]),cD⟩ [(.exit 4,⟨123,aN 2 (.con ay::.con aO::.box 0 0::.box 1 0::.box 2 0::.fnd 183 [Â,ah]::aN 64 [.con ac,.con tI]),cD⟩,[ac])]
def s9 (ρ:Type):õ ρ:=⟨[],104,4,ta,fun(p:Val (tyL ta.cs)) (v:Val bc) a b=>lE p.2.2.1 p.2.2.2.1 p.2.2.2.2.1 p.2.2.2.2.2.1 v.1 v.2 (fun c d=>a (c,d)) (b 0)⟩
def s8:Ç:=Ls 0 [ay,aO,aa,tI,tI,tI,tI,tI,ae,aa,af,ac] [tI,aa] ⟨123,aN 2 (.con ay::.con aO::.box 0 0::.any::.box 1 0::aN 93 [.con aa,.con tI,.var tI]),cE⟩ [(.exit 6,⟨123,aN 2 (.con ay::.con aO::.box 0 0::.any::.box 1 0::aN 93 [.con aa,.con tI]),cE⟩,[aa])]
def s7 (ρ:Type):õ ρ:=⟨[],104,6,s8,fun(p:Val (tyL s8.cs)) (v:nn) a b=>lD p.1 p.2.1 p.2.2.1 p.2.2.2.1 v.1 v.2 (fun c d=>a (c,d)) (b 0)⟩
def Ų (ρ:Type):Env ρ:={Ú [(105,Og),(183,zz)] [tf ρ,tc ρ,s9 ρ,s7 ρ] with hint:=Yt [(78,183),(84,183)]}
def Wp:ă:=⟨[Ð,tI],[.bool],fun(x:Val (.pair Ð tI))=>Cu x.1 x.2⟩
def Va (ρ:Type):Env ρ:=Ú [] []
def zA:ă:=⟨[Ð],[tI,tI],fun(x:ge)=>sf x⟩
def TM:Ç:=Ls 0 [am,tI,tI,am] [tI] ⟨57,.any::.box 0 0::aN 17 [.con am,.con tI,.var tI],[bU]⟩ [(.ret,⟨57,.any::.box 0 0::.var tI::.var tI::aN 15 [.con am,.con tI],[bU]⟩,[tI,tI]),(.exit 0,⟨57,.any::.box 0 0::aN 17 [.con am,.con tI],[bU]⟩,[])]
def Eh (ρ:Type):õ ρ:=⟨[],126,0,TM,fun(p:Val (.pair am aT)) (v:Int) b a=>ud p.1 p.2.1 p.2.2.1 p.2.2.2 v (fun c=>b c) (a 0) (a 1)⟩
def FA (ρ:Type):Env ρ:=Ú [(196,Wp)] [Eh ρ]
def sP:ă:=⟨[Ð,au],[ab,.bool],fun(x:Val (.pair Ð au))=>mf x.1 x.2⟩
def wj:Ç:=Ls 2 [au,am,tI,tI,am,ab,tI,am,ax,ab] [tI,tI] ⟨140,.any::.con au::.own 1::.box 2 0::aN 3 (.box 3 0::.own 4::.own 5::.var tI::aN 14 [.con am,.con tI,.var tI]),[bU,.rowc tI,bU,.cells [.nils],.rowc .bool,.rowc tI]⟩ [(.exit 0,⟨140,.any::.con au::.own 1::.box 2 0::aN 3 (.box 3 0::.own 4::.own 5::.var tI::aN 14 [.con am,.con tI]),[bU,.rowc tI,bU,.cells [.nils],.rowc .bool,.rowc tI]⟩,[tI])]
def wi (ρ:Type):õ ρ:=⟨[2,3],197,0,wj,fun(p:Val (tyL wj.cs)) (v:bl) a b=>iK p.2.1 p.2.2.1 v.1 v.2 (fun c d=>a (c,d)) (b 0)⟩
def wg:Ç:=Ls 2 [au,tI,tI,tI,am,ab,tI,am,ab] [tI,ax,ab] ⟨140,.any::.con au::.own 1::.box 2 0::aN 3 (.box 3 0::.own 4::.own 5::.con tI::aN 27 [.con tI,.var tI]),cF⟩ [(.exit 2,⟨140,.any::.con au::.own 1::.box 2 0::aN 3 (.box 3 0::.own 4::.own 5::.con tI::aN 27 [.con tI]),cF⟩,[ax,ab])]
def we (ρ:Type):õ ρ:=⟨[2,3],197,2,wg,fun(p:Val (tyL wg.cs)) (v:y8) a b=>Ś p.2.2.1 p.2.2.2.2.2.1 v.1 v.2.1 v.2.2 (fun c d e=>a (c,d,e)) (b 0)⟩
def vZ:Ç:=Ls 2 [au,tI,tI,am,tI,tI,am,tI,am,ab] [tI,ab,ax,ab] ⟨140,.any::.con au::.own 1::.box 2 0::aN 3 (.box 3 0::.own 4::.own 5::.con tI::aN 3 (.con tI::aN 62 [.con am,.con tI,.var tI])),cG⟩ [(.ret,⟨140,.any::.con au::.own 1::.box 2 0::aN 2 (.var .bool::.box 3 0::.own 4::.own 5::.con tI::aN 3 (.con tI::aN 62 [.con am,.con tI])),cG⟩,[.bool,ab,ax,ab]),(.exit 6,⟨140,.any::.con au::.own 1::.box 2 0::aN 3 (.box 3 0::.own 4::.own 5::.con tI::aN 3 (.con tI::aN 62 [.con am,.con tI])),cG⟩,[ab,ax,ab])]
def vY (ρ:Type):õ ρ:=⟨[2,3],197,6,vZ,fun(p:Val (tyL vZ.cs)) (v:ni) b a=>jR p.1 p.2.1 p.2.2.1 p.2.2.2.1 p.2.2.2.2.1 v.1 v.2.1 v.2.2.1 v.2.2.2 (fun c d e f=>b (c,d,e,f)) (a 0) (a 1)⟩
def Km:Ç:=Ls 2 [au,tI,tI,am,tI,am] [ab,ax,ab,ab] ⟨140,[.any,.con au,.own 1,.box 2 0,.any,.any,.any,.box 3 0,.own 4,.own 5,.con tI],cH⟩ [(.ret,⟨140,[.any,.con au,.own 1,.box 2 0,.any,.any,.var .bool,.box 3 0,.own 4,.own 5,.con tI],cH⟩,[.bool,ab,ax,ab,ab])]
def wd (ρ:Type):õ ρ:=⟨[2,3],197,4,Km,fun(p:Val (.pair au bB)) (v:Val bm) a b=>Ī p.1 p.2.1 p.2.2.2.2.1 p.2.2.2.2.2 v.1 v.2.1 v.2.2.1 v.2.2.2 (fun c d e f=>a (c,d,e,f)) (b 0)⟩
def Kl:Ç:=Ls 0 [tI,tI] [tI,ab] ⟨34,aN 6 (.own 0::.con tI::aN 13 [.con tI,.var tI]),cq⟩ [(.exit 0,⟨34,aN 6 (.own 0::.con tI::aN 13 [.con tI]),cq⟩,[ab])]
def vX (ρ:Type):õ ρ:=⟨[],127,0,Kl,fun(p:bl) (v:f4) a b=>jQ p.1 p.2 v.1 v.2 (fun c d=>a (c,d)) (b 0)⟩
def η (ρ:Type):Env ρ:=Ú [] [wi ρ,we ρ,vY ρ,wd ρ,vX ρ]
def Dh:ă:=⟨[Ð],[.bool,tI],fun(x:ge)=>ow x⟩
def yP (ρ:Type):Env ρ:=Ú [(126,zA),(127,sP)] []
def oC:ă:=⟨[Â,ah],[.bool],fun(x:ly)=>ŭ x.1 x.2⟩
def Dx (ρ:Type):Env ρ:=Ú [(66,vr),(104,mq),(155,Dh)] []
def Uy:ă:=⟨[Â,ah],[tI],fun(x:ly)=>ķ x.1 x.2⟩
def zR:Ç:=Ls 0 [tI,ah,tI,tI,ab,tI,tI,tI,ae,aa,af,ac,aa,aj] [tI,tI] ⟨40,aN 2 (.box 0 0::aN 2 (.var tI::.con tI::aN 3 (.con ah::.con tI::.con tI::aN 4 [.con ab,.con tI,.var tI]))),[bJ]⟩ [(.exit 2,⟨40,aN 2 (.box 0 0::aN 2 (.var tI::.con tI::aN 3 (.con ah::.con tI::.con tI::aN 4 [.con ab,.con tI]))),[bJ]⟩,[tI])]
def zQ (ρ:Type):õ ρ:=⟨[],116,2,zR,fun(p:Val (tyL zR.cs)) (v:bl) a b=>let A:=p.2.2.2.2;pV p.1 A.1 A.2.1 A.2.2.2.2.2.2.2.2.2 v.1 v.2 (fun c d=>a (c,d)) (b 0)⟩
def OO:Ç:=Ls 0 [ah,tI,tI,tI,ae,aa,af,ac,aa,aj] [tI,tI] ⟨40,aN 2 (.box 0 0::aN 2 (.var tI::aN 4 [.con ah,.con tI,.var tI])),[bJ]⟩ [(.exit 0,⟨40,aN 2 (.box 0 0::aN 2 (.var tI::aN 4 [.con ah,.con tI])),[bJ]⟩,[tI])]
def zS (ρ:Type):õ ρ:=⟨[],116,0,OO,fun(p:qs) (v:bl) a b=>pW p.1 p.2.1 p.2.2.2.2.2.2.2.2.2 v.1 v.2 (fun c d=>a (c,d)) (b 0)⟩
def sZ (ρ:Type):Env ρ:=Ú [] [zQ ρ,zS ρ]
def zB:ă:=⟨[tI],[.bool],fun(x:Int)=>mT x⟩
def wm (ρ:Type):Env ρ:=Ú [] []
def nA:ă:=⟨[tI,tI],[tI],fun(x:bl)=>iO x.1 x.2⟩
def rQ (ρ:Type):Env ρ:=Ú [(234,zB)] []
def JA:ă:=⟨[ah,ah,ay],[tI],fun(x:Val (.pair ah (.pair ah ay)))=>kz x.1 x.2.1 x.2.2⟩
def Lv (ρ:Type):Env ρ:=Ú [(116,Uy),(180,nA)] []
def ć:ahj:=⟨ah,[tI,tI],179,Â,fun(xs:a7) (x:bl) (m:a8)=>ê xs x.1 x.2 m⟩
def mF:Ç:=Ls 2 [tI,tI,tI,tI,tI,ae,aa,af,ac,aa,aj] [tI,ak] ⟨53,.own 0::.con tI::.con tI::.fn 179 [(1,0)]::aN 4 [.con tI,.var tI],cI⟩ [(.exit 2,⟨53,.own 0::.con tI::.con tI::.fn 179 [(1,0)]::aN 4 [.con tI],cI⟩,[ak])]
def Ξ (ρ:Type):õ ρ:=⟨[],273,2,mF,fun(p:Val bt) (v:io) a b=>let A:=p.2.2.2.2;let B:=A.2.2.2.2;ë p.1 p.2.2.2.1 A.1 A.2.1 A.2.2.1 A.2.2.2.1 B.1 B.2.1 B.2.2 v.1 v.2 (fun c d=>a (c,d)) (b 0)⟩
def mG:Ç:=Ls 2 [tI,tI,tI,tI,ae,aa,af,ac,aa,aj] [tI,ak] ⟨53,.own 0::.con tI::.con tI::.fn 179 [(1,0)]::aN 4 [.var tI],cI⟩ [(.exit 0,⟨53,[.own 0,.con tI,.con tI,.fn 179 [(1,0)]],cI⟩,[ak])]
def Ο (ρ:Type):õ ρ:=⟨[],273,0,mG,fun(p:Val (.pair tI aJ)) (v:io) a b=>let A:=p.2.2.2.2;đ p.1 p.2.1 p.2.2.1 p.2.2.2.1 A.1 A.2.1 A.2.2.1 A.2.2.2.1 A.2.2.2.2.1 A.2.2.2.2.2 v.1 v.2 (fun c d=>a (c,d)) (b 0)⟩
def û (ρ:Type):Env ρ:={Ú [(179,JA)] [Ξ ρ,Ο ρ] with hint:=Yt [(22,179)]}
def Ĵ:ahj:=⟨ah,[tI,tI,tI],179,Â,fun(xs:a7) (x:rm) (m:a8)=>Ĺ xs x.1 x.2.1 x.2.2 m⟩
def sF:Ç:=Ls 2 [tI,tI,tI,tI,tI,ae,aa,af,ac,aa,aj] [tI,ak] ⟨38,.own 0::.con tI::.con tI::.con tI::aN 6 [.var tI],cI⟩ [(.exit 0,⟨38,[.own 0,.con tI,.con tI,.con tI],cI⟩,[ak])]
def kL (ρ:Type):õ ρ:=⟨[4,7],317,0,sF,fun(p:Val bt) (v:io) a b=>Đ p.1 p.2.1 p.2.2.1 v.1 v.2 (fun c d=>a (c,d)) (b 0)⟩
def sE:Ç:=Ls 2 [tI,tI,tI,tI,tI,ae,aa,af,ac,aa,aj] [tI,ak] ⟨38,.own 0::.con tI::.con tI::.con tI::aN 6 [.var tI],cI⟩ [(.exit 0,⟨38,[.own 0,.con tI,.con tI,.con tI],cI⟩,[ak])]
def kK (ρ:Type):õ ρ:=⟨[6,11],317,0,sE,fun(p:Val bt) (v:io) a b=>iJ p.1 p.2.1 p.2.2.1 v.1 v.2 (fun c d=>a (c,d)) (b 0)⟩
def sG:Ç:=Ls 2 [tI,tI,tI,ae,aa,af,ac,aa,aj] [tI,tI,ak] ⟨58,.own 0::.any::.con tI::.any::.fn 179 [(1,0)]::aN 5 [.var tI,.var tI],cI⟩ [(.exit 0,⟨58,.own 0::.any::.con tI::.any::.fn 179 [(1,0)]::aN 5 [.var tI],cI⟩,[tI,ak])]
def kM (ρ:Type):õ ρ:=⟨[],300,0,sG,fun(p:Val aJ) (v:y9) a b=>ĵ p.1 v.1 v.2.1 v.2.2 (fun c d e=>a (c,d,e)) (b 0)⟩
def sw:Ç:=Ls 2 [tI,tI,tI,tI,tI,ae,aa,af,ac,aa,aj] [tI,ak] ⟨38,.own 0::.con tI::.con tI::.con tI::aN 6 [.var tI],cI⟩ [(.exit 0,⟨38,[.own 0,.con tI,.con tI,.con tI],cI⟩,[ak])]
def kJ (ρ:Type):õ ρ:=⟨[8,7],317,0,sw,fun(p:Val bt) (v:io) a b=>iI p.1 p.2.1 p.2.2.1 v.1 v.2 (fun c d=>a (c,d)) (b 0)⟩
def Ą (ρ:Type):Env ρ:=Ú [] [kL ρ,kK ρ,kM ρ,kJ ρ]
def mr:ahj:=⟨ah,[tI,tI,tI],179,Â,fun(xs:a7) (x:rm) (m:a8)=>Ę xs x.1 x.2.1 x.2.2 m⟩
def Č:Ç:=Ls 2 [tI,ak,tI,tI,ae,aa,af,ac,aa,aj] [tI,tI] ⟨220,.own 0::.con tI::aN 2 (.fn 179 [(1,0)]::aN 5 [.var tI,.var tI]),cJ⟩ [(.exit 0,⟨220,.own 0::.con tI::aN 2 (.fn 179 [(1,0)]::aN 5 [.var tI]),cJ⟩,[tI])]
def Ū (rec:a7->Int->Int->Int->a8->BE (a7×a8)) (ρ:Type):õ ρ:=⟨[],274,0,Č,fun(p:u7) (v:bl) a b=>þ rec p.1 p.2.1 p.2.2.1 p.2.2.2.1 p.2.2.2.2.1 p.2.2.2.2.2.1 p.2.2.2.2.2.2.1 p.2.2.2.2.2.2.2.1 p.2.2.2.2.2.2.2.2.1 p.2.2.2.2.2.2.2.2.2 v.1 v.2 (fun c d=>a (c,d)) (b 0)⟩
def ċ:Ç:=Ls 2 [tI,tI,tI,ae,aa,af,ac,aa,aj] [tI,ak] ⟨220,.own 0::aN 9 [.con tI,.any,.any,.var tI],cI⟩ [(.exit 2,⟨220,.own 0::aN 9 [.con tI],cI⟩,[ak])]
def ũ (rec:a7->Int->Int->Int->a8->BE (a7×a8)) (ρ:Type):õ ρ:=⟨[],274,2,ċ,fun(p:Val aJ) (v:io) a b=>ó rec p.1 v.1 v.2 (fun c d=>a (c,d)) (b 0)⟩
def Ċ:Ç:=Ls 2 [tI,ak,tI,tI,ae,aa,af,ac,aa,aj] [tI,tI] ⟨220,.own 0::.any::.con tI::.any::.fn 179 [(1,0)]::aN 9 [.var tI,.var tI],cJ⟩ [(.exit 4,⟨220,.own 0::.any::.con tI::.any::.fn 179 [(1,0)]::aN 9 [.var tI],cJ⟩,[tI])]
def Ũ (rec:a7->Int->Int->Int->a8->BE (a7×a8)) (ρ:Type):õ ρ:=⟨[],274,4,Ċ,fun(p:u7) (v:bl) a b=>ý rec p.1 p.2.1 p.2.2.1 p.2.2.2.1 p.2.2.2.2.1 p.2.2.2.2.2.1 p.2.2.2.2.2.2.1 p.2.2.2.2.2.2.2.1 p.2.2.2.2.2.2.2.2.1 p.2.2.2.2.2.2.2.2.2 v.1 v.2 (fun c d=>a (c,d)) (b 0)⟩
def ĉ:Ç:=Ls 2 [tI,tI,tI,ae,aa,af,ac,aa,aj] [tI,ak] ⟨220,.own 0::aN 13 [.con tI,.any,.any,.var tI],cI⟩ [(.exit 6,⟨220,.own 0::aN 13 [.con tI],cI⟩,[ak])]
def ŧ (rec:a7->Int->Int->Int->a8->BE (a7×a8)) (ρ:Type):õ ρ:=⟨[],274,6,ĉ,fun(p:Val aJ) (v:io) a b=>ò rec p.1 v.1 v.2 (fun c d=>a (c,d)) (b 0)⟩
def Ĉ:Ç:=Ls 2 [tI,tI,tI,tI,tI,tI,ak,tI,tI,ae,aa,af,ac,aa,aj] [tI,tI] ⟨220,.own 0::.con tI::.con tI::.con tI::.fn 179 [(1,0)]::aN 13 [.con tI,.con tI,.var tI,.var tI,.con tI],cJ⟩ [(.exit 8,⟨220,.own 0::.con tI::.con tI::.con tI::.fn 179 [(1,0)]::aN 13 [.con tI,.con tI,.var tI,.any,.con tI],cJ⟩,[tI])]
def Ŧ (rec:a7->Int->Int->Int->a8->BE (a7×a8)) (ρ:Type):õ ρ:=⟨[],274,8,Ĉ,fun(p:Val aW) (v:bl) a b=>â rec p.2.2.2.2.2.1 p.2.2.2.2.2.2.1 p.2.2.2.2.2.2.2.1 p.2.2.2.2.2.2.2.2.1 p.2.2.2.2.2.2.2.2.2.1 p.2.2.2.2.2.2.2.2.2.2.1 p.2.2.2.2.2.2.2.2.2.2.2.1 p.2.2.2.2.2.2.2.2.2.2.2.2.1 p.2.2.2.2.2.2.2.2.2.2.2.2.2.1 p.2.2.2.2.2.2.2.2.2.2.2.2.2.2 v.1 v.2 (fun c d=>a (c,d)) (b 0)⟩
def sq (rec:a7->Int->Int->Int->a8->BE (a7×a8)):BY (Nat×ă):=[(179,JA)]
def sn (rec:a7->Int->Int->Int->a8->BE (a7×a8)):BY (Nat×afB):=[(274,.row ⟨ah,[tI,tI,tI],179,Â,fun(xs:a7) (x:rm) (m:a8)=>rec xs x.1 x.2.1 x.2.2 m⟩),(300,.row Ĵ)]
def jM (rec:a7->Int->Int->Int->a8->BE (a7×a8)) (ρ:Type):BY (õ ρ):=[Ū rec ρ,ũ rec ρ,Ũ rec ρ,ŧ rec ρ,Ŧ rec ρ]
def É (rec:a7->Int->Int->Int->a8->BE (a7×a8)) (ρ:Type):Env ρ:={aeM (sq rec) (jM rec ρ) (sn rec) with hint:=Yt [(40,179),(92,179),(158,179)]}
def ģ:ahj:=⟨ah,[tI],179,Â,fun(xs:a7) (x:Int) (m:a8)=>ĸ xs x m⟩
def sv:Ç:=Ls 2 [tI,tI] [tI,tI,ak,tI,tI,ae,aa,af,ac,aa,aj] ⟨63,[.own 0,.con tI,.fn 179 [(1,0)],.any,.any,.any,.con tI,.var tI,.var tI],cM⟩ [(.exit 0,⟨63,[.own 0,.con tI,.fn 179 [(1,0)],.any,.any,.any,.con tI,.var tI],cM⟩,[tI,ak,tI,tI,ae,aa,af,ac,aa,aj])]
def kI (ρ:Type):õ ρ:=⟨[],233,0,sv,fun(p:bl) (v:An) a b=>iH p.1 p.2 v.1 v.2.1 v.2.2.1 v.2.2.2.1 v.2.2.2.2.1 v.2.2.2.2.2.1 v.2.2.2.2.2.2.1 v.2.2.2.2.2.2.2.1 v.2.2.2.2.2.2.2.2.1 v.2.2.2.2.2.2.2.2.2.1 v.2.2.2.2.2.2.2.2.2.2 (fun c d e f g h i j k l m=>a (c,d,e,f,g,h,i,j,k,l,m)) (b 0)⟩
def sr:Ç:=Ls 2 [tI,tI] [tI,tI,ak,tI,tI,ae,aa,af,ac,aa,aj] ⟨63,[.own 0,.con tI,.fn 179 [(1,0)],.any,.any,.any,.con tI,.var tI,.var tI],cM⟩ [(.exit 4,⟨63,[.own 0,.con tI,.fn 179 [(1,0)],.any,.any,.any,.con tI,.var tI],cM⟩,[tI,ak,tI,tI,ae,aa,af,ac,aa,aj])]
def kG (ρ:Type):õ ρ:=⟨[],233,4,sr,fun(p:bl) (v:An) a b=>iF p.1 p.2 v.1 v.2.1 v.2.2.1 v.2.2.2.1 v.2.2.2.2.1 v.2.2.2.2.2.1 v.2.2.2.2.2.2.1 v.2.2.2.2.2.2.2.1 v.2.2.2.2.2.2.2.2.1 v.2.2.2.2.2.2.2.2.2.1 v.2.2.2.2.2.2.2.2.2.2 (fun c d e f g h i j k l m=>a (c,d,e,f,g,h,i,j,k,l,m)) (b 0)⟩
def su:Ç:=Ls 2 [tI] [tI,ak,tI,tI,ae,aa,af,ac,aa,aj] ⟨63,[.own 0,.con tI,.fn 179 [(1,0)],.any,.any,.any,.var tI],cM⟩ [(.exit 2,⟨63,[.own 0,.con tI,.fn 179 [(1,0)]],cM⟩,[ak,tI,tI,ae,aa,af,ac,aa,aj])]
def kH (ρ:Type):õ ρ:=⟨[],233,2,su,fun(p:Int) (v:u7) a b=>iG p v.1 v.2.1 v.2.2.1 v.2.2.2.1 v.2.2.2.2.1 v.2.2.2.2.2.1 v.2.2.2.2.2.2.1 v.2.2.2.2.2.2.2.1 v.2.2.2.2.2.2.2.2.1 v.2.2.2.2.2.2.2.2.2 (fun c d e f g h i j k l=>a (c,d,e,f,g,h,i,j,k,l)) (b 0)⟩
def vO:BY (Nat×afB):=[(273,.row ć),(274,.row mr)]
def ė (ρ:Type):Env ρ:=aeM [] [kI ρ,kG ρ,kH ρ] vO
def Wi:ă:=⟨[Â],[ak],fun(x:a8)=>II x⟩
def mC:Tpl:=⟨13,[.any,.any,.box 3 0],[.cells [.con tI,.con tI,.con ae,.con aa,.con af,.con ac,.con aa,.con aj],.cells [.con tI,.con tI,.con ae,.con aa,.con af,.con ac,.con aa,.con aj],.dead,.cells [.own 4],.rowv ah]⟩
def pY (ρ:Type):Jl ρ:=⟨[1,1,1,3,1,1],230,0,4,[tI,tI,ae,aa,af,ac,aa,aj,tI,tI,ae,aa,af,ac,aa,aj],[ak],mC,rX,fun(p:Val aF) (v:a7) y a=>E4 v y (fun b=>a b)⟩
def GS:Ç:=Ls 5 [tI,tI,tI,ae,aa,af,ac,aa,aj,tI,tI,ae,aa,af,ac,aa,aj,aj,ak] [tI] ⟨19,.own 4::.fn 158 [(0,0)]::aN 5 [.con tI,.var tI],[bJ,bJ,bX,bY,.rowc ah]⟩ [(.ret,⟨19,[.own 4,.fn 158 [(0,0)],.any,.any,.var tI,.any,.any,.con tI],[bJ,bJ,bX,bY,.rowc ah]⟩,[tI]),(.exit 0,⟨19,.own 4::.fn 158 [(0,0)]::aN 5 [.con tI],[bJ,bJ,bX,bY,.rowc ah]⟩,[])]
def GR (ρ:Type):õ ρ:=⟨[1,3,1,2],186,0,GS,fun(p:Val (tyL GS.cs)) (v:Int) b a=>let A:=p.2.2.2.2;xf p.1 p.2.1 p.2.2.1 p.2.2.2.1 A.1 A.2.1 A.2.2.1 A.2.2.2.1 A.2.2.2.2.1 A.2.2.2.2.2.2.2.2.2.2.2.2.2.2 v (fun c=>b c) (a 0) (a 1)⟩
def GQ:Ç:=Ls 5 [tI,tI,ae,aa,af,ac,aa,aj,tI,tI,ae,aa,af,ac,aa,aj,aj] [tI,tI,ak] ⟨42,[.own 4,.fn 158 [(0,0)],.any,.any,.any,.var tI,.var tI],[bJ,bJ,bX,bY,.rowv ah]⟩ [(.exit 0,⟨42,[.own 4,.fn 158 [(0,0)],.any,.any,.any,.var tI],[bJ,bJ,bX,bY,.rowv ah]⟩,[tI,ak])]
def GP (ρ:Type):õ ρ:=⟨[1,3],157,0,GQ,fun(p:Val (tyL GQ.cs)) (v:y9) a b=>let A:=p.2.2.2.2;nI p.1 p.2.1 p.2.2.1 p.2.2.2.1 A.1 A.2.1 A.2.2.1 A.2.2.2.1 v.1 v.2.1 v.2.2 (fun c d e=>a (c,d,e)) (b 0)⟩
def O7 (ρ:Type):BY (Jl ρ):=[pY ρ]
def acO:BY (Nat×afB):=[(233,.row ģ)]
def iD (ρ:Type):Env ρ:={aeM [(79,oC)] [GR ρ,GP ρ] acO with ranges:=Ν (O7 ρ)}
def acA:ă:=⟨[Â],[ak,tI],fun(x:a8)=>Rt x⟩
def aaG (ρ:Type):Env ρ:=Ú [(80,jI),(81,Wi)] []
def BT:ă:=⟨[Â],[ak],fun(x:a8)=>uw x⟩
def mB:Tpl:=⟨13,[.any,.any,.box 2 0],[.cells [.con tI,.con tI,.con ae,.con aa,.con af,.con ac,.con aa,.con aj],.dead,.cells [.own 3],.rowv ah]⟩
def pX (ρ:Type):Jl ρ:=⟨[1,3,1,1],230,0,3,[tI,tI,ae,aa,af,ac,aa,aj],[ak],mB,rX,fun(p:ry) (v:a7) y a=>EP v y (fun b=>a b)⟩
def OP (ρ:Type):BY (Jl ρ):=[pX ρ]
def acN:BY (Nat×afB):=[(233,.row ģ)]
def ka (ρ:Type):Env ρ:={aeM [] [] acN with ranges:=Ν (OP ρ)}
def pS:ă:=⟨[Â],[ah,.bool],fun(x:a8)=>ą x⟩
def GU:Ç:=Ls 1 [ak,tI,tI,tI,ae,aa,af,ac,aa,aj] [tI] ⟨21,.any::.fn 159 [(0,0)]::aN 7 [.con ak,.con tI,.var tI],[bJ]⟩ [(.ret,⟨21,[.any,.fn 159 [(0,0)],.any,.any,.var ah,.var .bool,.any,.any,.any,.con ak,.con tI],[bJ]⟩,[ah,.bool]),(.exit 0,⟨21,.any::.fn 159 [(0,0)]::aN 7 [.con ak,.con tI],[bJ]⟩,[])]
def tk (ρ:Type):õ ρ:=⟨[1,3],99,0,GU,fun(p:Val (.pair ak aJ)) (v:Int) b a=>let A:=p.2.2.2.2;lH p.1 p.2.1 p.2.2.1 p.2.2.2.1 A.1 A.2.1 A.2.2.1 A.2.2.2.1 A.2.2.2.2.1 A.2.2.2.2.2 v (fun c=>b c) (a 0) (a 1)⟩
def rh (ρ:Type):Env ρ:=Ú [(79,oC),(96,BT)] [tk ρ]
def Oi:ă:=⟨[Â],[ah,tI],fun(x:a8)=>Bo x⟩
def Pf (ρ:Type):Env ρ:=Ú [(80,jI),(82,pS)] []
def wZ:ă:=⟨[ab,ab],[.bool],fun(x:u6)=>kD x.1 x.2⟩
def Hx:Ç:=Ls 0 [ab,ab] [tI] ⟨26,[.con ab,.con ab,.any,.any,.any,.var tI],[]⟩ [(.ret,⟨26,[.con ab,.con ab,.any,.any,.var .bool],[]⟩,[.bool]),(.exit 0,⟨26,[.con ab,.con ab],[]⟩,[])]
def tS (ρ:Type):õ ρ:=⟨[],35,0,Hx,fun(p:u6) (v:Int) b a=>lM p.1 p.2 v (fun c=>b c) (a 0) (a 1)⟩
def rO (ρ:Type):Env ρ:=Ú [] [tS ρ]
def sO:ă:=⟨[ah,ah],[.bool],fun(x:Val (.pair ah ah))=>iY x.1 x.2⟩
def JY:Ç:=Ls 0 [ah,ah] [tI] ⟨29,[.con ah,.con ah,.any,.any,.any,.var tI],[]⟩ [(.ret,⟨29,[.con ah,.con ah,.any,.any,.var .bool],[]⟩,[.bool]),(.exit 0,⟨29,[.con ah,.con ah],[]⟩,[])]
def vV (ρ:Type):õ ρ:=⟨[],26,0,JY,fun(p:Val (.pair ah ah)) (v:Int) b a=>mL p.1 p.2 v (fun c=>b c) (a 0) (a 1)⟩
def uO (ρ:Type):Env ρ:=Ú [(35,wZ)] [vV ρ]
def Gg:ă:=⟨[Â,tI,tI],[tI],fun(x:wl)=>wz x.1 x.2.1 x.2.2⟩
def Dn:Ç:=Ls 2 [ae,tI,tI,tI,ae,aa,af,ac,aa,aj,tI] [tI] ⟨19,.con ae::.fn 169 [(1,0)]::aN 5 [.con tI,.var tI],[bJ,bH]⟩ [(.ret,⟨19,[.con ae,.fn 169 [(1,0)],.any,.any,.var tI,.any,.any,.con tI],[bJ,bH]⟩,[tI]),(.exit 0,⟨19,.con ae::.fn 169 [(1,0)]::aN 5 [.con tI],[bJ,bH]⟩,[])]
def Dm (ρ:Type):õ ρ:=⟨[3,4,1,2],229,0,Dn,fun(p:Val (tyL Dn.cs)) (v:Int) b a=>ti p.1 p.2.1 p.2.2.2.2.2.2.2.2.2.2 v (fun c=>b c) (a 0) (a 1)⟩
def EZ (ρ:Type):Env ρ:=Ú [] [Dm ρ]
def UQ:ă:=⟨[ab,ab],[ab,ab,tI],fun(x:u6)=>qN x.1 x.2⟩
def LR (ρ:Type):Env ρ:=Ú [(148,Gt),(172,JB)] []
def Gi:ă:=⟨[Â,tI],[.bool,tI],fun(x:Val (.pair Â tI))=>qu x.1 x.2⟩
def tx:Ç:=Ls 6 [tI,tI,tI,ae,aa,af,ac,aa,aj,tI,tI,tI,ae,aa,af,ac,aa,aj,tI,tI,ac] [tI] ⟨19,.own 5::.fn 171 [(3,0)]::aN 5 [.con tI,.var tI],cN⟩ [(.ret,⟨19,[.own 5,.fn 171 [(3,0)],.any,.any,.var tI,.any,.any,.con tI],cN⟩,[tI]),(.exit 0,⟨19,.own 5::.fn 171 [(3,0)]::aN 5 [.con tI],cN⟩,[])]
def tv (ρ:Type):õ ρ:=⟨[7,2,1,5,1,2],175,0,tx,fun(p:Val (tyL tx.cs)) (v:Int) b a=>lJ p.1 p.2.2.2.2.2.2.2.2.2.1 p.2.2.2.2.2.2.2.2.2.2.2.2.2.2.2.2.2.2.2.2 v (fun c=>b c) (a 0) (a 1)⟩
def tr:Ç:=Ls 6 [tI,tI,ae,aa,af,ac,aa,aj,tI,tI,tI,ae,aa,af,ac,aa,aj,tI,tI] [tI,tI,ac] ⟨42,[.own 5,.fn 171 [(3,0)],.any,.any,.any,.var tI,.var tI],[bJ,bH,bJ,bZ,b7,.rowv Ô]⟩ [(.exit 0,⟨42,[.own 5,.fn 171 [(3,0)],.any,.any,.any,.var tI],[bJ,bH,bJ,bZ,b7,.rowv Ô]⟩,[tI,ac])]
def tq (ρ:Type):õ ρ:=⟨[7,2,1,5],151,0,tr,fun(p:Val (tyL tr.cs)) (v:At) a b=>Δ p.2.2.2.2.2.2.2.2.1 v.1 v.2.1 v.2.2 (fun c d e=>a (c,d,e)) (b 0)⟩
def mD (ρ:Type):Env ρ:=Ú [(80,jI),(82,pS),(88,Gg),(91,UQ),(92,Ť)] [tv ρ,tq ρ]
def Wh:ă:=⟨[Â,ab],[Â],fun(x:y5)=>Cg x.1 x.2⟩
def GO:Ç:=Ls 7 [tI,tI,tI,ae,aa,af,ac,aa,aj,ab,tI,tI,tI,tI,ae,aa,af,ac,aa,aj,tI,tI,ac] [tI] ⟨19,.own 6::.fn 171 [(4,0)]::aN 5 [.con tI,.var tI],cO⟩ [(.ret,⟨19,[.own 6,.fn 171 [(4,0)],.any,.any,.var tI,.any,.any,.con tI],cO⟩,[tI]),(.exit 0,⟨19,.own 6::.fn 171 [(4,0)]::aN 5 [.con tI],cO⟩,[])]
def GN (ρ:Type):õ ρ:=⟨[1,2,1,5,1,2],175,0,GO,fun(p:Val (tyL GO.cs)) (v:Int) b a=>xe p.1 p.2.2.2.2.2.2.2.2.2.1 p.2.2.2.2.2.2.2.2.2.2.2.2.2.2.2.2.2.2.2.2.2.2 v (fun c=>b c) (a 0) (a 1)⟩
def GM:Ç:=Ls 7 [tI,tI,ae,aa,af,ac,aa,aj,ab,tI,tI,tI,tI,ae,aa,af,ac,aa,aj,tI,tI] [tI,tI,ac] ⟨42,[.own 6,.fn 171 [(4,0)],.any,.any,.any,.var tI,.var tI],[bJ,bC,b7,bJ,b8,b7,.rowv Ô]⟩ [(.exit 0,⟨42,[.own 6,.fn 171 [(4,0)],.any,.any,.any,.var tI],[bJ,bC,b7,bJ,b8,b7,.rowv Ô]⟩,[tI,ac])]
def GK (ρ:Type):õ ρ:=⟨[1,2,1,5],151,0,GM,fun(p:Val (tyL GM.cs)) (v:At) a b=>nH p.2.2.2.2.2.2.2.2.1 v.1 v.2.1 v.2.2 (fun c d e=>a (c,d,e)) (b 0)⟩
def BV (ρ:Type):Env ρ:=Ú [(92,Ť)] [GN ρ,GK ρ]
def aet:ă:=⟨[Â],[ab,tI],fun(x:a8)=>Nx x⟩
def WX:Ç:=Ls 0 [ac,tI,tI,tI,ae,aa,af,ac,aa,aj] [tI,ab] ⟨66,.any::.box 0 0::aN 5 (.own 1::aN 19 [.con ac,.con tI,.var tI]),[bJ,.rowv tI]⟩ [(.exit 0,⟨66,.any::.box 0 0::aN 5 (.own 1::aN 19 [.con ac,.con tI]),[bJ,.rowv tI]⟩,[ab])]
def G8 (ρ:Type):õ ρ:=⟨[],29,0,WX,fun(p:Val (.pair ac aJ)) (v:f4) a b=>xi p.1 p.2.1 v.1 v.2 (fun c d=>a (c,d)) (b 0)⟩
def WW:Ç:=Ls 0 [tI,tI,ae,aa,af,ac,aa,aj] [ab,tI] ⟨66,.any::.box 0 0::aN 5 [.var ab,.any,.any,.var tI],[bJ]⟩ [(.exit 2,⟨66,.any::.box 0 0::aN 5 [.var ab],[bJ]⟩,[ab])]
def G7 (ρ:Type):õ ρ:=⟨[],29,2,WW,fun(p:ry) (v:lA) a b=>let A:=p.2.2.2.2;ri p.1 p.2.1 p.2.2.1 p.2.2.2.1 A.1 A.2.1 A.2.2.1 A.2.2.2 v.1 v.2 (fun c d=>a (c,d)) (b 0)⟩
def BW (ρ:Type):Env ρ:=Ú [(80,jI),(82,pS),(87,Wh),(93,jD)] [G8 ρ,G7 ρ]
def UA:ă:=⟨[ab,tI],[ab],fun(x:lA)=>jw x.1 x.2⟩
def Pa:Ç:=Ls 0 [tI,ab,tI] [tI,ab] ⟨26,[.any,.con tI,.any,.any,.any,.own 0,.any,.any,.con ab,.con tI,.var tI],cq⟩ [(.exit 0,⟨26,[.any,.con tI,.any,.any,.any,.own 0,.any,.any,.con ab,.con tI],cq⟩,[ab])]
def Ac (ρ:Type):õ ρ:=⟨[],98,0,Pa,fun(p:Val (.pair tI az)) (v:f4) a b=>pZ p.1 p.2.1 p.2.2 v.1 v.2 (fun c d=>a (c,d)) (b 0)⟩
def Ad (ρ:Type):Env ρ:=Ú [] [Ac ρ]
def Lm:ă:=⟨[Â,ab],[ab,tI],fun(x:y5)=>uz x.1 x.2⟩
def vL:Ç:=Ls 3 [ac,tI,tI,tI,ae,aa,af,ac,aa,aj,ab,tI] [tI] ⟨19,.con ac::.fn 95 [(2,0)]::aN 5 [.con tI,.var tI],[bJ,bC,bH]⟩ [(.ret,⟨19,[.con ac,.fn 95 [(2,0)],.any,.any,.var tI,.any,.any,.con tI],[bJ,bC,bH]⟩,[tI]),(.exit 0,⟨19,.con ac::.fn 95 [(2,0)]::aN 5 [.con tI],[bJ,bC,bH]⟩,[])]
def vK (ρ:Type):õ ρ:=⟨[9,4,1,2],175,0,vL,fun(p:Val (tyL vL.cs)) (v:Int) b a=>mE p.1 p.2.1 p.2.2.2.2.2.2.2.2.2.2.2 v (fun c=>b c) (a 0) (a 1)⟩
def vN:Ç:=Ls 0 [ab,tI,tI,tI,ae,aa,af,ac,aa,aj,ab] [tI] ⟨135,aN 2 (.box 0 0::.box 1 0::aN 28 [.con ab,.con tI,.var tI]),[bJ,bC]⟩ [(.ret,⟨135,aN 2 (.box 0 0::.box 1 0::.nils::.var tI::aN 26 [.con ab,.con tI]),[bJ,bC]⟩,[tI]),(.exit 0,⟨135,aN 2 (.box 0 0::.box 1 0::aN 28 [.con ab,.con tI]),[bJ,bC]⟩,[])]
def vM (ρ:Type):õ ρ:=⟨[],30,0,vN,fun(p:Val (tyL vN.cs)) (v:Int) b a=>iE p.1 p.2.1 p.2.2.2.2.2.2.2.1 v (fun c=>b c) (a 0) (a 1)⟩
def JQ:Ç:=Ls 0 [tI,tI,ae,aa,af,ac,aa,aj,ab] [tI] ⟨135,aN 2 (.box 0 0::.box 1 0::aN 5 [.var tI]),[bJ,bC]⟩ [(.ret,⟨135,[.any,.any,.box 0 0,.box 1 0,.nils,.var tI],[bJ,bC]⟩,[tI]),(.exit 2,⟨135,[.any,.any,.box 0 0,.box 1 0],[bJ,bC]⟩,[])]
def vJ (ρ:Type):õ ρ:=⟨[],30,2,JQ,fun(p:Val aS) (v:Int) b a=>jL p.2.2.2.2.2.2.2.2 v (fun c=>b c) (a 0) (a 1)⟩
def vI:Ç:=Ls 4 [ak,tI,tI,tI,ae,aa,af,ac,aa,aj,ab,tI] [tI] ⟨21,.any::.fn 100 [(3,0),(2,0)]::aN 7 [.con ak,.con tI,.var tI],[bJ,bC,bH,b9]⟩ [(.ret,⟨21,[.any,.fn 100 [(3,0),(2,0)],.any,.any,.var ah,.var .bool,.any,.any,.any,.con ak,.con tI],[bJ,bC,bH,b9]⟩,[ah,.bool]),(.exit 0,⟨21,.any::.fn 100 [(3,0),(2,0)]::aN 7 [.con ak,.con tI],[bJ,bC,bH,b9]⟩,[])]
def vH (ρ:Type):õ ρ:=⟨[21,2],99,0,vI,fun(p:Val (tyL vI.cs)) (v:Int) b a=>let A:=p.2.2.2.2;let B:=A.2.2.2.2;jK p.1 p.2.1 p.2.2.1 p.2.2.2.1 A.1 A.2.1 A.2.2.1 A.2.2.2.1 B.1 B.2.1 B.2.2.1 B.2.2.2 v (fun c=>b c) (a 0) (a 1)⟩
def vE:Ç:=Ls 4 [ab,ab,ab,tI,ab,ab,tI,tI,ae,aa,af,ac,aa,aj] [tI] ⟨36,.con ab::.con ab::aN 7 [.con ab,.con tI,.var tI],cP⟩ [(.ret,⟨36,.con ab::.con ab::aN 2 (.var tI::aN 4 [.con ab,.con tI]),cP⟩,[tI]),(.exit 0,⟨36,.con ab::.con ab::aN 7 [.con ab,.con tI],cP⟩,[])]
def vD (ρ:Type):õ ρ:=⟨[29,14],101,0,vE,fun(p:Val (tyL vE.cs)) (v:Int) b a=>ŵ p.2.1 p.2.2.1 p.2.2.2.1 v (fun c=>b c) (a 0) (a 1)⟩
def vC:Ç:=Ls 0 [ak,ab,tI,tI,ab,tI,tI,tI,ab,ab,tI,tI,ae,aa,af,ac,aa,aj] [tI] ⟨135,aN 3 (.box 0 0::aN 6 (.con ak::.any::.box 1 0::.own 2::aN 2 (.con ab::.con tI::.con tI::.con ab::aN 57 (.con tI::.con tI::aN 23 [.own 2,.con tI,.var tI])))),cP⟩ [(.exit 5,⟨135,aN 3 (.box 0 0::aN 6 (.con ak::.any::.box 1 0::.own 2::aN 2 (.con ab::.con tI::.con tI::.con ab::aN 57 (.con tI::.con tI::aN 23 [.own 2,.con tI])))),cP⟩,[]),(.exit 6,⟨135,aN 3 (.box 0 0::aN 6 (.con ak::.any::.box 1 0::.own 2::aN 2 (.con ab::.con tI::.con tI::.con ab::aN 57 (.con tI::.con tI::aN 23 [.own 2,.con tI])))),cP⟩,[])]
def vB (ρ:Type):õ ρ:=⟨[],30,6,vC,fun(p:Val (tyL vC.cs)) (v:Int) b a=>ř p.2.2.2.1 p.2.2.2.2.2.2.2.1 p.2.2.2.2.2.2.2.2.2.1 v (fun c=>b c) (a 0) (a 1)⟩
def vA:Ç:=Ls 0 [ak,ab,tI,tI,ab,tI,tI,ak,tI,ab,tI,tI,ae,aa,af,ac,aa,aj] [tI,ab] ⟨135,aN 3 (.box 0 0::aN 6 (.con ak::.any::.box 1 0::.own 2::aN 2 (.con ab::.con tI::.con tI::.con ab::aN 57 (.con tI::.con tI::aN 34 [.con ak,.con tI,.var tI])))),cQ⟩ [(.exit 5,⟨135,aN 3 (.box 0 0::aN 6 (.con ak::.any::.box 1 0::.own 2::aN 2 (.con ab::.con tI::.con tI::.con ab::aN 57 (.con tI::.con tI::aN 34 [.con ak,.con tI])))),cQ⟩,[ab]),(.exit 8,⟨135,aN 3 (.box 0 0::aN 6 (.con ak::.any::.box 1 0::.own 2::aN 2 (.con ab::.con tI::.con tI::.con ab::aN 57 (.con tI::.con tI::aN 34 [.con ak,.con tI])))),cQ⟩,[ab])]
def vz (ρ:Type):õ ρ:=⟨[],30,8,vA,fun(p:Val (tyL vA.cs)) (v:f4) b a=>let A:=p.2.2.2.2.2.2.2;let B:=A.2.2.2.2;let C:=B.2.2.2.2;Ř p.2.2.2.1 A.1 A.2.1 A.2.2.1 A.2.2.2.1 B.1 B.2.1 B.2.2.1 B.2.2.2.1 C.1 C.2.1 C.2.2 v.1 v.2 (fun c d=>b (c,d)) (a 0) (a 1)⟩
def vG:Ç:=Ls 0 [ak,tI,ab,tI,tI,ae,aa,af,ac,aa,aj] [ab,tI,tI,ab] ⟨135,aN 3 (.box 0 0::aN 6 (.con ak::.any::.box 1 0::.own 2::aN 2 (.var ab::.var tI::aN 59 [.con tI,.var tI]))),cQ⟩ [(.exit 4,⟨135,aN 3 (.box 0 0::aN 6 (.con ak::.any::.box 1 0::.own 2::aN 3 (.var tI::aN 59 [.con tI]))),cQ⟩,[tI,ab])]
def vF (ρ:Type):õ ρ:=⟨[],30,4,vG,fun(p:Val (tyL vG.cs)) (v:Val (.pair ab bg)) a b=>let A:=p.2.2.2.2;let B:=A.2.2.2.2;Ŷ p.1 p.2.1 p.2.2.1 p.2.2.2.1 A.1 A.2.1 A.2.2.1 A.2.2.2.1 B.1 B.2.1 B.2.2 v.1 v.2.1 v.2.2.1 v.2.2.2 (fun c d e f=>a (c,d,e,f)) (b 0)⟩
def Ľ (ρ:Type):Env ρ:=Ú [(79,oC),(80,jI),(87,Wh),(96,BT),(98,UA),(180,nA)] [vK ρ,vM ρ,vJ ρ,vH ρ,vD ρ,vB ρ,vz ρ,vF ρ]
def aes:ă:=⟨[Â],[ak,tI],fun(x:a8)=>Nw x⟩
def U0 (ρ:Type):Env ρ:=Ú [(80,jI),(96,BT)] []
def aai:ă:=⟨[È,Ã],[tI,tI],fun(x:nm)=>si x.1 x.2⟩
def QT (ρ:Type):Env ρ:=Ú [(72,vt),(135,Ű),(136,Gs)] []
def aeG:ă:=⟨[È,Ã],[È,tI],fun(x:nm)=>NE x.1 x.2⟩
def Ii:Ç:=Ls 6 [tI,tI,tI,ae,aa,af,ac,aa,tI,tI,tI,tI,tI,tI,ae,aa,af,ac,aa,tI,tI,tI,tI,ac,tI,tI,ae,aa,af,aa] [tI,ac] ⟨50,.any::.box 6 0::.box 7 0::.own 8::aN 21 [.own 8,.con tI,.var tI],cR⟩ [(.exit 0,⟨50,.any::.box 6 0::.box 7 0::.own 8::aN 21 [.own 8,.con tI],cR⟩,[ac])]
def Ih (ρ:Type):õ ρ:=⟨[1,2,4,1],202,0,Ii,fun(p:Val (tyL Ii.cs)) (v:Val bc) a b=>yb p.1 v.1 v.2 (fun c d=>a (c,d)) (b 0)⟩
def KB (ρ:Type):Env ρ:=Ú [(72,vt)] [Ih ρ]
def aab:ă:=⟨[Ð,ab],[tI],fun(x:Val bv)=>IY x.1 x.2⟩
def TI:Ç:=Ls 0 [ab,tI,tI,am] [tI] ⟨37,aN 2 (.box 0 0::aN 16 [.con ab,.con tI,.var tI]),[bU]⟩ [(.ret,⟨37,aN 2 (.box 0 0::.any::.var tI::aN 14 [.con ab,.con tI]),[bU]⟩,[tI]),(.exit 0,⟨37,aN 2 (.box 0 0::aN 16 [.con ab,.con tI]),[bU]⟩,[])]
def D5 (ρ:Type):õ ρ:=⟨[],133,0,TI,fun(p:Val (.pair ab aT)) (v:Int) b a=>tY p.1 p.2.1 p.2.2.1 p.2.2.2 v (fun c=>b c) (a 0) (a 1)⟩
def Fz (ρ:Type):Env ρ:=Ú [(126,zA),(127,sP),(196,Wp)] [D5 ρ]
def UO:ă:=⟨[Ð,au,tI],[ab],fun(x:Val (.pair Ð (.pair au tI)))=>wD x.1 x.2.1 x.2.2⟩
def A5:Ç:=Ls 0 [au,tI,tI,tI,am] [tI,ab] ⟨29,.any::.con au::.con tI::.box 0 0::aN 3 (.own 1::aN 5 [.con tI,.var tI]),cS⟩ [(.exit 0,⟨29,.any::.con au::.con tI::.box 0 0::aN 3 (.own 1::aN 5 [.con tI]),cS⟩,[ab])]
def A4 (ρ:Type):õ ρ:=⟨[],134,0,A5,fun(p:Val (tyL A5.cs)) (v:f4) a b=>qp p.2.2.1 v.1 v.2 (fun c d=>a (c,d)) (b 0)⟩
def A3:Ç:=Ls 2 [au,am,tI,tI,am,ab,tI,am,ax,ab] [tI,tI] ⟨140,.any::.con au::.own 1::.box 2 0::aN 3 (.box 3 0::.own 4::.own 5::.var tI::aN 14 [.con am,.con tI,.var tI]),[bU,.rowc tI,bU,.cells [.nils],.rowc .bool,.rowc tI]⟩ [(.exit 0,⟨140,.any::.con au::.own 1::.box 2 0::aN 3 (.box 3 0::.own 4::.own 5::.var tI::aN 14 [.con am,.con tI]),[bU,.rowc tI,bU,.cells [.nils],.rowc .bool,.rowc tI]⟩,[tI])]
def A2 (ρ:Type):õ ρ:=⟨[8,3],197,0,A3,fun(p:Val (tyL A3.cs)) (v:bl) a b=>xJ p.2.1 p.2.2.1 v.1 v.2 (fun c d=>a (c,d)) (b 0)⟩
def A0:Ç:=Ls 2 [au,tI,tI,tI,am,ab,tI,am,ab] [tI,ax,ab] ⟨140,.any::.con au::.own 1::.box 2 0::aN 3 (.box 3 0::.own 4::.own 5::.con tI::aN 27 [.con tI,.var tI]),cF⟩ [(.exit 2,⟨140,.any::.con au::.own 1::.box 2 0::aN 3 (.box 3 0::.own 4::.own 5::.con tI::aN 27 [.con tI]),cF⟩,[ax,ab])]
def AZ (ρ:Type):õ ρ:=⟨[8,3],197,2,A0,fun(p:Val (tyL A0.cs)) (v:y8) a b=>xI p.2.2.1 p.2.2.2.2.2.1 v.1 v.2.1 v.2.2 (fun c d e=>a (c,d,e)) (b 0)⟩
def AX:Ç:=Ls 2 [au,tI,tI,am,tI,tI,am,tI,am,ab] [tI,ab,ax,ab] ⟨140,.any::.con au::.own 1::.box 2 0::aN 3 (.box 3 0::.own 4::.own 5::.con tI::aN 3 (.con tI::aN 62 [.con am,.con tI,.var tI])),cG⟩ [(.ret,⟨140,.any::.con au::.own 1::.box 2 0::aN 2 (.var .bool::.box 3 0::.own 4::.own 5::.con tI::aN 3 (.con tI::aN 62 [.con am,.con tI])),cG⟩,[.bool,ab,ax,ab]),(.exit 6,⟨140,.any::.con au::.own 1::.box 2 0::aN 3 (.box 3 0::.own 4::.own 5::.con tI::aN 3 (.con tI::aN 62 [.con am,.con tI])),cG⟩,[ab,ax,ab])]
def AW (ρ:Type):õ ρ:=⟨[8,3],197,6,AX,fun(p:Val (tyL AX.cs)) (v:ni) b a=>HJ p.1 p.2.1 p.2.2.1 p.2.2.2.1 p.2.2.2.2.1 v.1 v.2.1 v.2.2.1 v.2.2.2 (fun c d e f=>b (c,d,e,f)) (a 0) (a 1)⟩
def Qj:Ç:=Ls 2 [au,tI,tI,am,tI,am] [ab,ax,ab,ab] ⟨140,[.any,.con au,.own 1,.box 2 0,.any,.any,.any,.box 3 0,.own 4,.own 5,.con tI],cH⟩ [(.ret,⟨140,[.any,.con au,.own 1,.box 2 0,.any,.any,.var .bool,.box 3 0,.own 4,.own 5,.con tI],cH⟩,[.bool,ab,ax,ab,ab])]
def AY (ρ:Type):õ ρ:=⟨[8,3],197,4,Qj,fun(p:Val (.pair au bB)) (v:Val bm) a b=>xH p.1 p.2.1 p.2.2.2.2.1 p.2.2.2.2.2 v.1 v.2.1 v.2.2.1 v.2.2.2 (fun c d e f=>a (c,d,e,f)) (b 0)⟩
def jS (ρ:Type):Env ρ:=Ú [] [A4 ρ,A2 ρ,AZ ρ,AW ρ,AY ρ]
def aac:ă:=⟨[Ð],[aa,tI],fun(x:ge)=>wE x⟩
def TK:Ç:=Ls 1 [ab,tI,tI,am,tI,am] [tI,ab] ⟨28,.any::.box 1 0::aN 2 (.con ab::.own 2::aN 7 [.con tI,.var tI]),[bU,bU,.rowv tI]⟩ [(.exit 0,⟨28,.any::.box 1 0::aN 2 (.con ab::.own 2::aN 7 [.con tI]),[bU,bU,.rowv tI]⟩,[ab])]
def D7 (ρ:Type):õ ρ:=⟨[4,1],237,0,TK,fun(p:Val (.pair ab bB)) (v:f4) a b=>t7 p.2.1 p.2.2.2.2.1 p.2.2.2.2.2 v.1 v.2 (fun c d=>a (c,d)) (b 0)⟩
def TJ:Ç:=Ls 0 [ab,tI,ab] [tI,aa] ⟨39,aN 5 (.con ab::.own 0::.own 1::aN 12 [.con tI,.var tI]),[.rowc tI,.rowv Ã]⟩ [(.exit 0,⟨39,aN 5 (.con ab::.own 0::.own 1::aN 12 [.con tI]),[.rowc tI,.rowv Ã]⟩,[aa])]
def D6 (ρ:Type):õ ρ:=⟨[],185,0,TJ,fun(p:Val bi) (v:nn) a b=>tZ p.1 p.2.1 p.2.2 v.1 v.2 (fun c d=>a (c,d)) (b 0)⟩
def xL (ρ:Type):Env ρ:=Ú [(133,aab),(134,UO)] [D7 ρ,D6 ρ]
def Uz:ă:=⟨[È,Ã],[Ã,tI],fun(x:nm)=>Ch x.1 x.2⟩
def Lw (ρ:Type):Env ρ:=Ú [(66,vr),(68,aai),(69,aeG),(185,aac)] []
def UB:ă:=⟨[Â,tI,tI],[am,tI],fun(x:wl)=>Ci x.1 x.2.1 x.2.2⟩
def Aj:Ç:=Ls 0 [tI,tI,ak,tI,tI,tI,ae,aa,af,ac,aa,aj] [tI,ba] ⟨113,.any::.con tI::.con tI::.box 0 0::aN 7 (.omp 1::aN 30 [.con ak,.con tI,.var tI]),[bJ,.mapv tI Ã]⟩ [(.ret,⟨113,.any::.con tI::.con tI::.box 0 0::aN 2 (.nils::.var tI::aN 3 (.omp 1::aN 30 [.con ak,.con tI])),[bJ,.mapv tI Ã]⟩,[tI,ba]),(.exit 0,⟨113,.any::.con tI::.con tI::.box 0 0::aN 7 (.omp 1::aN 30 [.con ak,.con tI]),[bJ,.mapv tI Ã]⟩,[ba])]
def Ai (ρ:Type):õ ρ:=⟨[],42,0,Aj,fun(p:Val (tyL Aj.cs)) (v:Val (.pair tI ba)) b a=>let A:=p.2.2.2.2;let B:=A.2.2.2.2;p9 p.1 p.2.1 p.2.2.1 p.2.2.2.1 A.1 A.2.1 A.2.2.1 A.2.2.2.1 B.1 B.2.1 B.2.2.1 B.2.2.2 v.1 v.2 (fun c d=>b (c,d)) (a 0) (a 1)⟩
def Ah:Ç:=Ls 0 [ae,tI,ba] [tI,am] ⟨113,aN 11 (.omp 0::aN 7 (.own 1::aN 70 [.con ae,.con tI,.var tI])),[.mapc tI Ã,.rowv ĝ]⟩ [(.exit 2,⟨113,aN 11 (.omp 0::aN 7 (.own 1::aN 70 [.con ae,.con tI])),[.mapc tI Ã,.rowv ĝ]⟩,[am])]
def Ag (ρ:Type):õ ρ:=⟨[],42,2,Ah,fun(p:Val (tyL Ah.cs)) (v:ge) a b=>p8 p.1 p.2.1 p.2.2 v.1 v.2 (fun c d=>a (c,d)) (b 0)⟩
def tB (ρ:Type):Env ρ:=Ú [(80,jI),(81,Wi),(88,Gg),(104,mq),(105,Og),(106,Uz)] [Ai ρ,Ag ρ]
def ZV:ă:=⟨[Â,ah],[.bool],fun(x:ly)=>IG x.1 x.2⟩
def kZ:Tpl:=⟨13,[.any,.any,.box 2 0],[.cells [.con tI,.con tI,.con ae,.con aa,.con af,.con ac,.con aa,.con aj],.dead,.cells [.own 3],.rowv tI]⟩
def oj (ρ:Type):Jl ρ:=⟨[7,8,1,1,1,1],298,0,3,[tI,tI,ae,aa,af,ac,aa,aj],[ab],kZ,Im,fun(p:ry) (v:an) y a=>zW v y (fun b=>a b)⟩
def SG:Ç:=Ls 0 [ah,tI,tI,tI,ae,aa,af,ac,aa,aj] [tI] ⟨42,aN 2 (.box 0 0::aN 11 [.con ah,.con tI,.var tI]),[bJ]⟩ [(.ret,⟨42,aN 2 (.box 0 0::.any::.var .bool::aN 9 [.con ah,.con tI]),[bJ]⟩,[.bool]),(.exit 0,⟨42,aN 2 (.box 0 0::aN 11 [.con ah,.con tI]),[bJ]⟩,[])]
def Dp (ρ:Type):õ ρ:=⟨[],154,0,SG,fun(p:qs) (v:Int) b a=>tj p.1 p.2.1 p.2.2.2.2.2.2.2.2.2 v (fun c=>b c) (a 0) (a 1)⟩
def Lx (ρ:Type):BY (Jl ρ):=[oj ρ]
def ε (ρ:Type):Env ρ:={Ú [(220,ZU)] [Dp ρ] with ranges:=Ν (Lx ρ)}
def Oh:ă:=⟨[Â,ah],[tI],fun(x:ly)=>Bn x.1 x.2⟩
def Pb (ρ:Type):Env ρ:=Ú [(80,jI),(154,ZV)] []
def ah8:ă:=⟨[Â,ah,tI,tI],[tI,tI],fun(x:Val aY)=>YB x.1 x.2.1 x.2.2.1 x.2.2.2⟩
def aaD (ρ:Type):Env ρ:=Ú [(78,Oh),(88,Gg),(105,Og)] []
def aaa:ă:=⟨[Ð,tI,tI],[ah],fun(x:Val (.pair Ð Ã))=>IX x.1 x.2.1 x.2.2⟩
def Vh:Ç:=Ls 0 [tI,tI,tI,tI,am] [tI,ab] ⟨45,.any::.con tI::.con tI::.box 0 0::aN 3 (.own 1::aN 7 [.con tI,.var tI]),cS⟩ [(.exit 0,⟨45,.any::.con tI::.con tI::.box 0 0::aN 3 (.own 1::aN 7 [.con tI]),cS⟩,[ab])]
def Vg (ρ:Type):õ ρ:=⟨[],128,0,Vh,fun(p:Val (tyL Vh.cs)) (v:f4) a b=>BZ p.2.2.1 v.1 v.2 (fun c d=>a (c,d)) (b 0)⟩
def Ve:Ç:=Ls 4 [ab,tI,ah,tI,am] [tI,ab] ⟨53,.con ab::.box 1 0::aN 2 (.own 4::aN 7 [.con tI,.var tI]),cT⟩ [(.exit 0,⟨53,.con ab::.box 1 0::aN 2 (.own 4::aN 7 [.con tI]),cT⟩,[ab])]
def Vd (ρ:Type):õ ρ:=⟨[12,8],198,0,Ve,fun(p:Val (tyL Ve.cs)) (v:f4) a b=>XK p.2.1 v.1 v.2 (fun c d=>a (c,d)) (b 0)⟩
def Vc:Ç:=Ls 4 [ab,am,tI,ah,tI,am] [tI,ab] ⟨53,.con ab::aN 3 (.own 4::aN 16 [.con am,.con tI,.var tI]),cT⟩ [(.exit 2,⟨53,.con ab::aN 3 (.own 4::aN 16 [.con am,.con tI]),cT⟩,[ab])]
def Vb (ρ:Type):õ ρ:=⟨[12,8],198,2,Vc,fun(p:Val (tyL Vc.cs)) (v:f4) a b=>HI p.1 p.2.1 p.2.2.1 v.1 v.2 (fun c d=>a (c,d)) (b 0)⟩
def age:Ç:=Ls 0 [tI,tI,am] [tI,ah] ⟨45,aN 9 (.own 0::.fn 198 [(1,0)]::aN 18 [.con tI,.var tI]),[.rowv ab,bU]⟩ [(.exit 2,⟨45,aN 9 (.own 0::.fn 198 [(1,0)]::aN 18 [.con tI]),[.rowv ab,bU]⟩,[ah])]
def Vf (ρ:Type):õ ρ:=⟨[],128,2,age,fun(p:Val aT) (v:pi) a b=>Nl p.1 p.2.1 p.2.2 v.1 v.2 (fun c d=>a (c,d)) (b 0)⟩
def Ko (ρ:Type):Env ρ:=Ú [] [Vg ρ,Vd ρ,Vb ρ,Vf ρ]
def aad:ă:=⟨[Ð],[ab,tI],fun(x:ge)=>pq x⟩
def TL:Ç:=Ls 0 [tI,tI,am] [tI,ak] ⟨93,.any::.box 0 0::aN 6 (.own 1::aN 24 [.con tI,.var tI]),[bU,.rowv ah]⟩ [(.exit 0,⟨93,.any::.box 0 0::aN 6 (.own 1::aN 24 [.con tI]),[bU,.rowv ah]⟩,[ak])]
def Eg (ρ:Type):õ ρ:=⟨[],64,0,TL,fun(p:Val aT) (v:io) a b=>pb p.1 p.2.1 p.2.2 v.1 v.2 (fun c d=>a (c,d)) (b 0)⟩
def D9:Ç:=Ls 3 [tI,ah,am,tI,tI,am,ak,tI,tI,tI,tI,am] [tI,tI,tI,ab] ⟨73,.any::.var tI::.con tI::.con ah::.fn 129 []::.box 3 0::aN 5 (.own 4::.var tI::aN 7 [.con am,.con tI,.var tI]),cV⟩ [(.exit 2,⟨73,.any::.var tI::.con tI::.con ah::.fn 129 []::.box 3 0::aN 5 (.own 4::.var tI::aN 7 [.con am,.con tI]),cV⟩,[tI,tI,ab])]
def D8 (ρ:Type):õ ρ:=⟨[22,10],130,2,D9,fun(p:Val (tyL D9.cs)) (v:AN) a b=>LJ p.1 p.2.1 p.2.2.1 p.2.2.2.1 v.1 v.2.1 v.2.2.1 v.2.2.2 (fun c d e f=>a (c,d,e,f)) (b 0)⟩
def Eb:Ç:=Ls 3 [ah,tI,am,ak,tI,tI,tI,tI,am] [tI,tI,tI,ab] ⟨73,.any::.var tI::.var tI::.con ah::.fn 129 []::.box 3 0::aN 5 [.own 4,.var tI],cV⟩ [(.exit 0,⟨73,aN 3 (.con ah::.fn 129 []::.box 3 0::aN 5 [.own 4]),cV⟩,[ab])]
def Ea (ρ:Type):õ ρ:=⟨[22,10],130,0,Eb,fun(p:Val (tyL Eb.cs)) (v:AN) a b=>A6 p.1 p.2.2.2.2.2.2.2.2 v.1 v.2.1 v.2.2.1 v.2.2.2 (fun c d e f=>a (c,d,e,f)) (b 0)⟩
def Ed:Ç:=Ls 0 [tI,am,tI,tI,am,ak] [tI] ⟨93,.any::.box 0 0::aN 6 (.own 1::.any::.fn 129 []::.con tI::aN 37 [.con am,.con tI,.var tI]),[bU,.rowc ah]⟩ [(.exit 2,⟨93,.any::.box 0 0::aN 6 (.own 1::.any::.fn 129 []::.con tI::aN 37 [.con am,.con tI]),[bU,.rowc ah]⟩,[]),(.ret,⟨93,.any::.box 0 0::.own 2::.var tI::aN 4 (.own 1::.any::.fn 129 []::.con tI::aN 37 [.con am,.con tI]),[bU,.rowc ah,.rowv tI]⟩,[tI,ab]),(.exit 4,⟨93,.any::.box 0 0::aN 6 (.own 1::.any::.fn 129 []::.con tI::aN 37 [.con am,.con tI]),[bU,.rowc ah]⟩,[])]
def Ec (ρ:Type):õ ρ:=⟨[],64,4,Ed,fun(p:Val (tyL Ed.cs)) (v:Int) b a=>o9 p.1 p.2.1 p.2.2.1 p.2.2.2.1 p.2.2.2.2.1 p.2.2.2.2.2 v (fun c=>b c) (a 0) (a 1) (a 2)⟩
def Ef:Ç:=Ls 0 [tI,am,ak] [tI] ⟨93,.any::.box 0 0::aN 6 [.own 1,.any,.fn 129 [],.var tI],[bU,.rowc ah]⟩ [(.exit 2,⟨93,.any::.box 0 0::aN 6 [.own 1,.any,.fn 129 []],[bU,.rowc ah]⟩,[]),(.ret,⟨93,.any::.box 0 0::.own 2::.var tI::aN 4 [.own 1,.any,.fn 129 []],[bU,.rowc ah,.rowv tI]⟩,[tI,ab])]
def Ee (ρ:Type):õ ρ:=⟨[],64,2,Ef,fun(p:Val (tyL Ef.cs)) (v:Int) b a=>t8 p.1 p.2.1 p.2.2 v (fun c=>b c) (a 0) (a 1)⟩
def lV (ρ:Type):Env ρ:=Ú [(126,zA),(127,sP),(128,aaa)] [Eg ρ,D8 ρ,Ea ρ,Ec ρ,Ee ρ]
def ZX:ă:=⟨[Â],[ah,tI],fun(x:a8)=>IJ x⟩
def SS:Ç:=Ls 0 [ak,tI,tI,tI,ae,aa,af,ac,aa,aj] [tI,ah] ⟨46,.any::.box 0 0::aN 3 (.own 1::aN 13 [.con ak,.con tI,.var tI]),[bJ,.rowv ab]⟩ [(.ret,⟨46,.any::.box 0 0::.nils::.var tI::.any::.own 1::aN 13 [.con ak,.con tI],[bJ,.rowv ab]⟩,[tI,ah]),(.exit 0,⟨46,.any::.box 0 0::aN 3 (.own 1::aN 13 [.con ak,.con tI]),[bJ,.rowv ab]⟩,[ah])]
def Dy (ρ:Type):õ ρ:=⟨[],59,0,SS,fun(p:Val (.pair ak aJ)) (v:pi) b a=>let A:=p.2.2.2.2;tz p.1 p.2.1 p.2.2.1 p.2.2.2.1 A.1 A.2.1 A.2.2.1 A.2.2.2.1 A.2.2.2.2.1 A.2.2.2.2.2 v.1 v.2 (fun c d=>b (c,d)) (a 0) (a 1)⟩
def E8 (ρ:Type):Env ρ:=Ú [(64,aad),(66,vr),(80,jI),(96,BT),(104,mq)] [Dy ρ]
def Oq:ă:=⟨[Ð,ab],[tI],fun(x:Val bv)=>yw x.1 x.2⟩
def MQ:Ç:=Ls 1 [ab,tI,tI,am] [tI] ⟨19,.con ab::.fn 238 [(0,0)]::aN 5 [.con tI,.var tI],[bU]⟩ [(.ret,⟨19,[.con ab,.fn 238 [(0,0)],.any,.any,.var tI,.any,.any,.con tI],[bU]⟩,[tI]),(.exit 0,⟨19,.con ab::.fn 238 [(0,0)]::aN 5 [.con tI],[bU]⟩,[])]
def yO (ρ:Type):õ ρ:=⟨[3,2,1,2],260,0,MQ,fun(p:Val (.pair ab aT)) (v:Int) b a=>oq p.1 p.2.1 p.2.2.2 v (fun c=>b c) (a 0) (a 1)⟩
def xG (ρ:Type):Env ρ:=Ú [] [yO ρ]
def aeB:ă:=⟨[Ð,tI,ab],[tI,tI,.bool],fun(x:Val (.pair Ð Ě))=>NB x.1 x.2.1 x.2.2⟩
def XH:Ç:=Ls 0 [ab,tI,tI,am] [tI,tI,tI] ⟨37,.any::.var tI::.any::.box 0 0::aN 5 [.var tI,.any,.any,.any,.con ab,.con tI,.var tI],[bU]⟩ [(.ret,⟨37,aN 3 (.box 0 0::aN 2 (.var tI::.var tI::.var .bool::aN 4 [.con ab,.con tI])),[bU]⟩,[tI,tI,.bool]),(.exit 0,⟨37,.any::.var tI::.any::.box 0 0::aN 5 [.var tI,.any,.any,.any,.con ab,.con tI],[bU]⟩,[tI,tI])]
def HC (ρ:Type):õ ρ:=⟨[],189,0,XH,fun(p:Val (.pair ab aT)) (v:rm) b a=>xF p.1 p.2.1 p.2.2.2 v.1 v.2.1 v.2.2 (fun c d e=>b (c,d,e)) (a 0) (a 1)⟩
def Kk (ρ:Type):Env ρ:=Ú [] [HC ρ]
def Di:ă:=⟨[Ð,ab],[tI],fun(x:Val bv)=>ox x.1 x.2⟩
def yQ (ρ:Type):Env ρ:=Ú [(126,zA),(188,Oq),(189,aeB)] []
def Df:ă:=⟨[Â,ah],[tI],fun(x:ly)=>lh x.1 x.2⟩
def rk:Ç:=Ls 0 [ah,ak,tI,tI,tI,ae,aa,af,ac,aa,aj] [tI] ⟨47,.any::.con ah::.box 0 0::aN 21 [.con ak,.con tI,.var tI],[bJ]⟩ [(.ret,⟨47,.any::.con ah::.box 0 0::.any::.var tI::aN 19 [.con ak,.con tI],[bJ]⟩,[tI]),(.exit 0,⟨47,.any::.con ah::.box 0 0::aN 21 [.con ak,.con tI],[bJ]⟩,[])]
def rj (ρ:Type):õ ρ:=⟨[],60,0,rk,fun(p:Val (tyL rk.cs)) (v:Int) b a=>let A:=p.2.2.2.2;let B:=A.2.2.2.2;ke p.1 p.2.1 p.2.2.1 p.2.2.2.1 A.1 A.2.1 A.2.2.1 A.2.2.2.1 B.1 B.2.1 B.2.2 v (fun c=>b c) (a 0) (a 1)⟩
def pz (ρ:Type):Env ρ:=Ú [(66,vr),(80,jI),(96,BT),(104,mq),(122,Di)] [rj ρ]
def Ll:ă:=⟨[ac],[Â],fun(x:c7)=>Ŭ x⟩
def Dl (ρ:Type):Env ρ:=Ú [] []
def Oe:ă:=⟨[],[.bool],fun(_:Unit)=>ι⟩
def GD (ρ:Type):Env ρ:=Ú [(19,acA),(20,Oi),(26,sO),(28,Gi),(29,aet),(30,Lm),(35,wZ),(40,aes),(42,UB),(49,ah8),(59,ZX),(60,Df),(77,Ll)] []
def Ln:ă:=⟨[Â,ah],[.bool,tI],fun(x:ly)=>uA x.1 x.2⟩
def Dz (ρ:Type):Env ρ:=Ú [(78,Oh),(79,oC)] []
def EF:ă:=⟨[tI,tI,tI],[.bool],fun(x:rm)=>kX x.1 x.2.1 x.2.2⟩
def aaN (ρ:Type):Env ρ:=Ú [] []
def Gn:ă:=⟨[tI],[.bool],fun(x:Int)=>yu x⟩
def U4 (ρ:Type):Env ρ:=Ú [(109,EF)] []
def aew:ă:=⟨[ab,tI],[.bool],fun(x:lA)=>Nz x.1 x.2⟩
def Xt:Ç:=Ls 0 [ab,tI] [tI] ⟨18,[.con ab,.con tI,.any,.any,.any,.var tI],[]⟩ [(.ret,⟨18,[.con ab,.con tI,.any,.any,.var .bool],[]⟩,[.bool]),(.exit 0,⟨18,[.con ab,.con tI],[]⟩,[])]
def Hy (ρ:Type):õ ρ:=⟨[],181,0,Xt,fun(p:lA) (v:Int) b a=>xD p.1 p.2 v (fun c=>b c) (a 0) (a 1)⟩
def Kc (ρ:Type):Env ρ:=Ú [] [Hy ρ]
def On:ă:=⟨[ab,ab],[ab],fun(x:u6)=>lm x.1 x.2⟩
def Tv:Ç:=Ls 0 [ab,ab] [tI,ab] ⟨28,[.con ab,.con ab,.any,.any,.any,.own 0,.var tI],cq⟩ [(.exit 0,⟨28,[.con ab,.con ab,.any,.any,.any,.own 0],cq⟩,[ab])]
def D3 (ρ:Type):õ ρ:=⟨[],102,0,Tv,fun(p:u6) (v:f4) a b=>tW p.1 p.2 v.1 v.2 (fun c d=>a (c,d)) (b 0)⟩
def Fu (ρ:Type):Env ρ:=Ú [(181,aew)] [D3 ρ]
def Nh:ă:=⟨[ab,ab],[tI],fun(x:u6)=>qv x.1 x.2⟩
def U3 (ρ:Type):Env ρ:=Ú [(102,On)] []
def Z1:ă:=⟨[È,Ö,tI],[.bool],fun(x:Val (.pair È (.pair Ö tI)))=>IP x.1 x.2.1 x.2.2⟩
def Tl:Ç:=Ls 0 [tI,tI,tI,ae,aa,af,ac,aa,tI,tI,tI,tI,tI,tI,tI,tI] [tI] ⟨76,[.any,.any,.con tI,.box 0 0,.box 1 0,.any,.any,.var tI],[bD,bE]⟩ [(.ret,⟨76,[.any,.any,.con tI,.box 0 0,.box 1 0,.any,.var .bool],[bD,bE]⟩,[.bool]),(.exit 0,⟨76,[.any,.any,.con tI,.box 0 0,.box 1 0],[bD,bE]⟩,[])]
def DR (ρ:Type):õ ρ:=⟨[],191,0,Tl,fun(p:Val ar) (v:Int) b a=>tQ p.1 p.2.2.2.2.2.2.1 p.2.2.2.2.2.2.2.2.1 v (fun c=>b c) (a 0) (a 1)⟩
def Tk:Ç:=Ls 0 [tI,tI,tI,ae,aa,af,ac,aa,tI,tI,tI,tI,tI,tI,tI,tI] [tI] ⟨76,aN 2 (.con tI::.box 0 0::.box 1 0::aN 4 [.var tI]),[bD,bE]⟩ [(.ret,⟨76,[.any,.any,.con tI,.box 0 0,.box 1 0,.any,.var .bool],[bD,bE]⟩,[.bool]),(.exit 2,⟨76,[.any,.any,.con tI,.box 0 0,.box 1 0],[bD,bE]⟩,[])]
def DQ (ρ:Type):õ ρ:=⟨[],191,2,Tk,fun(p:Val ar) (v:Int) b a=>oY p.1 p.2.2.2.2.2.2.2.1 p.2.2.2.2.2.2.2.2.1 v (fun c=>b c) (a 0) (a 1)⟩
def xy (ρ:Type):Env ρ:=Ú [(194,Nh)] [DR ρ,DQ ρ]
def vm:ă:=⟨[È],[aa],fun(x:b6)=>kE x⟩
def PV:Ç:=Ls 0 [tI,tI,ae,aa,af,ac,aa] [tI,ab] ⟨114,[.any,.box 0 0,.any,.own 1,.var tI],cW⟩ [(.exit 0,⟨114,[.any,.box 0 0,.any,.own 1],cW⟩,[ab])]
def AJ (ρ:Type):õ ρ:=⟨[],124,0,PV,fun(p:Val ao) (v:f4) a b=>ql p.2.2.1 v.1 v.2 (fun c d=>a (c,d)) (b 0)⟩
def PU:Ç:=Ls 0 [tI,tI,ae,aa,af,ac,aa] [tI,ab] ⟨114,[.any,.box 0 0,.any,.own 1,.any,.var tI],cW⟩ [(.exit 2,⟨114,[.any,.box 0 0,.any,.own 1],cW⟩,[ab])]
def AI (ρ:Type):õ ρ:=⟨[],124,2,PU,fun(p:Val ao) (v:f4) a b=>qk p.2.2.2.2.2.1 v.1 v.2 (fun c d=>a (c,d)) (b 0)⟩
def PT:Ç:=Ls 0 [tI,tI,ae,aa,af,ac,aa] [tI,ab] ⟨114,[.any,.box 0 0,.any,.own 1,.any,.any,.var tI],cW⟩ [(.exit 4,⟨114,[.any,.box 0 0,.any,.own 1],cW⟩,[ab])]
def AH (ρ:Type):õ ρ:=⟨[],124,4,PT,fun(p:Val ao) (v:f4) a b=>qj p.2.2.2.2.2.2 v.1 v.2 (fun c d=>a (c,d)) (b 0)⟩
def AC:Ç:=Ls 0 [tI,tI,tI,tI,ae,aa,af,ac,aa,ab,aa] [tI,tI] ⟨114,[.any,.box 0 0,.any,.own 1,.any,.any,.any,.own 2,.con tI,.con tI,.var tI,.var tI],[bD,.rowc tI,.rowc Ã]⟩ [(.exit 10,⟨114,[.any,.box 0 0,.any,.own 1,.any,.any,.any,.own 2,.con tI,.con tI,.var tI],[bD,.rowc tI,.rowc Ã]⟩,[tI])]
def AB (ρ:Type):õ ρ:=⟨[],124,10,AC,fun(p:Val (tyL AC.cs)) (v:bl) a b=>mN p.2.1 p.2.2.2.2.2.2.2.2.2.1 v.1 v.2 (fun c d=>a (c,d)) (b 0)⟩
def AE:Ç:=Ls 0 [tI,tI,tI,ae,aa,af,ac,aa,ab] [tI,aa] ⟨114,[.any,.box 0 0,.any,.own 1,.any,.any,.any,.own 2,.con tI,.var tI],cX⟩ [(.exit 8,⟨114,[.any,.box 0 0,.any,.own 1,.any,.any,.any,.own 2,.con tI],cX⟩,[aa])]
def AD (ρ:Type):õ ρ:=⟨[],124,8,AE,fun(p:Val (tyL AE.cs)) (v:nn) a b=>let A:=p.2.2.2.2;mO p.1 p.2.1 p.2.2.1 p.2.2.2.1 A.1 A.2.1 A.2.2.1 A.2.2.2.1 A.2.2.2.2 v.1 v.2 (fun c d=>a (c,d)) (b 0)⟩
def AG:Ç:=Ls 0 [tI,tI,ae,aa,af,ac,aa,ab] [tI,aa] ⟨114,[.any,.box 0 0,.any,.own 1,.any,.any,.any,.own 2,.var tI],cX⟩ [(.exit 6,⟨114,[.any,.box 0 0,.any,.own 1,.any,.any,.any,.own 2],cX⟩,[aa])]
def AF (ρ:Type):õ ρ:=⟨[],124,6,AG,fun(p:Val (tyL AG.cs)) (v:nn) a b=>let A:=p.2.2.2.2;qi p.1 p.2.1 p.2.2.1 p.2.2.2.1 A.1 A.2.1 A.2.2.1 A.2.2.2 v.1 v.2 (fun c d=>a (c,d)) (b 0)⟩
def iW (ρ:Type):Env ρ:=Ú [(191,Z1)] [AJ ρ,AI ρ,AH ρ,AB ρ,AD ρ,AF ρ]
def UI:ă:=⟨[È,Ã],[tI],fun(x:nm)=>kF x.1 x.2⟩
def P2:Ç:=Ls 0 [aa,tI,tI] [tI] ⟨23,[.any,.any,.any,.box 0 0,.any,.con aa,.var tI],[bM]⟩ [(.ret,⟨23,[.any,.any,.any,.box 0 0,.var tI,.con aa],[bM]⟩,[tI]),(.exit 0,⟨23,[.any,.any,.any,.box 0 0,.any,.con aa],[bM]⟩,[])]
def AK (ρ:Type):õ ρ:=⟨[],111,0,P2,fun(p:Val (.pair aa Ã)) (v:Int) b a=>qm p.1 p.2.1 p.2.2 v (fun c=>b c) (a 0) (a 1)⟩
def AM (ρ:Type):Env ρ:=Ú [(124,vm)] [AK ρ]
def vn:ă:=⟨[È,tI],[tI],fun(x:Val bp)=>ln x.1 x.2⟩
def Tz:Ç:=Ls 0 [tI,tI,tI,ae,aa,af,ac,aa] [tI] ⟨22,[.any,.con tI,.box 0 0,.any,.any,.var tI],[bD]⟩ [(.ret,⟨22,[.any,.con tI,.box 0 0,.any,.var tI],[bD]⟩,[tI]),(.exit 0,⟨22,[.any,.con tI,.box 0 0],[bD]⟩,[])]
def D4 (ρ:Type):õ ρ:=⟨[],33,0,Tz,fun(p:Val (.pair tI ao)) (v:Int) b a=>tX p.1 p.2.2.2.1 v (fun c=>b c) (a 0) (a 1)⟩
def Fw (ρ:Type):Env ρ:=Ú [] [D4 ρ]
def Gm:ă:=⟨[È,tI,tI],[ω,.bool],fun(x:nm)=>jX x.1 x.2.1 x.2.2⟩
def D2:Ç:=Ls 0 [tI,tI,tI,tI,ae,aa,af,ac,aa] [tI,tI,tI,tI,tI] ⟨42,[.any,.con tI,.con tI,.box 0 0,.any,.any,.box 1 0,.any,.var tI],[bD,cf]⟩ [(.ret,⟨42,[.any,.con tI,.con tI,.box 0 0,.any,.any,.box 1 0,.var .bool],[bD,cf]⟩,[.bool,tI,tI,tI,tI]),(.exit 0,⟨42,[.any,.con tI,.con tI,.box 0 0,.any,.any,.box 1 0],[bD,cf]⟩,[tI,tI,tI,tI])]
def D0 (ρ:Type):õ ρ:=⟨[],85,0,D2,fun(p:Val (tyL D2.cs)) (v:Val bw) b a=>tV p.1 p.2.1 p.2.2.2.2.2.2.1 v.1 v.2.1 v.2.2.1 v.2.2.2.1 v.2.2.2.2 (fun c d e f g=>b (c,d,e,f,g)) (a 0) (a 1)⟩
def Ft (ρ:Type):Env ρ:=Ú [] [D0 ρ]
def Z2:ă:=⟨[È,tI,tI],[.bool],fun(x:nm)=>IQ x.1 x.2.1 x.2.2⟩
def DT:Ç:=Ls 0 [tI,tI,tI,tI,ae,aa,af,ac,aa] [tI] ⟨33,[.any,.con tI,.con tI,.box 0 0,.any,.any,.any,.var tI],[bD]⟩ [(.ret,⟨33,[.any,.con tI,.con tI,.box 0 0,.any,.any,.var .bool],[bD]⟩,[.bool]),(.exit 0,⟨33,[.any,.con tI,.con tI,.box 0 0],[bD]⟩,[])]
def DS (ρ:Type):õ ρ:=⟨[],239,0,DT,fun(p:Val (tyL DT.cs)) (v:Int) b a=>tR p.1 p.2.1 p.2.2.2.2.2.1 v (fun c=>b c) (a 0) (a 1)⟩
def Fm (ρ:Type):Env ρ:=Ú [] [DS ρ]
def Z6:ă:=⟨[È,tI,tI,tI],[tI],fun(x:Val (.pair È ĝ))=>wC x.1 x.2.1 x.2.2.1 x.2.2.2⟩
def DZ:Ç:=Ls 0 [tI,tI,tI,tI,tI,ae,aa,af,ac,aa] [tI,tI] ⟨48,.any::.con tI::.any::.con tI::.box 0 0::aN 4 [.con tI,.var tI,.var tI],[bD]⟩ [(.exit 0,⟨48,.any::.con tI::.any::.con tI::.box 0 0::aN 4 [.con tI,.var tI],[bD]⟩,[tI])]
def DY (ρ:Type):õ ρ:=⟨[],192,0,DZ,fun(p:Val (tyL DZ.cs)) (v:bl) a b=>let A:=p.2.2.2.2;tU p.1 p.2.1 p.2.2.1 p.2.2.2.1 A.1 A.2.1 A.2.2.1 A.2.2.2.1 A.2.2.2.2.1 A.2.2.2.2.2 v.1 v.2 (fun c d=>a (c,d)) (b 0)⟩
def Fs (ρ:Type):Env ρ:=Ú [(33,vn),(85,Gm),(239,Z2)] [DY ρ]
def Wn:ă:=⟨[tI,tI],[tI],fun(x:bl)=>Cs x.1 x.2⟩
def XC:Ç:=Ls 0 [] [tI,tI] ⟨14,[.var tI,.var tI],[]⟩ [(.exit 0,⟨14,[.var tI],[]⟩,[tI])]
def HB (ρ:Type):õ ρ:=⟨[],270,0,XC,fun(p:Unit) (v:bl) a b=>xE v.1 v.2 (fun c d=>a (c,d)) (b 0)⟩
def Ki (ρ:Type):Env ρ:=Ú [] [HB ρ]
def Wo:ă:=⟨[tI],[tI],fun(x:Int)=>IW x⟩
def U9 (ρ:Type):Env ρ:=Ú [] []
def EG:ă:=⟨[tI,tI],[Α],fun(x:bl)=>se x.1 x.2⟩
def HA (ρ:Type):Env ρ:=Ú [(270,Wn),(271,Wo)] []
def aeA:ă:=⟨[Ã,Ã],[Α],fun(x:hO)=>YD x.1 x.2⟩
def U8 (ρ:Type):Env ρ:=Ú [(319,EG)] []
def aey:ă:=⟨[Ã],[Ã],fun(x:bl)=>YC x⟩
def U6 (ρ:Type):Env ρ:=Ú [] []
def aex:ă:=⟨[Ã,Ã],[Α],fun(x:hO)=>NA x.1 x.2⟩
def U5 (ρ:Type):Env ρ:=Ú [(306,aeA),(307,aey)] []
def UG:ă:=⟨[È,tI],[Ã],fun(x:Val bp)=>wA x.1 x.2⟩
def LA (ρ:Type):Env ρ:=Ú [(33,vn)] []
def Z8:ă:=⟨[Α,Α],[vc],fun(x:Val (.pair Α Α))=>IU x.1 x.2⟩
def Qd (ρ:Type):Env ρ:=Ú [] []
def aez:ă:=⟨[Ã,Ã],[Α],fun(x:hO)=>yv x.1 x.2⟩
def U7 (ρ:Type):Env ρ:=Ú [(319,EG)] []
def UM:ă:=⟨[ç,Ã],[vc],fun(x:xa)=>Cr x.1 x.2⟩
def LG (ρ:Type):Env ρ:=Ú [(308,Z8),(309,aez)] []
def Oo:ă:=⟨[È,Ô],[ç],fun(x:rn)=>yr x.1 x.2⟩
def Hz (ρ:Type):Env ρ:=Ú [(194,Nh),(286,aex),(287,UG),(288,UM)] []
def UJ:ă:=⟨[È,Ô],[Ã],fun(x:rn)=>Co x.1 x.2⟩
def LD (ρ:Type):Env ρ:=Ú [] []
def ah9:ă:=⟨[tI,tI],[tI],fun(x:bl)=>ado x.1 x.2⟩
def aaQ (ρ:Type):Env ρ:=Ú [] []
def Z9:ă:=⟨[Ã],[tI],fun(x:bl)=>IV x⟩
def Qf (ρ:Type):Env ρ:=Ú [(289,ah9)] []
def Z7:ă:=⟨[tI,tI],[tI],fun(x:bl)=>Ru x.1 x.2⟩
def Qb (ρ:Type):Env ρ:=Ú [] []
def UN:ă:=⟨[Ã],[tI],fun(x:bl)=>Ct x⟩
def LH (ρ:Type):Env ρ:=Ú [(290,Z7)] []
def Z3:ă:=⟨[È,Ô],[Ã],fun(x:rn)=>wB x.1 x.2⟩
def PM (ρ:Type):Env ρ:=Ú [(240,Oo),(241,UJ),(242,Z9),(243,UN)] []
def Wm:ă:=⟨[È],[yH],fun(x:b6)=>yp x⟩
def Xk:Ç:=Ls 0 [aa,tI,tI,tI,ae,aa,af,ac,aa,tI,tI,tI,tI,tI,tI,tI,tI] [tI,am,aa] ⟨182,[.any,.box 0 0,.box 1 0,.box 2 0,.con aa,.con tI,.box 3 0,.var tI],[bD,cg,.cells [.own 4,.own 5],bE,.rowv ĝ,.rowv Ã]⟩ [(.exit 2,⟨182,[.any,.box 0 0,.box 1 0,.box 2 0,.con aa,.con tI,.box 3 0],[bD,cg,.cells [.own 4,.own 5],bE,.rowv ĝ,.rowv Ã]⟩,[am,aa])]
def Hu (ρ:Type):õ ρ:=⟨[],131,2,Xk,fun(p:Val (.pair aa ar)) (v:v6) a b=>let A:=p.2.2.2.2;let B:=A.2.2.2.2;rN p.1 p.2.1 p.2.2.1 p.2.2.2.1 A.1 A.2.1 A.2.2.1 A.2.2.2.1 B.1 B.2.1 B.2.2.1 B.2.2.2.1 B.2.2.2.2.1 B.2.2.2.2.2.1 v.1 v.2.1 v.2.2 (fun c d e=>a (c,d,e)) (b 0)⟩
def Xl:Ç:=Ls 0 [aa,tI,tI,ae,aa,af,ac,aa] [tI,am,aa] ⟨182,[.any,.box 0 0,.box 1 0,.box 2 0,.con aa,.var tI],cY⟩ [(.exit 0,⟨182,[.any,.box 0 0,.box 1 0,.box 2 0,.con aa],cY⟩,[am,aa])]
def Hv (ρ:Type):õ ρ:=⟨[],131,0,Xl,fun(p:Val (.pair aa ao)) (v:v6) a b=>let A:=p.2.2.2.2;xA p.1 p.2.1 p.2.2.1 p.2.2.2.1 A.1 A.2.1 A.2.2.1 A.2.2.2 v.1 v.2.1 v.2.2 (fun c d e=>a (c,d,e)) (b 0)⟩
def Xj:Ç:=Ls 0 [tI,tI,ae,aa,af,ac,aa] [tI,am,aa] ⟨182,.any::.box 0 0::.box 1 0::.box 2 0::aN 5 [.var tI],cY⟩ [(.exit 4,⟨182,[.any,.box 0 0,.box 1 0,.box 2 0],cY⟩,[am,aa])]
def Ht (ρ:Type):õ ρ:=⟨[],131,4,Xj,fun(p:Val ao) (v:v6) a b=>let A:=p.2.2.2.2;xz p.1 p.2.1 p.2.2.1 p.2.2.2.1 A.1 A.2.1 A.2.2 v.1 v.2.1 v.2.2 (fun c d e=>a (c,d,e)) (b 0)⟩
def vW (ρ:Type):Env ρ:=Ú [(111,UI),(124,vm),(192,Z6),(194,Nh),(199,Z3)] [Hu ρ,Hv ρ,Ht ρ]
def oD:ă:=⟨[Ã,tI,tI],[.bool],fun(x:hO)=>jW x.1 x.2.1 x.2.2⟩
def DP (ρ:Type):Env ρ:=Ú [] []
def UL:ă:=⟨[Ã],[.bool],fun(x:bl)=>Cq x⟩
def LF (ρ:Type):Env ρ:=Ú [(270,Wn),(271,Wo)] []
def UH:ă:=⟨[Ö],[.bool],fun(x:nj)=>Cn x⟩
def LB (ρ:Type):Env ρ:=Ú [(45,Gn),(109,EF),(160,oD),(227,UL)] []
def qI:ă:=⟨[È,tI,tI],[tI],fun(x:nm)=>jx x.1 x.2.1 x.2.2⟩
def LC (ρ:Type):Env ρ:=Ú [(33,vn)] []
def Z0:ă:=⟨[È],[tI],fun(x:b6)=>IM x⟩
def Tf:Ç:=Ls 0 [tI,tI,ae,aa,af,ac,aa] [tI] ⟨37,[.any,.box 0 0,.any,.var tI],[bD]⟩ [(.ret,⟨37,[.any,.box 0 0,.var tI],[bD]⟩,[tI]),(.exit 0,⟨37,[.any,.box 0 0],[bD]⟩,[])]
def DN (ρ:Type):õ ρ:=⟨[],162,0,Tf,fun(p:Val ao) (v:Int) b a=>let A:=p.2.2.2.2;tM p.1 p.2.1 p.2.2.1 p.2.2.2.1 A.1 A.2.1 A.2.2 v (fun c=>b c) (a 0) (a 1)⟩
def Fg (ρ:Type):Env ρ:=Ú [(45,Gn),(166,qI)] [DN ρ]
def UF:ă:=⟨[È],[tI],fun(x:b6)=>Cm x⟩
def PE:Ç:=Ls 0 [tI,tI,tI,ae,aa,af,ac,aa,tI,tI,tI,tI] [tI] ⟨111,[.any,.box 0 0,.any,.con tI,.box 1 0,.any,.var tI],cr⟩ [(.ret,⟨111,[.any,.box 0 0,.var tI,.con tI,.box 1 0],cr⟩,[tI]),(.exit 2,⟨111,[.any,.box 0 0,.any,.con tI,.box 1 0],cr⟩,[])]
def Az (ρ:Type):õ ρ:=⟨[],163,2,PE,fun(p:Val aI) (v:Int) b a=>let A:=p.2.2.2.2.2;qf p.1 A.1 A.2.2.2.1 A.2.2.2.2.1 A.2.2.2.2.2.1 v (fun c=>b c) (a 0) (a 1)⟩
def PD:Ç:=Ls 0 [tI,tI,tI,ae,aa,af,ac,aa,tI,tI,tI,tI] [tI] ⟨111,[.any,.box 0 0,.any,.con tI,.box 1 0,.any,.any,.var tI],cr⟩ [(.ret,⟨111,[.any,.box 0 0,.var tI,.con tI,.box 1 0],cr⟩,[tI]),(.exit 4,⟨111,[.any,.box 0 0,.any,.con tI,.box 1 0],cr⟩,[])]
def Ay (ρ:Type):õ ρ:=⟨[],163,4,PD,fun(p:Val aI) (v:Int) b a=>let A:=p.2.2.2.2;let B:=A.2.2.2.2;mM A.1 B.1 B.2.1 B.2.2.1 v (fun c=>b c) (a 0) (a 1)⟩
def PF:Ç:=Ls 0 [tI,tI,ae,aa,af,ac,aa] [tI] ⟨111,[.any,.box 0 0,.any,.var tI],[bD]⟩ [(.ret,⟨111,[.any,.box 0 0,.var tI],[bD]⟩,[tI]),(.exit 0,⟨111,[.any,.box 0 0],[bD]⟩,[])]
def AA (ρ:Type):õ ρ:=⟨[],163,0,PF,fun(p:Val ao) (v:Int) b a=>let A:=p.2.2.2.2;qg p.1 p.2.1 p.2.2.1 p.2.2.2.1 A.1 A.2.1 A.2.2 v (fun c=>b c) (a 0) (a 1)⟩
def oX (ρ:Type):Env ρ:=Ú [(109,EF),(160,oD),(166,qI)] [Az ρ,Ay ρ,AA ρ]
def Z4:ă:=⟨[ab],[.bool],fun(x:an)=>Bq x⟩
def Tr:Ç:=Ls 0 [ab] [tI] ⟨35,[.con ab,.any,.any,.var tI],[]⟩ [(.ret,⟨35,[.con ab,.any,.var .bool],[]⟩,[.bool]),(.exit 0,⟨35,[.con ab],[]⟩,[])]
def DU (ρ:Type):õ ρ:=⟨[],228,0,Tr,fun(p:an) (v:Int) b a=>tT p v (fun c=>b c) (a 0) (a 1)⟩
def Fq (ρ:Type):Env ρ:=Ú [(109,EF)] [DU ρ]
def UE:ă:=⟨[Ô],[.bool],fun(x:i4)=>Cl x⟩
def Lz (ρ:Type):Env ρ:=Ú [(45,Gn),(109,EF),(160,oD),(228,Z4)] []
def Gl:ă:=⟨[È,Ô],[tI],fun(x:rn)=>kB x.1 x.2⟩
def Hs:Ç:=Ls 0 [tI,tI,ae,aa,af,ac,aa,tI,tI,ab,ab,tI,tI,tI,tI,ab] [tI] ⟨90,[.any,.any,.box 0 0,.box 1 0,.any,.own 2,.var tI],cu⟩ [(.ret,⟨90,[.any,.any,.box 0 0,.box 1 0,.var tI,.own 2],cu⟩,[tI]),(.exit 0,⟨90,[.any,.any,.box 0 0,.box 1 0,.any,.own 2],cu⟩,[])]
def tP (ρ:Type):õ ρ:=⟨[],165,0,Hs,fun(p:Val aw) (v:Int) b a=>let A:=p.2.2.2.2;lL p.1 p.2.1 p.2.2.1 p.2.2.2.1 A.1 A.2.1 A.2.2.1 A.2.2.2.2.2.2.2.2.2.2.2 v (fun c=>b c) (a 0) (a 1)⟩
def Hr:Ç:=Ls 0 [tI,tI,ae,aa,af,ac,aa,tI,tI,ab,ab,tI,tI,tI,tI,ab] [tI] ⟨90,[.any,.any,.box 0 0,.box 1 0,.any,.own 2,.any,.var tI],cu⟩ [(.ret,⟨90,[.any,.any,.box 0 0,.box 1 0,.var tI,.own 2],cu⟩,[tI]),(.exit 2,⟨90,[.any,.any,.box 0 0,.box 1 0,.any,.own 2],cu⟩,[])]
def tO (ρ:Type):õ ρ:=⟨[],165,2,Hr,fun(p:Val aw) (v:Int) b a=>let A:=p.2.2.2.2;jm p.1 p.2.1 p.2.2.1 p.2.2.2.1 A.1 A.2.1 A.2.2.1 A.2.2.2.2.1 A.2.2.2.2.2.2.2.2.2.2.2 v (fun c=>b c) (a 0) (a 1)⟩
def Ho:Ç:=Ls 0 [tI,tI,ae,aa,af,ac,aa,tI,tI,ab,ab,tI,tI,tI,tI,ab] [tI] ⟨90,[.any,.any,.box 0 0,.box 1 0,.any,.own 2,.any,.any,.var tI],cu⟩ [(.ret,⟨90,[.any,.any,.box 0 0,.box 1 0,.var tI,.own 2],cu⟩,[tI]),(.exit 4,⟨90,[.any,.any,.box 0 0,.box 1 0,.any,.own 2],cu⟩,[])]
def tN (ρ:Type):õ ρ:=⟨[],165,4,Ho,fun(p:Val aw) (v:Int) b a=>let A:=p.2.2.2.2;Θ p.1 p.2.1 p.2.2.1 p.2.2.2.1 A.1 A.2.1 A.2.2.1 A.2.2.2.2.1 A.2.2.2.2.2.2.2.2.2.2.2 v (fun c=>b c) (a 0) (a 1)⟩
def jP (ρ:Type):Env ρ:=Ú [(33,vn),(85,Gm),(102,On),(166,qI)] [tP ρ,tO ρ,tN ρ]
def UK:ă:=⟨[È],[tI],fun(x:b6)=>Cp x⟩
def P9:Ç:=Ls 0 [tI,tI,ae,aa,af,ac,aa] [tI] ⟨170,[.any,.box 0 0,.any,.var tI],[bD]⟩ [(.ret,⟨170,[.any,.box 0 0,.var tI],[bD]⟩,[tI]),(.exit 0,⟨170,[.any,.box 0 0],[bD]⟩,[])]
def AR (ρ:Type):õ ρ:=⟨[],83,0,P9,fun(p:Val ao) (v:Int) b a=>qo p.2.2.1 v (fun c=>b c) (a 0) (a 1)⟩
def P7:Ç:=Ls 0 [tI,tI,tI,ae,aa,af,ac,aa] [tI] ⟨170,.any::.box 0 0::aN 4 [.con tI,.any,.var tI],[bD]⟩ [(.ret,⟨170,[.any,.box 0 0,.var tI,.any,.any,.any,.con tI],[bD]⟩,[tI]),(.exit 4,⟨170,.any::.box 0 0::aN 4 [.con tI],[bD]⟩,[])]
def AP (ρ:Type):õ ρ:=⟨[],83,4,P7,fun(p:Val (.pair tI ao)) (v:Int) b a=>qn p.1 p.2.2.2.2.2.2.1 v (fun c=>b c) (a 0) (a 1)⟩
def P8:Ç:=Ls 0 [tI,tI,ae,aa,af,ac,aa] [tI] ⟨170,.any::.box 0 0::aN 4 [.var tI],[bD]⟩ [(.ret,⟨170,[.any,.box 0 0,.var tI],[bD]⟩,[tI]),(.exit 2,⟨170,[.any,.box 0 0],[bD]⟩,[])]
def AQ (ρ:Type):õ ρ:=⟨[],83,2,P8,fun(p:Val ao) (v:Int) b a=>let A:=p.2.2.2.2;kr p.1 p.2.1 p.2.2.1 p.2.2.2.1 A.1 A.2.1 A.2.2 v (fun c=>b c) (a 0) (a 1)⟩
def P6:Ç:=Ls 0 [tI,tI,ae,aa,af,ac,aa] [tI] ⟨170,.any::.box 0 0::aN 7 [.var tI],[bD]⟩ [(.ret,⟨170,[.any,.box 0 0,.var tI],[bD]⟩,[tI]),(.exit 6,⟨170,[.any,.box 0 0],[bD]⟩,[])]
def AO (ρ:Type):õ ρ:=⟨[],83,6,P6,fun(p:Val ao) (v:Int) b a=>let A:=p.2.2.2.2;kq p.1 p.2.1 p.2.2.1 p.2.2.2.1 A.1 A.2.1 A.2.2 v (fun c=>b c) (a 0) (a 1)⟩
def md (ρ:Type):Env ρ:=Ú [(45,Gn),(124,vm),(131,Wm),(160,oD),(161,UH),(162,Z0),(163,UF),(164,UE),(165,Gl),(166,qI)] [AR ρ,AP ρ,AQ ρ,AO ρ]
def aeu:ă:=⟨[È,Ě],[tI],fun(x:xl)=>Ny x.1 x.2⟩
def W7:Ç:=Ls 0 [tI,tI,ae,aa,af,ac,aa,tI,ab] [tI] ⟨70,[.any,.any,.box 0 0,.box 1 0,.any,.var tI],cw⟩ [(.ret,⟨70,[.any,.any,.box 0 0,.box 1 0,.var tI],cw⟩,[tI]),(.exit 0,⟨70,[.any,.any,.box 0 0,.box 1 0],cw⟩,[])]
def Hg (ρ:Type):õ ρ:=⟨[],84,0,W7,fun(p:Val aH) (v:Int) b a=>xq p.2.2.2.2.2.2.2.2 v (fun c=>b c) (a 0) (a 1)⟩
def W6:Ç:=Ls 0 [tI,tI,ae,aa,af,ac,aa,tI,ab] [tI] ⟨70,[.any,.any,.box 0 0,.box 1 0,.any,.any,.var tI],cw⟩ [(.ret,⟨70,[.any,.any,.box 0 0,.box 1 0,.var tI],cw⟩,[tI]),(.exit 2,⟨70,[.any,.any,.box 0 0,.box 1 0],cw⟩,[])]
def Hf (ρ:Type):õ ρ:=⟨[],84,2,W6,fun(p:Val aH) (v:Int) b a=>let A:=p.2.2.2.2;Fc p.1 p.2.1 p.2.2.1 p.2.2.2.1 A.1 A.2.1 A.2.2.1 A.2.2.2.2 v (fun c=>b c) (a 0) (a 1)⟩
def W5:Ç:=Ls 0 [tI,tI,ae,aa,af,ac,aa,tI,ab] [tI] ⟨70,[.any,.any,.box 0 0,.box 1 0,.any,.any,.any,.var tI],cw⟩ [(.ret,⟨70,[.any,.any,.box 0 0,.box 1 0,.var tI],cw⟩,[tI]),(.exit 4,⟨70,[.any,.any,.box 0 0,.box 1 0],cw⟩,[])]
def He (ρ:Type):õ ρ:=⟨[],84,4,W5,fun(p:Val aH) (v:Int) b a=>let A:=p.2.2.2.2;E9 p.1 p.2.1 p.2.2.1 p.2.2.2.1 A.1 A.2.1 A.2.2.1 A.2.2.2.1 A.2.2.2.2 v (fun c=>b c) (a 0) (a 1)⟩
def vU (ρ:Type):Env ρ:=Ú [(33,vn),(109,EF),(166,qI)] [Hg ρ,Hf ρ,He ρ]
def UD:ă:=⟨[Â],[tI],fun(x:a8)=>Ck x⟩
def Au:Ç:=Ls 0 [tI,tI,tI,ae,aa,af,ac,aa,aj,tI,ab] [tI,tI] ⟨99,[.any,.box 0 0,.any,.any,.var tI,.con tI,.box 1 0,.var tI],[bJ,bK]⟩ [(.ret,⟨99,[.any,.box 0 0,.var tI,.any,.any,.con tI,.box 1 0],[bJ,bK]⟩,[tI]),(.exit 2,⟨99,[.any,.box 0 0,.any,.any,.var tI,.con tI,.box 1 0],[bJ,bK]⟩,[tI])]
def As (ρ:Type):õ ρ:=⟨[],21,2,Au,fun(p:Val (tyL Au.cs)) (v:bl) b a=>let A:=p.2.2.2.2;je p.2.1 p.2.2.1 p.2.2.2.1 A.1 A.2.1 A.2.2.1 A.2.2.2.1 A.2.2.2.2.2.1 A.2.2.2.2.2.2 v.1 v.2 (fun c d=>b (c,d)) (a 0) (a 1)⟩
def Pz:Ç:=Ls 0 [tI,tI,ae,aa,af,ac,aa,aj] [tI,tI] ⟨99,[.any,.box 0 0,.any,.any,.var tI,.var tI],[bJ]⟩ [(.ret,⟨99,[.any,.box 0 0,.var tI],[bJ]⟩,[tI]),(.exit 0,⟨99,[.any,.box 0 0,.any,.any,.var tI],[bJ]⟩,[tI])]
def Aw (ρ:Type):õ ρ:=⟨[],21,0,Pz,fun(p:ry) (v:bl) b a=>let A:=p.2.2.2.2;qe p.1 p.2.1 p.2.2.1 p.2.2.2.1 A.1 A.2.1 A.2.2.1 A.2.2.2 v.1 v.2 (fun c d=>b (c,d)) (a 0) (a 1)⟩
def tK (ρ:Type):Env ρ:=Ú [(83,UK),(84,aeu),(85,Gm)] [As ρ,Aw ρ]
def acB:ă:=⟨[ab,tI],[tI],fun(x:lA)=>KO x.1 x.2⟩
def aaJ:Ç:=Ls 0 [ab,tI] [tI] ⟨19,[.con ab,.con tI,.any,.any,.any,.var tI],[]⟩ [(.ret,⟨19,[.con ab,.con tI,.any,.any,.var tI],[]⟩,[tI]),(.exit 0,⟨19,[.con ab,.con tI],[]⟩,[])]
def Ly (ρ:Type):õ ρ:=⟨[],38,0,aaJ,fun(p:lA) (v:Int) b a=>BX p.1 p.2 v (fun c=>b c) (a 0) (a 1)⟩
def PA (ρ:Type):Env ρ:=Ú [] [Ly ρ]
def UC:ă:=⟨[Â,ah],[.bool],fun(x:ly)=>Cj x.1 x.2⟩
def Px:Ç:=Ls 0 [ah,tI,tI,tI,ae,aa,af,ac,aa,aj] [tI] ⟨72,[.any,.con ah,.box 0 0,.any,.any,.con tI,.var tI],[bJ]⟩ [(.ret,⟨72,[.any,.con ah,.box 0 0,.any,.var .bool,.con tI],[bJ]⟩,[.bool]),(.exit 2,⟨72,[.any,.con ah,.box 0 0,.any,.any,.con tI],[bJ]⟩,[])]
def Ap (ρ:Type):õ ρ:=⟨[],22,2,Px,fun(p:qs) (v:Int) b a=>km p.1 p.2.1 p.2.2.2.2.2.2.2.2.2 v (fun c=>b c) (a 0) (a 1)⟩
def Py:Ç:=Ls 0 [ah,tI,tI,ae,aa,af,ac,aa,aj] [tI] ⟨72,[.any,.con ah,.box 0 0,.any,.any,.var tI],[bJ]⟩ [(.ret,⟨72,[.any,.con ah,.box 0 0,.any,.var .bool],[bJ]⟩,[.bool]),(.exit 0,⟨72,[.any,.con ah,.box 0 0],[bJ]⟩,[])]
def Aq (ρ:Type):õ ρ:=⟨[],22,0,Py,fun(p:Val (.pair ah ai)) (v:Int) b a=>kp p.1 p.2.2.2.2.2.2.2.2 v (fun c=>b c) (a 0) (a 1)⟩
def tJ (ρ:Type):Env ρ:=Ú [(38,acB)] [Ap ρ,Aq ρ]
def Wj:ă:=⟨[Â,ah,tI,tI],[tI],fun(x:Val aY)=>yn x.1 x.2.1 x.2.2.1 x.2.2.2⟩
def W9:Ç:=Ls 0 [ah,tI,tI,tI,ae,aa,af,ac,aa,aj] [tI,tI] ⟨45,.any::.con ah::.var tI::.con tI::.box 0 0::aN 4 [.var tI],[bJ]⟩ [(.exit 0,⟨45,[.any,.con ah,.var tI,.con tI,.box 0 0],[bJ]⟩,[tI])]
def Hj (ρ:Type):õ ρ:=⟨[],54,0,W9,fun(p:qs) (v:bl) a b=>xr p.1 p.2.1 p.2.2.2.2.2.2.2.2.2 v.1 v.2 (fun c d=>a (c,d)) (b 0)⟩
def JU (ρ:Type):Env ρ:=Ú [(38,acB)] [Hj ρ]
def ZY:ă:=⟨[Â,ah,ab,tI],[ab],fun(x:Val (.pair Â (.pair ah az)))=>Bp x.1 x.2.1 x.2.2.1 x.2.2.2⟩
def DD:Ç:=Ls 0 [ah,ab,tI,tI,tI,tI,tI,ae,aa,af,ac,aa,aj,ab] [tI] ⟨57,.any::.con ah::.con ab::.con tI::.box 0 0::aN 4 [.own 1,.con tI,.con tI,.var tI],[bJ,.rowc tI]⟩ [(.exit 2,⟨57,.any::.con ah::.con ab::.con tI::.box 0 0::aN 4 [.own 1,.con tI,.con tI,.var tI],[bJ,.rowc tI]⟩,[tI])]
def DC (ρ:Type):õ ρ:=⟨[],121,2,DD,fun(p:Val (tyL DD.cs)) (v:Int) a b=>oT p.2.2.2.2.1 p.2.2.2.2.2.2.2.2.2.2.2.2.2 v (fun c=>a c) (b 0)⟩
def DF:Ç:=Ls 0 [ah,ab,tI,tI,tI,ae,aa,af,ac,aa,aj] [tI,ab] ⟨57,.any::.con ah::.con ab::.con tI::.box 0 0::aN 4 [.own 1,.var tI],[bJ,.rowv tI]⟩ [(.exit 0,⟨57,.any::.con ah::.con ab::.con tI::.box 0 0::aN 4 [.own 1],[bJ,.rowv tI]⟩,[ab])]
def DE (ρ:Type):õ ρ:=⟨[],121,0,DF,fun(p:Val (tyL DF.cs)) (v:f4) a b=>let A:=p.2.2.2.2;let B:=A.2.2.2.2;tD p.1 p.2.1 p.2.2.1 p.2.2.2.1 A.1 A.2.1 A.2.2.1 A.2.2.2.1 B.1 B.2.1 B.2.2 v.1 v.2 (fun c d=>a (c,d)) (b 0)⟩
def xp (ρ:Type):Env ρ:=Ú [(54,Wj)] [DC ρ,DE ρ]
def Dg:ă:=⟨[Â,ah],[È],fun(x:ly)=>ov x.1 x.2⟩
def rL:Ç:=Ls 0 [ah,tI,tI,ae,aa,af,ac,aa,aj,tI,tI,tI,tI,ae] [tI,aa] ⟨156,[.any,.con ah,.box 0 0,.any,.box 1 0,.box 2 0,.var tI],[bJ,bP,cj,.rowv Ã]⟩ [(.exit 0,⟨156,[.any,.con ah,.box 0 0,.any,.box 1 0,.box 2 0],[bJ,bP,cj,.rowv Ã]⟩,[aa])]
def rK (ρ:Type):õ ρ:=⟨[],57,0,rL,fun(p:Val (tyL rL.cs)) (v:nn) a b=>let A:=p.2.2.2.2;kj p.1 p.2.1 p.2.2.1 p.2.2.2.1 A.1 A.2.1 A.2.2.1 A.2.2.2.1 A.2.2.2.2.1 v.1 v.2 (fun c d=>a (c,d)) (b 0)⟩
def rJ:Ç:=Ls 0 [ah,tI,tI,ae,aa,af,ac,aa,aj,tI,tI,tI,tI,ae,aa] [tI,af] ⟨156,[.any,.con ah,.box 0 0,.any,.box 1 0,.box 2 0,.any,.any,.var tI],[bJ,bP,cm,.rowc Ã,.rowv ω]⟩ [(.exit 2,⟨156,[.any,.con ah,.box 0 0,.any,.box 1 0,.box 2 0],[bJ,bP,cm,.rowc Ã,.rowv ω]⟩,[af])]
def rI (ρ:Type):õ ρ:=⟨[],57,2,rJ,fun(p:Val (tyL rJ.cs)) (v:y6) a b=>let A:=p.2.2.2.2;ki p.1 p.2.1 p.2.2.1 p.2.2.2.1 A.1 A.2.1 A.2.2.1 A.2.2.2.1 A.2.2.2.2.1 v.1 v.2 (fun c d=>a (c,d)) (b 0)⟩
def rH:Ç:=Ls 0 [ah,tI,tI,ae,aa,af,ac,aa,aj,tI,tI,tI,tI,ae,aa,af] [tI,ac] ⟨156,.any::.con ah::.box 0 0::.any::.box 1 0::.box 2 0::aN 4 [.var tI],cZ⟩ [(.exit 4,⟨156,[.any,.con ah,.box 0 0,.any,.box 1 0,.box 2 0],cZ⟩,[ac])]
def rG (ρ:Type):õ ρ:=⟨[],57,4,rH,fun(p:Val (tyL rH.cs)) (v:Val bc) a b=>let A:=p.2.2.2.2;kh p.1 p.2.1 p.2.2.1 p.2.2.2.1 A.1 A.2.1 A.2.2.1 A.2.2.2.1 A.2.2.2.2.1 v.1 v.2 (fun c d=>a (c,d)) (b 0)⟩
def rE:Ç:=Ls 0 [ah,tI,tI,ae,aa,af,ac,aa,aj,tI,tI,tI,tI,ae,aa,af,ac] [tI,aa] ⟨156,.any::.con ah::.box 0 0::.any::.box 1 0::.box 2 0::aN 6 [.var tI],dc⟩ [(.exit 6,⟨156,[.any,.con ah,.box 0 0,.any,.box 1 0,.box 2 0],dc⟩,[aa])]
def rD (ρ:Type):õ ρ:=⟨[],57,6,rE,fun(p:Val (tyL rE.cs)) (v:nn) a b=>let A:=p.2.2.2.2;kg p.1 p.2.1 p.2.2.1 p.2.2.2.1 A.1 A.2.1 A.2.2.1 A.2.2.2.1 A.2.2.2.2.1 v.1 v.2 (fun c d=>a (c,d)) (b 0)⟩
def Η (ρ:Type):Env ρ:=Ú [(54,Wj),(121,ZY)] [rK ρ,rI ρ,rG ρ,rD ρ]
def Om:ă:=⟨[È],[Ð],fun(x:b6)=>yq x⟩
def Hw (ρ:Type):Env ρ:=Ú [(124,vm),(131,Wm)] []
def Z5:ă:=⟨[Ð],[.bool],fun(x:ge)=>IR x⟩
def Ts:Ç:=Ls 0 [tI,tI,am] [.bool,tI,ab] ⟨60,[.any,.box 0 0,.any,.own 1,.var .bool,.con tI,.var tI],cS⟩ [(.exit 2,⟨60,[.any,.box 0 0,.any,.own 1,.var .bool,.con tI],cS⟩,[.bool,ab])]
def DW (ρ:Type):õ ρ:=⟨[],86,2,Ts,fun(p:Val aT) (v:rx) a b=>oZ p.2.2 v.1 v.2.1 v.2.2 (fun c d e=>a (c,d,e)) (b 0)⟩
def Tt:Ç:=Ls 0 [tI,am] [.bool,tI,ab] ⟨60,[.any,.box 0 0,.any,.own 1,.var .bool,.var tI],cS⟩ [(.exit 0,⟨60,[.any,.box 0 0,.any,.own 1,.var .bool],cS⟩,[.bool,ab])]
def DX (ρ:Type):õ ρ:=⟨[],86,0,Tt,fun(p:ge) (v:rx) a b=>o8 p.1 p.2 v.1 v.2.1 v.2.2 (fun c d e=>a (c,d,e)) (b 0)⟩
def xC (ρ:Type):Env ρ:=Ú [] [DW ρ,DX ρ]
def wY:ă:=⟨[Â,ah],[.bool],fun(x:ly)=>mS x.1 x.2⟩
def Ar (ρ:Type):Env ρ:=Ú [(57,Dg),(65,Om),(86,Z5)] []
def Ol:ă:=⟨[Â,ah],[tI],fun(x:ly)=>yo x.1 x.2⟩
def Mr:Ç:=Ls 0 [ah,tI,tI,tI,ae,aa,af,ac,aa,aj] [tI,tI] ⟨43,[.any,.con ah,.box 0 0,.any,.any,.var tI,.con tI,.var tI],[bJ]⟩ [(.exit 2,⟨43,[.any,.con ah,.box 0 0,.any,.any,.var tI,.con tI],[bJ]⟩,[tI])]
def yM (ρ:Type):õ ρ:=⟨[],56,2,Mr,fun(p:qs) (v:bl) a b=>om p.1 p.2.1 p.2.2.2.2.2.2.2.2.2 v.1 v.2 (fun c d=>a (c,d)) (b 0)⟩
def Ms:Ç:=Ls 0 [ah,tI,tI,ae,aa,af,ac,aa,aj] [tI,tI] ⟨43,[.any,.con ah,.box 0 0,.any,.any,.var tI,.var tI],[bJ]⟩ [(.exit 0,⟨43,[.any,.con ah,.box 0 0,.any,.any,.var tI],[bJ]⟩,[tI])]
def yN (ρ:Type):õ ρ:=⟨[],56,0,Ms,fun(p:Val (.pair ah ai)) (v:bl) a b=>oo p.1 p.2.2.2.2.2.2.2.2 v.1 v.2 (fun c d=>a (c,d)) (b 0)⟩
def qd (ρ:Type):Env ρ:=Ú [] [yM ρ,yN ρ]
def Oj:ă:=⟨[ab],[ah],fun(x:an)=>FT x⟩
def Ε:Ç:=Ls 0 [ab,tI,ah] [tI,ah] ⟨51,[.con ab,.any,.any,.own 0,.con tI,.any,.con ah,.var tI],[.rowv ab]⟩ [(.exit 2,⟨51,[.con ab,.any,.any,.own 0,.con tI,.any,.con ah],[.rowv ab]⟩,[ah])]
def pF (rec:an->BE b5) (ρ:Type):õ ρ:=⟨[],120,2,Ε,fun(p:wk) (v:pi) a b=>la rec p.1 p.2.1 p.2.2 v.1 v.2 (fun c d=>a (c,d)) (b 0)⟩
def Ζ:Ç:=Ls 0 [ab] [tI,ah] ⟨51,[.con ab,.any,.any,.own 0,.var tI],[.rowv ab]⟩ [(.exit 0,⟨51,[.con ab,.any,.any,.own 0],[.rowv ab]⟩,[ah])]
def pG (rec:an->BE b5) (ρ:Type):õ ρ:=⟨[],120,0,Ζ,fun(p:an) (v:pi) a b=>ol rec p v.1 v.2 (fun c d=>a (c,d)) (b 0)⟩
def SZ (rec:an->BE b5):BY (Nat×ă):=[(120,⟨[ab],[ah],fun(x:an)=>rec x⟩)]
def Al (rec:an->BE b5) (ρ:Type):BY (õ ρ):=[pF rec ρ,pG rec ρ]
def Ĭ (rec:an->BE b5) (ρ:Type):Env ρ:=Ú (SZ rec) (Al rec ρ)
def ZZ:ă:=⟨[Â],[ak],fun(x:a8)=>IK x⟩
def DJ:Ç:=Ls 0 [tI,ah,tI,tI,tI,ae,aa,af,ac,aa,aj,ak] [tI,ak] ⟨82,[.any,.box 0 0,.any,.own 1,.con tI,.con ah,.own 2,.con tI,.var tI],de⟩ [(.exit 4,⟨82,[.any,.box 0 0,.any,.own 1,.con tI,.con ah,.own 2,.con tI],de⟩,[ak])]
def DI (ρ:Type):õ ρ:=⟨[],52,4,DJ,fun(p:Val (tyL DJ.cs)) (v:io) a b=>oV p.2.1 p.2.2.1 p.2.2.2.2.2.2.2.2.2.2.2 v.1 v.2 (fun c d=>a (c,d)) (b 0)⟩
def DL:Ç:=Ls 0 [tI,ah,tI,tI,ae,aa,af,ac,aa,aj,ak] [tI,ak] ⟨82,[.any,.box 0 0,.any,.own 1,.con tI,.con ah,.own 2,.var tI],de⟩ [(.exit 2,⟨82,[.any,.box 0 0,.any,.own 1,.con tI,.con ah,.own 2],de⟩,[ak])]
def DK (ρ:Type):õ ρ:=⟨[],52,2,DL,fun(p:Val (tyL DL.cs)) (v:io) a b=>oW p.2.1 p.2.2.2.2.2.2.2.2.2.2 v.1 v.2 (fun c d=>a (c,d)) (b 0)⟩
def Tb:Ç:=Ls 0 [tI,tI,ae,aa,af,ac,aa,aj] [tI,ak] ⟨82,[.any,.box 0 0,.any,.own 1,.var tI],[bJ,.rowv ah]⟩ [(.exit 0,⟨82,[.any,.box 0 0,.any,.own 1],[bJ,.rowv ah]⟩,[ak])]
def DM (ρ:Type):õ ρ:=⟨[],52,0,Tb,fun(p:ry) (v:io) a b=>tF p.2.2.2.2.2.2.2 v.1 v.2 (fun c d=>a (c,d)) (b 0)⟩
def S9:Ç:=Ls 0 [tI,tI,tI,ae,aa,af,ac,aa,aj,ak] [tI,ak] ⟨82,.any::.box 0 0::.any::.own 1::aN 5 [.own 2,.con tI,.var tI],de⟩ [(.exit 8,⟨82,.any::.box 0 0::.any::.own 1::aN 5 [.own 2,.con tI],de⟩,[ak])]
def DG (ρ:Type):õ ρ:=⟨[],52,8,S9,fun(p:Val (.pair tI aL)) (v:io) a b=>let A:=p.2.2.2.2;oU p.1 p.2.1 p.2.2.1 p.2.2.2.1 A.1 A.2.1 A.2.2.1 A.2.2.2.1 A.2.2.2.2.1 A.2.2.2.2.2 v.1 v.2 (fun c d=>a (c,d)) (b 0)⟩
def Ta:Ç:=Ls 0 [tI,tI,ae,aa,af,ac,aa,aj,ak] [tI,ak] ⟨82,.any::.box 0 0::.any::.own 1::aN 5 [.own 2,.var tI],de⟩ [(.exit 6,⟨82,.any::.box 0 0::.any::.own 1::aN 5 [.own 2],de⟩,[ak])]
def DH (ρ:Type):õ ρ:=⟨[],52,6,Ta,fun(p:Val aL) (v:io) a b=>let A:=p.2.2.2.2;tE p.1 p.2.1 p.2.2.1 p.2.2.2.1 A.1 A.2.1 A.2.2.1 A.2.2.2.1 A.2.2.2.2 v.1 v.2 (fun c d=>a (c,d)) (b 0)⟩
def lU (ρ:Type):Env ρ:=Ú [(56,Ol),(120,Oj)] [DI ρ,DK ρ,DM ρ,DG ρ,DH ρ]
def aev:ă:=⟨[Â],[ak],fun(x:a8)=>IL x⟩
def Xd:Ç:=Ls 0 [ak,tI,tI,ae,aa,af,ac,aa,aj] [tI,ak] ⟨30,[.any,.box 0 0,.any,.con ak,.own 1,.var tI],[bJ,.rowv ah]⟩ [(.exit 0,⟨30,[.any,.box 0 0,.any,.con ak,.own 1],[bJ,.rowv ah]⟩,[ak])]
def Hn (ρ:Type):õ ρ:=⟨[],24,0,Xd,fun(p:Val (.pair ak ai)) (v:io) a b=>let A:=p.2.2.2.2;xw p.1 p.2.1 p.2.2.1 p.2.2.2.1 A.1 A.2.1 A.2.2.1 A.2.2.2.1 A.2.2.2.2 v.1 v.2 (fun c d=>a (c,d)) (b 0)⟩
def J2 (ρ:Type):Env ρ:=Ú [(23,wY),(52,ZZ)] [Hn ρ]
def Gj:ă:=⟨[ak,ak],[.bool],fun(x:Val (.pair ak ak))=>jj x.1 x.2⟩
def Hl:Ç:=Ls 0 [ak,ak] [tI] ⟨29,[.con ak,.con ak,.any,.any,.any,.var tI],[]⟩ [(.ret,⟨29,[.con ak,.con ak,.any,.any,.var .bool],[]⟩,[.bool]),(.exit 0,⟨29,[.con ak,.con ak],[]⟩,[])]
def tG (ρ:Type):õ ρ:=⟨[],25,0,Hl,fun(p:Val (.pair ak ak)) (v:Int) b a=>lK p.1 p.2 v (fun c=>b c) (a 0) (a 1)⟩
def rM (ρ:Type):Env ρ:=Ú [(26,sO)] [tG ρ]
def j9:ă:=⟨[Â,ah],[.bool],fun(x:ly)=>nZ x.1 x.2⟩
def qY (ρ:Type):Env ρ:=Ú [(15,Uw),(16,Ux),(17,Oe),(18,Ln),(19,acA),(20,Oi),(21,UD),(22,UC),(23,wY),(24,aev),(25,Gj),(26,sO)] []
end Go.Proofs.ZzM
end
