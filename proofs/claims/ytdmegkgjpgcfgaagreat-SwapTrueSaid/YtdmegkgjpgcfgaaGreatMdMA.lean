/- lemmas -/
import Derived.Test.YtdmegkgjpgcfgaaGreatAmC
import Derived.Test.YtdmegkgjpgcfgaaGreatAmE
import Derived.KernelRfl
import Derived.Test.YtdmegkgjpgcfgaaGreatMdTA
import Derived.Test.YtdmegkgjpgcfgaaGreatProg
set_option linter.all false
set_option linter.unusedSectionVars false
set_option linter.unusedVariables false
set_option linter.unusedSimpArgs false
noncomputable section
set_option maxRecDepth 100000
namespace Go.Proofs.ZzM
open Go Go.Am
def MI:Nat→Bool
  |114=>true
  |115=>true
  |140=>true
  |170=>true
  |182=>true
  |250=>true
  |251=>true
  |252=>true
  |_=>false
def WN:Nat→Bool
  |184=>true
  |_=>false
def yS:Nat→Bool
  |249=>true
  |_=>false
def isInl:Nat→Bool
  |2=>true
  |89=>true
  |90=>true
  |94=>true
  |95=>true
  |96=>true
  |97=>true
  |99=>true
  |100=>true
  |101=>true
  |107=>true
  |108=>true
  |129=>true
  |130=>true
  |137=>true
  |138=>true
  |144=>true
  |150=>true
  |151=>true
  |152=>true
  |157=>true
  |158=>true
  |159=>true
  |167=>true
  |168=>true
  |169=>true
  |171=>true
  |174=>true
  |175=>true
  |176=>true
  |177=>true
  |178=>true
  |186=>true
  |197=>true
  |198=>true
  |200=>true
  |202=>true
  |207=>true
  |210=>true
  |211=>true
  |213=>true
  |214=>true
  |221=>true
  |222=>true
  |223=>true
  |224=>true
  |225=>true
  |229=>true
  |230=>true
  |232=>true
  |235=>true
  |237=>true
  |238=>true
  |244=>true
  |245=>true
  |246=>true
  |254=>true
  |255=>true
  |256=>true
  |257=>true
  |258=>true
  |260=>true
  |266=>true
  |267=>true
  |275=>true
  |276=>true
  |277=>true
  |278=>true
  |279=>true
  |280=>true
  |282=>true
  |283=>true
  |293=>true
  |294=>true
  |295=>true
  |298=>true
  |299=>true
  |301=>true
  |302=>true
  |304=>true
  |305=>true
  |310=>true
  |311=>true
  |314=>true
  |315=>true
  |317=>true
  |318=>true
  |321=>true
  |322=>true
  |_=>false
def isFz:Nat→Bool
  |74=>true
  |93=>true
  |_=>false
def isEat:Nat→Nat→Bool
  |104,2=>true
  |104,3=>true
  |174,25=>true
  |245,0=>true
  |_,_=>false
def aik:List Nat→Nat→Bool
  |_,_=>false
abbrev ŝ {ρ:Type} (E:Env ρ) (f:Nat) (ts rs:List Ty) (x:Val (tyL ts)) (k:Val (tyL rs)→Option ρ):Option ρ:=topK E f (Zn ts x) (fun h v=>Ä (ai2 rs h v) k)
abbrev Ls (p:Nat) (c v:List Ty) (h:Tpl) (e:List (Exit×Tpl×List Ty)):Æ:=⟨p,c,v,h,e,false⟩
def å {ρ:Type} (pt:List (Nat×ã)) (tab:List (à ρ)):Env ρ :=
  {P:=Tryz.prog,eat:=isEat,clone:=MI,sort:=WN,compact:=yS,inl:=isInl,fz:=isFz,stop:=aik,pure:=acv pt,loops:=kD tab}
def aaD {ρ:Type} (pt:List (Nat×ã)) (tab:List (à ρ)) (xt:List (Nat×abv)):Env ρ:={å pt tab with ext:=extT xt}
def mkEnvU {ρ:Type} (pt:List (Nat×ã)) (tab:List (à ρ)) (us:List ahZ):Env ρ :=
  {P:=Tryz.prog,eat:=isEat,clone:=MI,sort:=WN,compact:=yS,inl:=isInl,fz:=isFz,stop:=aik,pure:=acv pt,loops:=aaF (å pt tab) us}
abbrev bp:jW:=.cells [.con aa]
abbrev bq:jW:=.cells [.con tI,.con tI,.con ae,.con ab,.con af,.con ac,.con ab]
abbrev br:jW:=.cells [.con tI,.con tI,.con tI,.con tI,.con tI,.con tI,.con tI,.con tI]
abbrev bt:jW:=.cells [.con tI,.con tI,.con tI,.con tI]
abbrev bu:jW:=.cells [.con tI]
abbrev bv:jW:=.cells [.con tI,.con tI,.con aa,.con aa,.con tI,.con tI,.con tI,.con tI]
abbrev bw:jW:=.cells [.con tI,.con tI,.con ae,.con ab,.con af,.con ac,.con ab,.con ai]
abbrev bz:jW:=.cells [.con tI,.con aa]
abbrev bB:jW:=.cells [.omp 3]
abbrev bC:jW:=.cells [.con tI,.con tI]
abbrev bD:jW:=.cells [.con tI,.con tI,.con ae,.con ab,.con af,.con ac,.con ab,.con ab,.con tI,.own 3,.own 4]
abbrev bE:jW:=.cells [.con tI,.con tI,.con ae,.con ab,.con af,.con ac,.con ab,.con ab,.con tI,.own 2,.own 3]
abbrev bG:jW:=.cells [.con tI,.con tI,.nils,.nils,.nils,.nils,.nils]
abbrev bH:jW:=.cells [.con tI,.con tI,.own 3,.own 4,.nils,.nils,.nils]
abbrev bI:jW:=.cells [.con tI,.con tI,.own 3,.own 4,.own 5,.nils,.nils]
abbrev bJ:jW:=.cells [.con tI,.con tI,.own 3,.own 4,.own 5,.own 6,.nils]
abbrev bK:jW:=.cells [.con tI,.con tI,.own 2,.own 3,.own 4,.own 5,.own 6]
abbrev bL:jW:=.cells [.con tI,.con ak]
abbrev bM:jW:=.cells [.own 6]
abbrev bN:jW:=.cells [.var tI,.var tI,.var ae,.var ab,.var af,.var ac,.var ab,.var ai]
abbrev bO:jW:=.cells [.con ai]
abbrev bP:jW:=.cells [.own 4]
abbrev bQ:jW:=.cells [.fn 90 [(1,0)]]
abbrev bR:jW:=.cells [.con tI,.con tI,.nils,.nils,.nils,.nils,.nils,.nils]
abbrev bS:jW:=.cells [.fn 167 [(1,0)]]
abbrev bT:jW:=.cells [.fn 97 [(0,0),(1,0)]]
abbrev bU:jW:=.cells [.fn 97 [(3,0),(0,0)]]
abbrev bV:jW:=.cells [.con tI,.con tI,.own 9,.own 10,.own 11,.con ac,.own 12]
abbrev bW:jW:=.cells [.con tI,.con tI,.con tI]
abbrev bX:jW:=.cells [.con tI,.con tI,.own 9,.own 10,.own 11,.own 8,.own 12]
abbrev bY:jW:=.cells [.var tI,.var tI,.var ae,.var ab,.var af,.var ac,.var ab]
abbrev bZ:List jW:=[.rowv tI]
abbrev b7:List jW:=[bq,bv,.rowc tI]
abbrev b8:List jW:=[bq,bz,bB,.mapc tI tI]
abbrev b9:List jW:=[bq,bE,.rowv ŗ,.rowv Ã]
abbrev ca:List jW:=[bG,bq,bI,.rowc Ö,.rowc Ã,.rowv iy]
abbrev cd:List jW:=[bG,bq,bJ,.rowc Ö,.rowc Ã,.rowc iy,.rowv Ù]
abbrev ce:List jW:=[bG,bK,.rowc Ö,.rowc Ã,.rowc iy,.rowc Ù,.rowv Ã]
abbrev cf:List jW:=[bL,.rowc tI,bL,bM,.rowv .bool,.rowc tI,.rowv tI]
abbrev cg:List jW:=[bL,.rowv tI,bL,bM,.rowv .bool,.rowc tI,.rowv tI]
abbrev ci:List jW:=[bL,.rowv tI,bL,bM,.rowv .bool,.rowv tI,.rowv tI]
abbrev cj:List jW:=[.rowv ag,bw]
abbrev cm:List jW:=[.rowc ag,bw]
abbrev cn:List jW:=[.rowv ag,bN]
abbrev cp:List jW:=[bw,bu,bw,bQ,bR,.rowc Ù]
abbrev cq:List jW:=[bw,bp,bR,bw,bS,bR,.rowc Ù]
abbrev cr:List jW:=[bp,bU,.rowc tI,bw]
abbrev cu:List jW:=[bp,bU,.rowv tI,bw]
abbrev cw:List jW:=[bq,bC,bG,bq,bG,.dead,bV,bG,.rowv Ù,.rowc Ö,.rowc Ã,.rowc iy,.rowc Ã]
abbrev cz:List jW:=[.rowc aa,bL,.dead,.dead,.rowv tI]
abbrev cA:List jW:=[bL,.rowc ag,bW,bL,.rowv tI]
abbrev cB:List jW:=[bq,bp,bG,bq,bG,.dead,bV,bG,.rowv Ù,.rowc Ö,.rowc Ã,.rowc iy,.rowc Ã]
abbrev cD:List jW:=[bq,bp,bG,bq,bG,bX,bX,bX,.rowc Ù,.rowc Ö,.rowc Ã,.rowc iy,.rowc Ã]
abbrev cE:List jW:=[bq,bp,bG,bq,bG,bX,bX,bX,.rowv Ù,.rowc Ö,.rowc Ã,.rowc iy,.rowc Ã]
def i8:ã:=⟨[ag],[aa],fun(x:Val ag)=>Ī x⟩
def lH:Æ:=Ls 0 [ag,ag,tI] [tI,tI] ⟨36,.con ag::aN 2 (.var tI::aN 5 [.con ag,.con tI,.var tI]),[]⟩ [(.exit 0,⟨36,.con ag::aN 2 (.var tI::aN 5 [.con ag,.con tI]),[]⟩,[tI])]
def lG (ρ:Type):à ρ:=⟨[],93,0,lH,fun(p:Val (tyL lH.cs)) (v:Val Ã) a b=>Ρ p.2.1 p.2.2 v.1 v.2 (fun c d=>a (c,d)) (b 0)⟩
def vF:Æ:=Ls 0 [ag,tI] [tI,aa] ⟨36,aN 6 (.own 0::aN 18 [.con ag,.con tI,.var tI]),bZ⟩ [(.exit 2,⟨36,aN 6 (.own 0::aN 18 [.con ag,.con tI]),bZ⟩,[aa])]
def lF (ρ:Type):à ρ:=⟨[],93,2,vF,fun(p:Val (.pair ag tI)) (v:Val ŋ) a b=>Ģ p.1 p.2 v.1 v.2 (fun c d=>a (c,d)) (b 0)⟩
def yr:List (Nat×ã):=[]
def xh (ρ:Type):List (à ρ):=[lG ρ,lF ρ]
def π (ρ:Type):Env ρ:=å yr (xh ρ)
def MF:aiy:=⟨272,aa,aa,zK⟩
def ω:Tpl:=⟨37,.any::.box 1 0::.box 2 0::.any::.box 3 0::aN 6 [.con aa,.con tI,.con tI],[.acc aa,.cells [.con aa],.cells [.yld],.cells [.con tI]]⟩
def jF (al:Val ag) (rec:Val aa→Option ((Val ag))) (ρ:Type):FN ρ:=⟨[],272,2,4,[aa,tI,tI,aa,tI],[ag],ω,⟨272,aa,aa,rec⟩,fun(p:Val aV) (v:Val ag) y a=>pX al rec p.2.2.2.2 v y (fun b=>a b)⟩
def ų:Æ:=Ls 2 [aa,tI,aa] [tI,ag] ⟨37,.any::.box 1 0::.box 2 0::aN 8 [.con aa,.con tI,.var tI],[.acc aa,bp,.cells [.yld]]⟩ [(.exit 0,⟨37,.any::.box 1 0::.box 2 0::aN 8 [.con aa,.con tI],[.acc aa,bp,.cells [.yld]]⟩,[ag])]
def mF (al:Val ag) (rec:Val aa→Option ((Val ag))) (ρ:Type):à ρ:=⟨[],272,0,ų,fun(p:Val aY) (v:Val bh) a b=>pY al rec p.1 p.2.1 p.2.2 v.1 v.2 (fun c d=>a (c,d)) (b 0)⟩
def xX (al:Val ag) (rec:Val aa→Option ((Val ag))) (ρ:Type):List (FN ρ):=[jF al rec ρ]
def KS:List (Nat×ã):=[(93,i8)]
def wN (al:Val ag) (rec:Val aa→Option ((Val ag))) (ρ:Type):List (à ρ):=[mF al rec ρ]
def Ă (al:Val ag) (rec:Val aa→Option ((Val ag))) (ρ:Type):Env ρ:={å KS (wN al rec ρ) with ranges:=Ν (xX al rec ρ),yld:=some ⟨aa,al⟩}
def qy:aiy:=⟨231,ai,ag,mU⟩
def Ÿ:Tpl:=⟨27,.any::.box 1 0::.box 2 0::.box 3 0::aN 11 [.con aa],[.acc ag,.cells [.con ai],.cells [.yld],.cells [.con aa]]⟩
def iG (al:Val aj) (rec:Val ai→Option ((Val aj))) (ρ:Type):FN ρ:=⟨[],231,2,4,[aa,ai,aa],[aj],Ÿ,⟨231,ai,ag,rec⟩,fun(p:Val bi) (v:Val aj) y a=>mI al rec p.2.2 v y (fun b=>a b)⟩
def Ź:Tpl:=⟨27,[.any,.box 1 0,.box 2 0],[.acc ag,.cells [.con ai],.cells [.yld]]⟩
def iH (al:Val aj) (rec:Val ai→Option ((Val aj))) (ρ:Type):FN ρ:=⟨[],231,0,3,[ai],[aj],Ź,MF,fun(p:Val ai) (v:Val aj) y a=>mJ al rec p v y (fun b=>a b)⟩
def tG (al:Val aj) (rec:Val ai→Option ((Val aj))) (ρ:Type):List (FN ρ):=[iG al rec ρ,iH al rec ρ]
def Gn:List (Nat×ã):=[]
def rM (al:Val aj) (rec:Val ai→Option ((Val aj))) (ρ:Type):List (à ρ):=[]
def è (al:Val aj) (rec:Val ai→Option ((Val aj))) (ρ:Type):Env ρ:={å Gn (rM al rec ρ) with ranges:=Ν (tG al rec ρ),yld:=some ⟨ag,al⟩}
def ER:aiy:=⟨268,aa,tI,zJ⟩
def Ę:Æ:=Ls 2 [aa,tI,aa] [tI,aa] ⟨16,.yld::aN 4 [.con aa,.con tI,.var tI],[.acc tI,bp]⟩ [(.exit 0,⟨16,.yld::aN 4 [.con aa,.con tI],[.acc tI,bp]⟩,[aa])]
def Ω (al:Val aa) (rec:Val aa→Option ((Val aa))) (ρ:Type):à ρ:=⟨[],268,0,Ę,fun(p:Val aY) (v:Val ŋ) a b=>iI al rec p.1 p.2.1 v.1 v.2 (fun c d=>a (c,d)) (b 0)⟩
def vC:List (Nat×ã):=[]
def ue (al:Val aa) (rec:Val aa→Option ((Val aa))) (ρ:Type):List (à ρ):=[Ω al rec ρ]
def Ċ (al:Val aa) (rec:Val aa→Option ((Val aa))) (ρ:Type):Env ρ:={å vC (ue al rec ρ) with yld:=some ⟨tI,al⟩}
def mA:ã:=⟨[aa,tI],[tI],fun(x:Val ax)=>iu x.1 x.2⟩
def xg:Æ:=Ls 0 [aa,tI,tI] [tI] ⟨19,.con aa::.con tI::aN 5 [.con tI,.var tI],[]⟩ [(.ret,⟨19,[.con aa,.con tI,.any,.any,.var tI,.any,.any,.con tI],[]⟩,[tI]),(.exit 0,⟨19,.con aa::.con tI::aN 5 [.con tI],[]⟩,[])]
def mg (ρ:Type):à ρ:=⟨[],173,0,xg,fun(p:Val (.pair aa Ã)) (v:Val tI) b a=>ο p.1 p.2.1 p.2.2 v (fun c=>b c) (a 0) (a 1)⟩
def Au:List (Nat×ã):=[]
def yp (ρ:Type):List (à ρ):=[mg ρ]
def kH (ρ:Type):Env ρ:=å Au (yp ρ)
def Ň:ã:=⟨[aa,tI],[.bool],fun(x:Val ax)=>Ü x.1 x.2⟩
def vE:List (Nat×ã):=[(173,mA)]
def uh (ρ:Type):List (à ρ):=[]
def mh (ρ:Type):Env ρ:=å vE (uh ρ)
def Q8:ã:=⟨[É,Ö],[aa],fun(x:Val (.pair É Ö))=>pr x.1 x.2⟩
def SU:Æ:=Ls 0 [ac,tI,tI,tI,ae,ab,af,ac,ab,tI,tI,tI,tI,tI,tI,tI,tI] [tI,aa] ⟨59,aN 2 (.box 0 0::.box 1 0::.any::.own 2::aN 8 [.con ac,.con tI,.var tI]),[bq,br,.rowv tI]⟩ [(.exit 0,⟨59,aN 2 (.box 0 0::.box 1 0::.any::.own 2::aN 8 [.con ac,.con tI]),[bq,br,.rowv tI]⟩,[aa])]
def EI (ρ:Type):à ρ:=⟨[],201,0,SU,fun(p:Val (.pair ac aK)) (v:Val ŋ) a b=>we p.1 p.2.1 p.2.2.2.2.2.2.2.2.2.1 v.1 v.2 (fun c d=>a (c,d)) (b 0)⟩
def EH:Æ:=Ls 0 [ab,tI,tI,tI,tI,tI,tI,tI,tI,tI] [tI,aa] ⟨59,aN 3 (.box 0 0::.any::.own 1::aN 32 [.con ab,.con tI,.var tI]),[br,.rowv tI]⟩ [(.exit 2,⟨59,aN 3 (.box 0 0::.any::.own 1::aN 32 [.con ab,.con tI]),[br,.rowv tI]⟩,[aa])]
def EG (ρ:Type):à ρ:=⟨[],201,2,EH,fun(p:Val (tyL EH.cs)) (v:Val ŋ) a b=>wd p.1 p.2.1 p.2.2.1 v.1 v.2 (fun c d=>a (c,d)) (b 0)⟩
def YY:List (Nat×ã):=[(92,Ň)]
def Wo (ρ:Type):List (à ρ):=[EI ρ,EG ρ]
def zH (ρ:Type):Env ρ:=å YY (Wo ρ)
def xI:ã:=⟨[É],[ab],fun(x:Val É)=>ox x⟩
def Bs:Æ:=Ls 0 [ae,tI,tI,aa,tI,tI,tI,ae,ab,af,ac,ab,tI,tI,tI,tI,tI,tI,tI,tI] [tI,ab] ⟨33,.any::.box 0 0::.any::.own 1::.any::.box 2 0::aN 3 (.con ae::.con tI::.con tI::aN 5 [.con aa,.con tI,.var tI]),[bq,.rowv Ã,br]⟩ [(.exit 2,⟨33,.any::.box 0 0::.any::.own 1::.any::.box 2 0::aN 3 (.con ae::.con tI::.con tI::aN 5 [.con aa,.con tI]),[bq,.rowv Ã,br]⟩,[ab])]
def Br (ρ:Type):à ρ:=⟨[],136,2,Bs,fun(p:Val (tyL Bs.cs)) (v:Val bf) a b=>se p.2.2.2.1 p.2.2.2.2.1 p.2.2.2.2.2.2.2.2.2.2.2.2.1 v.1 v.2 (fun c d=>a (c,d)) (b 0)⟩
def Bu:Æ:=Ls 0 [ae,tI,tI,tI,ae,ab,af,ac,ab] [tI,ab] ⟨33,.any::.box 0 0::.any::.own 1::aN 5 [.con ae,.con tI,.var tI],[bq,.rowv Ã]⟩ [(.exit 0,⟨33,.any::.box 0 0::.any::.own 1::aN 5 [.con ae,.con tI],[bq,.rowv Ã]⟩,[ab])]
def Bt (ρ:Type):à ρ:=⟨[],136,0,Bu,fun(p:Val (tyL Bu.cs)) (v:Val bf) a b=>let A:=p.2.2.2.2;sf p.1 p.2.1 p.2.2.1 p.2.2.2.1 A.1 A.2.1 A.2.2.1 A.2.2.2.1 A.2.2.2.2 v.1 v.2 (fun c d=>a (c,d)) (b 0)⟩
def Wd:List (Nat×ã):=[(201,Q8)]
def SF (ρ:Type):List (à ρ):=[Br ρ,Bt ρ]
def vS (ρ:Type):Env ρ:=å Wd (SF ρ)
def tz:ã:=⟨[Ã,tI,tI],[.bool],fun(x:Val Ě)=>Λ x.1 x.2.1 x.2.2⟩
def SO:List (Nat×ã):=[]
def O1 (ρ:Type):List (à ρ):=[]
def Ia (ρ:Type):Env ρ:=å SO (O1 ρ)
def jC:ã:=⟨[tI,tI,tI],[.bool],fun(x:Val ŗ)=>ę x.1 x.2.1 x.2.2⟩
def Sx:List (Nat×ã):=[]
def OK (ρ:Type):List (à ρ):=[]
def H9 (ρ:Type):Env ρ:=å Sx (OK ρ)
def xL:ã:=⟨[tI],[.bool],fun(x:Val tI)=>lT x⟩
def Wm:List (Nat×ã):=[(212,jC)]
def SM (ρ:Type):List (à ρ):=[]
def Mi (ρ:Type):Env ρ:=å Wm (SM ρ)
def Q6:ã:=⟨[tI],[(.int .u64)],fun(x:Val tI)=>sG x⟩
def YG:List (Nat×ã):=[]
def VS (ρ:Type):List (à ρ):=[]
def P8 (ρ:Type):Env ρ:=å YG (VS ρ)
def X8:ã:=⟨[(.int .u64),(.int .u64)],[(.int .u64)],fun(x:Val bm)=>M7 x.1 x.2⟩
def VU:Æ:=Ls 0 [] [(.int .u64),(.int .u64)] ⟨12,[.var (.int .u64),.var (.int .u64)],[]⟩ [(.exit 0,⟨12,[.var (.int .u64)],[]⟩,[(.int .u64)])]
def H6 (ρ:Type):à ρ:=⟨[],292,0,VU,fun(p:Unit) (v:Val bm) a b=>zE v.1 v.2 (fun c d=>a (c,d)) (b 0)⟩
def ace:List (Nat×ã):=[]
def YH (ρ:Type):List (à ρ):=[H6 ρ]
def LS (ρ:Type):Env ρ:=å ace (YH ρ)
def Di:ã:=⟨[Ã],[.bool],fun(x:Val Ã)=>uR x⟩
def VX:List (Nat×ã):=[(291,Q6),(292,X8)]
def Sq (ρ:Type):List (à ρ):=[]
def LW (ρ:Type):Env ρ:=å VX (Sq ρ)
def Kq:ã:=⟨[Ö],[.bool],fun(x:Val Ö)=>wy x⟩
def O0:List (Nat×ã):=[(141,tz),(205,xL),(212,jC),(253,Di)]
def Mg (ρ:Type):List (à ρ):=[]
def EF (ρ:Type):Env ρ:=å O0 (Mg ρ)
def xM:ã:=⟨[É],[tI],fun(x:Val É)=>Α x⟩
def oR:Æ:=Ls 0 [ae,tI,tI,tI,ae,ab,af,ac,ab] [tI] ⟨31,.any::.box 0 0::aN 4 [.con ae,.con tI,.var tI],[bq]⟩ [(.ret,⟨31,[.any,.box 0 0,.var tI,.any,.any,.any,.con ae,.con tI],[bq]⟩,[tI]),(.exit 0,⟨31,.any::.box 0 0::aN 4 [.con ae,.con tI],[bq]⟩,[])]
def oQ (ρ:Type):à ρ:=⟨[],142,0,oR,fun(p:Val (tyL oR.cs)) (v:Val tI) b a=>jb p.1 p.2.1 p.2.2.2.2.1 v (fun c=>b c) (a 0) (a 1)⟩
def EJ:List (Nat×ã):=[(203,Kq)]
def Cz (ρ:Type):List (à ρ):=[oQ ρ]
def mR (ρ:Type):Env ρ:=å EJ (Cz ρ)
def vn:ã:=⟨[É],[am],fun(x:Val É)=>Ń x⟩
def Jf:Æ:=Ls 0 [ae,tI] [tI,am] ⟨20,aN 3 (.omp 0::aN 4 [.con ae,.con tI,.var tI]),[.mapv tI Ö]⟩ [(.exit 0,⟨20,aN 3 (.omp 0::aN 4 [.con ae,.con tI]),[.mapv tI Ö]⟩,[am])]
def wS (ρ:Type):à ρ:=⟨[],143,0,Jf,fun(p:Val (.pair ae tI)) (v:Val (.pair tI am)) a b=>nl p.1 p.2 v.1 v.2 (fun c d=>a (c,d)) (b 0)⟩
def OO:List (Nat×ã):=[]
def L6 (ρ:Type):List (à ρ):=[wS ρ]
def vP (ρ:Type):Env ρ:=å OO (L6 ρ)
def nf:ã:=⟨[am,tI,tI],[tI],fun(x:Val (.pair am Ã))=>iV x.1 x.2.1 x.2.2⟩
def GM:List (Nat×ã):=[]
def El (ρ:Type):List (à ρ):=[]
def wT (ρ:Type):Env ρ:=å GM (El ρ)
def Ya:ã:=⟨[tI,tI,(.ptr am)],[tI],fun(x:Val (.pair tI (.pair tI (.ptr am))))=>ń x.1 x.2.1 x.2.2⟩
def OP:List (Nat×ã):=[(205,xL),(206,nf)]
def L8 (ρ:Type):List (à ρ):=[]
def En (ρ:Type):Env ρ:=å OP (L8 ρ)
def Q9:ã:=⟨[É,am,tI],[tI],fun(x:Val bn)=>Φ x.1 x.2.1 x.2.2⟩
def sj:Æ:=Ls 2 [af,tI,tI,tI,ae,ab,af,ac,ab,tI,tI,tI,tI] [tI] ⟨19,.con af::.fn 254 [(1,0)]::aN 5 [.con tI,.var tI],[bq,bt]⟩ [(.ret,⟨19,[.con af,.fn 254 [(1,0)],.any,.any,.var tI,.any,.any,.con tI],[bq,bt]⟩,[tI]),(.exit 0,⟨19,.con af::.fn 254 [(1,0)]::aN 5 [.con tI],[bq,bt]⟩,[])]
def si (ρ:Type):à ρ:=⟨[9,5,1,2],293,0,sj,fun(p:Val (tyL sj.cs)) (v:Val tI) b a=>let A:=p.2.2.2.2.2.2.2.2.2;kB p.1 p.2.1 A.1 A.2.1 A.2.2.1 v (fun c=>b c) (a 0) (a 1)⟩
def sh:Æ:=Ls 2 [ab,tI,tI,tI,ae,ab,af,ac,ab,tI,tI,tI,tI] [tI] ⟨19,.con ab::.fn 255 [(1,0)]::aN 5 [.con tI,.var tI],[bq,bt]⟩ [(.ret,⟨19,[.con ab,.fn 255 [(1,0)],.any,.any,.var tI,.any,.any,.con tI],[bq,bt]⟩,[tI]),(.exit 0,⟨19,.con ab::.fn 255 [(1,0)]::aN 5 [.con tI],[bq,bt]⟩,[])]
def sg (ρ:Type):à ρ:=⟨[9,10,1,2],294,0,sh,fun(p:Val (tyL sh.cs)) (v:Val tI) b a=>let A:=p.2.2.2.2.2.2.2.2.2;Κ p.1 p.2.1 A.1 A.2.1 A.2.2.1 v (fun c=>b c) (a 0) (a 1)⟩
def Jl:List (Nat×ã):=[(141,tz),(206,nf),(212,jC)]
def GW (ρ:Type):List (à ρ):=[si ρ,sg ρ]
def lL (ρ:Type):Env ρ:=å Jl (GW ρ)
def zw:ã:=⟨[aa,aa],[aa],fun(x:Val (.pair aa aa))=>Ů x.1 x.2⟩
def EE:Æ:=Ls 2 [tI,aa,aa] [tI] ⟨19,.own 1::.fn 214 [(0,0)]::aN 5 [.con tI,.var tI],[bp,.rowc tI]⟩ [(.ret,⟨19,[.own 1,.fn 214 [(0,0)],.any,.any,.var tI,.any,.any,.con tI],[bp,.rowc tI]⟩,[tI]),(.exit 0,⟨19,.own 1::.fn 214 [(0,0)]::aN 5 [.con tI],[bp,.rowc tI]⟩,[])]
def ED (ρ:Type):à ρ:=⟨[1,3,1,2],260,0,EE,fun(p:Val (tyL EE.cs)) (v:Val tI) b a=>vZ p.1 p.2.1 p.2.2 v (fun c=>b c) (a 0) (a 1)⟩
def SJ:Æ:=Ls 2 [aa] [tI,tI,aa] ⟨42,[.own 1,.fn 214 [(0,0)],.any,.any,.any,.var tI,.var tI],[bp,.rowv tI]⟩ [(.exit 0,⟨42,[.own 1,.fn 214 [(0,0)],.any,.any,.any,.var tI],[bp,.rowv tI]⟩,[tI,aa])]
def EC (ρ:Type):à ρ:=⟨[1,3],213,0,SJ,fun(p:Val aa) (v:Val aS) a b=>kK p v.1 v.2.1 v.2.2 (fun c d e=>a (c,d,e)) (b 0)⟩
def YX:List (Nat×ã):=[(92,Ň)]
def Wi (ρ:Type):List (à ρ):=[ED ρ,EC ρ]
def zG (ρ:Type):Env ρ:=å YX (Wi ρ)
def F6:ã:=⟨[aa],[.bool],fun(x:Val aa)=>mY x⟩
def Me:Æ:=Ls 0 [aa,aa,tI] [tI] ⟨32,.con aa::aN 4 [.con aa,.con tI,.var tI],[]⟩ [(.ret,⟨32,[.con aa,.any,.var .bool,.any,.any,.con aa,.con tI],[]⟩,[.bool]),(.exit 0,⟨32,.con aa::aN 4 [.con aa,.con tI],[]⟩,[])]
def yN (ρ:Type):à ρ:=⟨[],172,0,Me,fun(p:Val (.pair aa ax)) (v:Val tI) b a=>pl p.1 p.2.1 p.2.2 v (fun c=>b c) (a 0) (a 1)⟩
def SL:List (Nat×ã):=[(212,jC)]
def OY (ρ:Type):List (à ρ):=[yN ρ]
def yO (ρ:Type):Env ρ:=å SL (OY ρ)
def Ra:ã:=⟨[É,tI,tI],[iy,.bool],fun(x:Val aM)=>wz x.1 x.2.1 x.2.2⟩
def EL:Æ:=Ls 4 [af,tI,tI,tI,ae,ab,af,ac,ab,tI,tI,tI,tI,tI,tI] [tI] ⟨19,.con af::.fn 295 [(1,0),(2,0)]::aN 5 [.con tI,.var tI],[bq,bu,bu,bt]⟩ [(.ret,⟨19,[.con af,.fn 295 [(1,0),(2,0)],.any,.any,.var tI,.any,.any,.con tI],[bq,bu,bu,bt]⟩,[tI]),(.exit 0,⟨19,.con af::.fn 295 [(1,0),(2,0)]::aN 5 [.con tI],[bq,bu,bu,bt]⟩,[])]
def EK (ρ:Type):à ρ:=⟨[1,3],293,0,EL,fun(p:Val (tyL EL.cs)) (v:Val tI) b a=>wi p.1 p.2.1 p.2.2.2.2.2.2.2.2.2.1 p.2.2.2.2.2.2.2.2.2.2.1 v (fun c=>b c) (a 0) (a 1)⟩
def YZ:List (Nat×ã):=[(212,jC)]
def Wq (ρ:Type):List (à ρ):=[EK ρ]
def GZ (ρ:Type):Env ρ:=å YZ (Wq ρ)
def IA:ã:=⟨[É,am,tI],[tI],fun(x:Val bn)=>ŏ x.1 x.2.1 x.2.2⟩
def om:Æ:=Ls 2 [ac,tI,tI,tI,ae,ab,af,ac,ab,tI,tI,aa,aa,tI,tI,tI,tI] [tI] ⟨19,.con ac::.fn 258 [(1,0)]::aN 5 [.con tI,.var tI],[bq,bv]⟩ [(.ret,⟨19,[.con ac,.fn 258 [(1,0)],.any,.any,.var tI,.any,.any,.con tI],[bq,bv]⟩,[tI]),(.exit 0,⟨19,.con ac::.fn 258 [(1,0)]::aN 5 [.con tI],[bq,bv]⟩,[])]
def ol (ρ:Type):à ρ:=⟨[4,5,1,2],175,0,om,fun(p:Val (tyL om.cs)) (v:Val tI) b a=>iK p.1 p.2.1 p.2.2.2.2.2.2.2.2.2.1 v (fun c=>b c) (a 0) (a 1)⟩
def oh:Æ:=Ls 0 [am,aa,tI,tI,tI,aa,tI,tI,tI,ae,ab,af,ac,ab,tI,tI,aa,aa,tI,tI,tI,tI,aa] [tI] ⟨140,.any::.con am::.any::.box 0 0::aN 3 (.box 1 0::.con aa::.any::.con tI::aN 65 [.own 2,.con tI,.con tI,.any,.any,.any,.con aa,.con tI,.var tI]),b7⟩ [(.ret,⟨140,.any::.con am::.any::.box 0 0::aN 2 (.var tI::.box 1 0::.con aa::.any::.con tI::aN 65 [.own 2,.con tI,.con tI,.any,.any,.any,.con aa,.con tI]),b7⟩,[tI]),(.exit 2,⟨140,.any::.con am::.any::.box 0 0::aN 3 (.box 1 0::.con aa::.any::.con tI::aN 65 [.own 2,.con tI,.con tI,.any,.any,.any,.con aa,.con tI]),b7⟩,[])]
def og (ρ:Type):à ρ:=⟨[],209,2,oh,fun(p:Val (tyL oh.cs)) (v:Val tI) b a=>let A:=p.2.2.2.2.2;iJ p.1 p.2.2.1 A.1 A.2.1 A.2.2.2.2.2.2.2.2.2.2.1 v (fun c=>b c) (a 0) (a 1)⟩
def oj:Æ:=Ls 0 [am,aa,tI,tI,tI,ae,ab,af,ac,ab,tI,tI,aa,aa,tI,tI,tI,tI,aa] [tI] ⟨140,.any::.con am::.any::.box 0 0::aN 3 (.box 1 0::.con aa::aN 67 [.own 2,.con tI,.var tI]),b7⟩ [(.ret,⟨140,.any::.con am::.any::.box 0 0::aN 2 (.var tI::.box 1 0::.con aa::aN 67 [.own 2,.con tI]),b7⟩,[tI]),(.exit 0,⟨140,.any::.con am::.any::.box 0 0::aN 3 (.box 1 0::.con aa::aN 67 [.own 2,.con tI]),b7⟩,[])]
def oi (ρ:Type):à ρ:=⟨[],209,0,oj,fun(p:Val (tyL oj.cs)) (v:Val tI) b a=>œ p.1 p.2.1 p.2.2.1 p.2.2.2.2.2.2.2.2.2.2.2.1 p.2.2.2.2.2.2.2.2.2.2.2.2.2.2.2.2.2.2 v (fun c=>b c) (a 0) (a 1)⟩
def oe:Æ:=Ls 0 [aa,tI,tI,tI,ae,ab,af,ac,ab,tI,tI,aa,aa,tI,tI,tI,tI] [tI] ⟨140,aN 3 (.box 0 0::aN 3 (.box 1 0::aN 90 [.con aa,.con tI,.var tI])),[bq,bv]⟩ [(.ret,⟨140,aN 3 (.box 0 0::aN 2 (.var tI::.box 1 0::aN 90 [.con aa,.con tI])),[bq,bv]⟩,[tI]),(.exit 4,⟨140,aN 3 (.box 0 0::aN 3 (.box 1 0::aN 90 [.con aa,.con tI])),[bq,bv]⟩,[])]
def od (ρ:Type):à ρ:=⟨[],209,4,oe,fun(p:Val (tyL oe.cs)) (v:Val tI) b a=>let A:=p.2.2.2.2;Œ p.1 p.2.1 p.2.2.1 p.2.2.2.1 A.1 A.2.1 A.2.2.1 A.2.2.2.1 A.2.2.2.2.1 A.2.2.2.2.2.2.1 v (fun c=>b c) (a 0) (a 1)⟩
def CB:List (Nat×ã):=[(93,i8),(141,tz),(148,zw),(172,F6),(205,xL),(206,nf),(212,jC),(259,Ra)]
def AA (ρ:Type):List (à ρ):=[ol ρ,og ρ,oi ρ,od ρ]
def Ş (ρ:Type):Env ρ:=å CB (AA ρ)
def jf:ã:=⟨[É],[tI],fun(x:Val É)=>ĕ x⟩
def UP:ã:=⟨[aa],[(.pair tI (.pair tI ŗ))],fun(x:Val aa)=>E8 x⟩
def PI:ã:=⟨[Â],[.bool],fun(x:Val Â)=>zN x⟩
def KJ:Æ:=Ls 0 [tI,tI,ae,ab,af,ac,ab,ai,tI,tI,ae,ab,af,ac,ab] [tI] ⟨90,[.any,.box 0 0,.any,.box 1 0,.var tI],[bw,bq]⟩ [(.ret,⟨90,[.any,.box 0 0,.var .bool,.box 1 0],[bw,bq]⟩,[.bool]),(.exit 0,⟨90,[.any,.box 0 0,.any,.box 1 0],[bw,bq]⟩,[])]
def xS (ρ:Type):à ρ:=⟨[],15,0,KJ,fun(p:Val aL) (v:Val tI) b a=>o8 p.2.2.2.2.2.2.2.2.2.2.2.2.2.1 v (fun c=>b c) (a 0) (a 1)⟩
def KI:Æ:=Ls 0 [tI,tI,ae,ab,af,ac,ab,ai,tI,tI,ae,ab,af,ac,ab] [tI] ⟨90,[.any,.box 0 0,.any,.box 1 0,.any,.var tI],[bw,bq]⟩ [(.ret,⟨90,[.any,.box 0 0,.var .bool,.box 1 0],[bw,bq]⟩,[.bool]),(.exit 2,⟨90,[.any,.box 0 0,.any,.box 1 0],[bw,bq]⟩,[])]
def xR (ρ:Type):à ρ:=⟨[],15,2,KI,fun(p:Val aL) (v:Val tI) b a=>ln p.2.2.2.2.2.2.2.1 v (fun c=>b c) (a 0) (a 1)⟩
def Rn:List (Nat×ã):=[]
def NS (ρ:Type):List (à ρ):=[xS ρ,xR ρ]
def ri (ρ:Type):Env ρ:=å Rn (NS ρ)
def U3:ã:=⟨[É,tI,aa],[tI],fun(x:Val (.pair É ŋ))=>Fq x.1 x.2.1 x.2.2⟩
def Bx:Æ:=Ls 1 [aa,tI,tI,tI,ae,ab,af,ac,ab] [tI] ⟨19,.con aa::.fn 299 []::aN 5 [.con tI,.var tI],[bq]⟩ [(.ret,⟨19,[.con aa,.fn 299 [],.any,.any,.var tI,.any,.any,.con tI],[bq]⟩,[tI]),(.exit 0,⟨19,.con aa::.fn 299 []::aN 5 [.con tI],[bq]⟩,[])]
def Bw (ρ:Type):à ρ:=⟨[4,1,1,2],260,0,Bx,fun(p:Val (tyL Bx.cs)) (v:Val tI) b a=>sk p.1 p.2.1 v (fun c=>b c) (a 0) (a 1)⟩
def Ws:List (Nat×ã):=[(72,jf),(143,vn),(205,xL)]
def SX (ρ:Type):List (à ρ):=[Bw ρ]
def CC (ρ:Type):Env ρ:=å Ws (SX ρ)
def aax:ã:=⟨[É,tI,tI],[.bool,tI],fun(x:Val aM)=>zU x.1 x.2.1 x.2.2⟩
def Y4:List (Nat×ã):=[(259,Ra),(269,U3)]
def WB (ρ:Type):List (à ρ):=[]
def Qc (ρ:Type):Env ρ:=å Y4 (WB ρ)
def UR:ã:=⟨[É,ai,tI],[tI],fun(x:Val (.pair É (.pair ai tI)))=>Fc x.1 x.2.1 x.2.2⟩
def A6:Æ:=Ls 0 [ai,tI,tI,tI,ae,ab,af,ac,ab,tI,aa] [tI] ⟨104,[.any,.con ai,.con tI,.box 0 0,.any,.any,.any,.box 1 0,.var tI],[bq,bz]⟩ [(.ret,⟨104,[.any,.con ai,.con tI,.box 0 0,.any,.any,.var tI,.box 1 0],[bq,bz]⟩,[tI]),(.exit 0,⟨104,[.any,.con ai,.con tI,.box 0 0,.any,.any,.any,.box 1 0],[bq,bz]⟩,[])]
def A5 (ρ:Type):à ρ:=⟨[],156,0,A6,fun(p:Val (tyL A6.cs)) (v:Val tI) b a=>nM p.2.2.2.2.2.2.2.2.2.2 v (fun c=>b c) (a 0) (a 1)⟩
def A4:Æ:=Ls 0 [ai,tI,ae,tI,tI,tI,ae,ab,af,ac,ab,tI,aa] [tI,aZ] ⟨104,.any::.con ai::.con tI::.box 0 0::aN 3 (.box 1 0::.any::.box 2 0::aN 50 [.con ae,.con tI,.var tI]),[bq,bz,bB,.mapv tI tI]⟩ [(.exit 2,⟨104,.any::.con ai::.con tI::.box 0 0::aN 3 (.box 1 0::.any::.box 2 0::aN 50 [.con ae,.con tI]),[bq,bz,bB,.mapv tI tI]⟩,[aZ])]
def A3 (ρ:Type):à ρ:=⟨[],156,2,A4,fun(p:Val (tyL A4.cs)) (v:Val (.pair tI aZ)) a b=>nJ p.2.2.1 p.2.2.2.1 v.1 v.2 (fun c d=>a (c,d)) (b 0)⟩
def Ob:Æ:=Ls 4 [aa,tI,tI,tI,ae,ab,af,ac,ab,tI,aa,aZ] [tI] ⟨19,.con aa::.fn 223 [(2,0)]::aN 5 [.con tI,.var tI],b8⟩ [(.ret,⟨19,[.con aa,.fn 223 [(2,0)],.any,.any,.var tI,.any,.any,.con tI],b8⟩,[tI]),(.exit 0,⟨19,.con aa::.fn 223 [(2,0)]::aN 5 [.con tI],b8⟩,[])]
def A2 (ρ:Type):à ρ:=⟨[18,3,1,2],260,0,Ob,fun(p:Val aF) (v:Val tI) b a=>nI p.1 p.2.1 p.2.2.2.2.2.2.2.2.2.2.2 v (fun c=>b c) (a 0) (a 1)⟩
def Oa:Æ:=Ls 4 [aa,tI,tI,tI,ae,ab,af,ac,ab,tI,aa,aZ] [tI] ⟨19,.con aa::.fn 224 [(1,0),(2,0)]::aN 5 [.con tI,.var tI],b8⟩ [(.ret,⟨19,[.con aa,.fn 224 [(1,0),(2,0)],.any,.any,.var tI,.any,.any,.con tI],b8⟩,[tI]),(.exit 0,⟨19,.con aa::.fn 224 [(1,0),(2,0)]::aN 5 [.con tI],b8⟩,[])]
def A0 (ρ:Type):à ρ:=⟨[20,3,1,2],260,0,Oa,fun(p:Val aF) (v:Val tI) b a=>kQ p.1 p.2.1 p.2.2.2.2.2.2.2.2.2.1 p.2.2.2.2.2.2.2.2.2.2.2 v (fun c=>b c) (a 0) (a 1)⟩
def N9:Æ:=Ls 4 [aa,tI,tI,tI,ae,ab,af,ac,ab,tI,aa,aZ] [tI] ⟨19,.con aa::.fn 225 [(0,0),(1,0)]::aN 5 [.con tI,.var tI],b8⟩ [(.ret,⟨19,[.con aa,.fn 225 [(0,0),(1,0)],.any,.any,.var tI,.any,.any,.con tI],b8⟩,[tI]),(.exit 0,⟨19,.con aa::.fn 225 [(0,0),(1,0)]::aN 5 [.con tI],b8⟩,[])]
def AZ (ρ:Type):à ρ:=⟨[24,3,1,2],260,0,N9,fun(p:Val aF) (v:Val tI) b a=>let A:=p.2.2.2.2;Ō p.1 p.2.1 p.2.2.1 p.2.2.2.1 A.1 A.2.1 A.2.2.1 A.2.2.2.1 A.2.2.2.2.1 A.2.2.2.2.2.1 v (fun c=>b c) (a 0) (a 1)⟩
def Vu:List (Nat×ã):=[(226,aax)]
def Rz (ρ:Type):List (à ρ):=[A5 ρ,A3 ρ,A2 ρ,A0 ρ,AZ ρ]
def kG (ρ:Type):Env ρ:=å Vu (Rz ρ)
def je:ã:=⟨[Â],[tI],fun(x:Val Â)=>ir x⟩
def Ou:Æ:=Ls 0 [ai,tI,tI,tI,tI,tI,ae,ab,af,ac,ab,ai] [tI,tI] ⟨50,.any::.box 0 0::aN 2 (.var tI::aN 15 (.con ai::.con tI::.con tI::aN 15 [.con tI,.var tI])),[bw]⟩ [(.exit 2,⟨50,.any::.box 0 0::aN 2 (.var tI::aN 15 (.con ai::.con tI::.con tI::aN 15 [.con tI])),[bw]⟩,[tI])]
def Ba (ρ:Type):à ρ:=⟨[],80,2,Ou,fun(p:Val (.pair ai bj)) (v:Val Ã) a b=>nN p.2.2.2.1 v.1 v.2 (fun c d=>a (c,d)) (b 0)⟩
def Ov:Æ:=Ls 0 [ai,tI,tI,tI,ae,ab,af,ac,ab,ai] [tI,tI] ⟨50,.any::.box 0 0::aN 2 (.var tI::aN 15 [.con ai,.con tI,.var tI]),[bw]⟩ [(.ret,⟨50,.any::.box 0 0::.var tI::aN 17 [.con ai,.con tI],[bw]⟩,[tI]),(.exit 0,⟨50,.any::.box 0 0::aN 2 (.var tI::aN 15 [.con ai,.con tI]),[bw]⟩,[tI])]
def Bb (ρ:Type):à ρ:=⟨[],80,0,Ov,fun(p:Val (.pair ai aE)) (v:Val Ã) b a=>let A:=p.2.2.2.2;rU p.1 p.2.1 p.2.2.1 p.2.2.2.1 A.1 A.2.1 A.2.2.1 A.2.2.2.1 A.2.2.2.2.1 A.2.2.2.2.2 v.1 v.2 (fun c d=>b (c,d)) (a 0) (a 1)⟩
def VE:List (Nat×ã):=[(72,jf),(156,UR)]
def RP (ρ:Type):List (à ρ):=[Ba ρ,Bb ρ]
def vB (ρ:Type):Env ρ:=å VE (RP ρ)
def Ŷ:ã:=⟨[ab,Ã],[tI],fun(x:Val (.pair ab Ã))=>ó x.1 x.2⟩
def l8:Æ:=Ls 0 [ab,tI,tI,tI] [tI] ⟨19,[.con ab,.any,.any,.box 0 0,.any,.any,.any,.con tI,.var tI],[bC]⟩ [(.ret,⟨19,[.con ab,.any,.any,.box 0 0,.var tI,.any,.any,.con tI],[bC]⟩,[tI]),(.exit 0,⟨19,[.con ab,.any,.any,.box 0 0,.any,.any,.any,.con tI],[bC]⟩,[])]
def κ (ρ:Type):à ρ:=⟨[],135,0,l8,fun(p:Val (.pair ab ŗ)) (v:Val tI) b a=>Ĩ p.1 p.2.1 p.2.2.1 p.2.2.2 v (fun c=>b c) (a 0) (a 1)⟩
def oa:List (Nat×ã):=[]
def mM (ρ:Type):List (à ρ):=[κ ρ]
def ş (ρ:Type):Env ρ:=å oa (mM ρ)
def xJ:ã:=⟨[aD,aa,tI],[tI],fun(x:Val (.pair aD ax))=>iA x.1 x.2.1 x.2.2⟩
def Md:List (Nat×ã):=[(135,Ŷ)]
def Ji (ρ:Type):List (à ρ):=[]
def Bv (ρ:Type):Env ρ:=å Md (Ji ρ)
def aav:ã:=⟨[É,Ö,tI,tI],[tI],fun(x:Val (.pair É (.pair Ö Ã)))=>zT x.1 x.2.1 x.2.2.1 x.2.2.2⟩
def EB:Æ:=Ls 0 [tI,tI,af,tI,tI,tI,ae,ab,af,ac,ab,tI,tI,tI,tI,tI,tI,tI,tI] [tI,tI] ⟨88,aN 2 (.con tI::.con tI::.box 0 0::.box 1 0::aN 3 (.var tI::aN 7 [.con af,.con tI,.var tI])),[bq,br]⟩ [(.exit 0,⟨88,aN 2 (.con tI::.con tI::.box 0 0::.box 1 0::aN 3 (.var tI::aN 7 [.con af,.con tI])),[bq,br]⟩,[tI])]
def EA (ρ:Type):à ρ:=⟨[],247,0,EB,fun(p:Val (tyL EB.cs)) (v:Val Ã) a b=>vY p.1 p.2.1 p.2.2.1 p.2.2.2.1 p.2.2.2.2.2.2.2.2.2.2.2.1 v.1 v.2 (fun c d=>a (c,d)) (b 0)⟩
def Ez:Æ:=Ls 0 [tI,tI,tI,ab,tI,tI,tI,tI,tI,tI,tI,tI,tI] [tI,aa] ⟨88,aN 2 (.con tI::.con tI::.any::.box 0 0::aN 3 (.con tI::aN 3 (.own 1::aN 39 [.con ab,.con tI,.var tI]))),[br,.rowv tI]⟩ [(.exit 2,⟨88,aN 2 (.con tI::.con tI::.any::.box 0 0::aN 3 (.con tI::aN 3 (.own 1::aN 39 [.con ab,.con tI]))),[br,.rowv tI]⟩,[aa])]
def Ey (ρ:Type):à ρ:=⟨[],247,2,Ez,fun(p:Val (tyL Ez.cs)) (v:Val ŋ) a b=>vX p.1 p.2.1 p.2.2.2.1 p.2.2.2.2.1 p.2.2.2.2.2.1 v.1 v.2 (fun c d=>a (c,d)) (b 0)⟩
def YW:List (Nat×ã):=[(212,jC)]
def Wg (ρ:Type):List (à ρ):=[EA ρ,Ey ρ]
def zF (ρ:Type):Env ρ:=å YW (Wg ρ)
def wM:ã:=⟨[am,aa],[Ã],fun(x:Val (.pair am aa))=>iR x.1 x.2⟩
def Cu:List (Nat×ã):=[]
def Ax (ρ:Type):List (à ρ):=[]
def sd (ρ:Type):Env ρ:=å Cu (Ax ρ)
def tx:ã:=⟨[ab],[tI],fun(x:Val ab)=>j9 x⟩
def OI:Æ:=Ls 0 [ab,tI] [tI] ⟨15,aN 5 [.con ab,.con tI,.var tI],[]⟩ [(.ret,⟨15,[.any,.any,.var tI,.any,.any,.con ab,.con tI],[]⟩,[tI]),(.exit 0,⟨15,aN 5 [.con ab,.con tI],[]⟩,[])]
def Bq (ρ:Type):à ρ:=⟨[],264,0,OI,fun(p:Val aW) (v:Val tI) b a=>sc p.1 p.2 v (fun c=>b c) (a 0) (a 1)⟩
def VQ:List (Nat×ã):=[(253,Di)]
def Sh (ρ:Type):List (à ρ):=[Bq ρ]
def Co (ρ:Type):Env ρ:=å VQ (Sh ρ)
def BN:ã:=⟨[tI,tI],[Ã,tI],fun(x:Val Ã)=>qB x.1 x.2⟩
def OJ:List (Nat×ã):=[(291,Q6),(292,X8)]
def LQ (ρ:Type):List (à ρ):=[]
def Eh (ρ:Type):Env ρ:=å OJ (LQ ρ)
def adX:ã:=⟨[Ã,Ã],[Ã,tI],fun(x:Val Ě)=>TA x.1 x.2⟩
def acg:List (Nat×ã):=[(264,tx),(312,BN)]
def YN (ρ:Type):List (à ρ):=[]
def VY (ρ:Type):Env ρ:=å acg (YN ρ)
def Dk:ã:=⟨[Ã,Ã],[Ã],fun(x:Val Ě)=>wx x.1 x.2⟩
def Jh:List (Nat×ã):=[(296,adX)]
def GP (ρ:Type):List (à ρ):=[]
def yJ (ρ:Type):Env ρ:=å Jh (GP ρ)
def X9:ã:=⟨[Ã,Ã],[tI],fun(x:Val Ě)=>M8 x.1 x.2⟩
def acf:List (Nat×ã):=[]
def YK (ρ:Type):List (à ρ):=[]
def VW (ρ:Type):Env ρ:=å acf (YK ρ)
def AP:ã:=⟨[Ě],[.bool],fun(x:Val Ě)=>tg x⟩
def GI:List (Nat×ã):=[(264,tx),(320,X9)]
def Ei (ρ:Type):List (à ρ):=[]
def wR (ρ:Type):Env ρ:=å GI (Ei ρ)
def adY:ã:=⟨[Ã,Ã],[Ã,tI],fun(x:Val Ě)=>Na x.1 x.2⟩
def ach:List (Nat×ã):=[(264,tx),(312,BN)]
def YQ (ρ:Type):List (à ρ):=[]
def V4 (ρ:Type):Env ρ:=å ach (YQ ρ)
def UY:ã:=⟨[Ě,Ã],[Ě,tI],fun(x:Val (.pair Ě Ã))=>M9 x.1 x.2⟩
def H8:List (Nat×ã):=[(253,Di),(313,AP),(316,adY),(320,X9)]
def vO (ρ:Type):List (à ρ):=[]
def H7:List ahZ:=[⟨[3,2],314,0,4⟩]
def VZ (ρ:Type):Env ρ:=å H8 (vO ρ)
def Cq (ρ:Type):Env ρ:=mkEnvU H8 (vO ρ) H7
def Dj:ã:=⟨[Ã,Ã],[Ě],fun(x:Val Ě)=>pq x.1 x.2⟩
def Jg:List (Nat×ã):=[(297,UY)]
def GN (ρ:Type):List (à ρ):=[]
def yI (ρ:Type):Env ρ:=å Jg (GN ρ)
def F7:ã:=⟨[É,Ù],[Ě],fun(x:Val ba)=>pL x.1 x.2⟩
def SP:List (Nat×ã):=[(143,vn),(148,zw),(261,wM),(262,Dk),(263,Dj)]
def O3 (ρ:Type):List (à ρ):=[]
def Ib (ρ:Type):Env ρ:=å SP (O3 ρ)
def Kr:ã:=⟨[É,Ù],[Ã],fun(x:Val ba)=>uS x.1 x.2⟩
def Wn:List (Nat×ã):=[]
def SQ (ρ:Type):List (à ρ):=[]
def Mk (ρ:Type):Env ρ:=å Wn (SQ ρ)
def Kn:ã:=⟨[tI,tI],[tI],fun(x:Val Ã)=>yX x.1 x.2⟩
def VV:List (Nat×ã):=[]
def Sl (ρ:Type):List (à ρ):=[]
def LU (ρ:Type):Env ρ:=å VV (Sl ρ)
def Q7:ã:=⟨[Ã],[tI,tI],fun(x:Val Ã)=>Fm x⟩
def YT:List (Nat×ã):=[(264,tx),(265,Kn)]
def V6 (ρ:Type):List (à ρ):=[]
def P9 (ρ:Type):Env ρ:=å YT (V6 ρ)
def Ko:ã:=⟨[Ã],[tI,tI],fun(x:Val Ã)=>yY x⟩
def V5:List (Nat×ã):=[(264,tx),(265,Kn)]
def Su (ρ:Type):List (à ρ):=[]
def LZ (ρ:Type):Env ρ:=å V5 (Su ρ)
def aau:ã:=⟨[É,Ù],[Ã],fun(x:Val ba)=>zR x.1 x.2⟩
def YU:List (Nat×ã):=[(215,F7),(216,Kr),(217,Q7),(218,Ko)]
def Wa (ρ:Type):List (à ρ):=[]
def Qa (ρ:Type):Env ρ:=å YU (Wa ρ)
def Jz:ã:=⟨[É],[aD],fun(x:Val É)=>zS x⟩
def Eu:Æ:=Ls 2 [tI,aa,tI,ae,tI,tI,tI,tI,ae,ab,af,ac,ab,tI,tI,ae,ab,af,ac,ab,ab,tI,tI,tI,tI,tI,tI,tI,tI,tI] [tI,ak,ab] ⟨144,.box 1 0::.any::.con tI::.box 2 0::.con aa::.con tI::.var tI::aN 24 [.con ae,.con tI,.con tI],[bq,bD,br,.rowv ŗ,.rowv Ã]⟩ [(.exit 2,⟨144,.box 1 0::.any::.con tI::.box 2 0::.con aa::.con tI::aN 25 [.con ae,.con tI,.con tI],[bq,bD,br,.rowv ŗ,.rowv Ã]⟩,[ak,ab])]
def Et (ρ:Type):à ρ:=⟨[2,1],200,2,Eu,fun(p:Val (tyL Eu.cs)) (v:Val (.pair tI C1)) a b=>let A:=p.2.2.2.2.2.2.2.2.2.2.2.2.2;let B:=A.2.2.2.2;let C:=B.2.2.2.2.2;let D:=C.2.2.2.2;vV p.1 p.2.1 p.2.2.1 A.1 A.2.1 A.2.2.1 A.2.2.2.1 B.1 B.2.1 B.2.2.1 C.1 C.2.1 C.2.2.1 C.2.2.2.1 D.1 D.2.1 D.2.2.1 D.2.2.2 v.1 v.2.1 v.2.2 (fun c d e=>a (c,d,e)) (b 0)⟩
def Ex:Æ:=Ls 2 [ae,tI,tI,tI,ae,ab,af,ac,ab,tI,tI,ae,ab,af,ac,ab,ab,tI] [tI,ak,ab] ⟨144,.box 1 0::aN 30 [.con ae,.con tI,.var tI],b9⟩ [(.exit 0,⟨144,.box 1 0::aN 30 [.con ae,.con tI],b9⟩,[ak,ab])]
def Ew (ρ:Type):à ρ:=⟨[2,1],200,0,Ex,fun(p:Val (tyL Ex.cs)) (v:Val (.pair tI C1)) a b=>let A:=p.2.2.2.2.2.2.2.2.2;let B:=A.2.2.2.2;vW p.1 p.2.1 A.1 A.2.1 A.2.2.1 A.2.2.2.1 B.1 B.2.1 B.2.2.1 B.2.2.2.1 B.2.2.2.2 v.1 v.2.1 v.2.2 (fun c d e=>a (c,d,e)) (b 0)⟩
def Es:Æ:=Ls 2 [ac,tI,tI,tI,ae,ab,af,ac,ab,tI,tI,ae,ab,af,ac,ab,ab,tI] [tI,ak,ab] ⟨144,.box 1 0::aN 107 [.con ac,.con tI,.var tI],b9⟩ [(.exit 4,⟨144,.box 1 0::aN 107 [.con ac,.con tI],b9⟩,[ak,ab])]
def Er (ρ:Type):à ρ:=⟨[2,1],200,4,Es,fun(p:Val (tyL Es.cs)) (v:Val (.pair tI C1)) a b=>let A:=p.2.2.2.2.2.2.2.2.2;let B:=A.2.2.2.2;vU p.1 p.2.1 A.1 A.2.1 A.2.2.1 A.2.2.2.1 B.1 B.2.1 B.2.2.1 B.2.2.2.1 B.2.2.2.2 v.1 v.2.1 v.2.2 (fun c d e=>a (c,d,e)) (b 0)⟩
def YV:List (Nat×ã):=[(136,xI),(147,xJ),(148,zw),(201,Q8),(247,aav),(248,aau)]
def We (ρ:Type):List (à ρ):=[Et ρ,Ew ρ,Er ρ]
def uE (ρ:Type):Env ρ:=å YV (We ρ)
def tB:ã:=⟨[É],[Î,ab,tI],fun(x:Val É)=>iW x⟩
def SZ:List (Nat×ã):=[(72,jf),(132,Jz)]
def O9 (ρ:Type):List (à ρ):=[]
def Ic (ρ:Type):Env ρ:=å SZ (O9 ρ)
def Kl:ã:=⟨[Â,ag,tI,tI],[tI],fun(x:Val bg)=>tf x.1 x.2.1 x.2.2.1 x.2.2.2⟩
def Vo:Æ:=Ls 0 [ag,tI,tI,tI,ae,ab,af,ac,ab,ai] [tI,tI] ⟨47,.any::.con ag::.var tI::.con tI::.box 0 0::aN 4 [.var tI],[bw]⟩ [(.exit 0,⟨47,[.any,.con ag,.var tI,.con tI,.box 0 0],[bw]⟩,[tI])]
def HV (ρ:Type):à ρ:=⟨[],105,0,Vo,fun(p:Val (.pair ag aE)) (v:Val Ã) a b=>zy p.1 p.2.1 p.2.2.2.2.2.2.2.2.2 v.1 v.2 (fun c d=>a (c,d)) (b 0)⟩
def ab9:List (Nat×ã):=[(173,mA)]
def Yj (ρ:Type):List (à ρ):=[HV ρ]
def KN (ρ:Type):Env ρ:=å ab9 (Yj ρ)
def xG:ã:=⟨[aa,tI,au,aH],[aa],fun(x:Val (.pair aa (.pair tI (.pair au aH))))=>jv x.1 x.2.1 x.2.2.1 x.2.2.2⟩
def oP:Æ:=Ls 0 [tI,au,aH,aa,tI] [tI,aa] ⟨28,[.any,.con tI,.con au,.con aH,.any,.any,.any,.own 0,.any,.any,.con aa,.con tI,.var tI],bZ⟩ [(.exit 0,⟨28,[.any,.con tI,.con au,.con aH,.any,.any,.any,.own 0,.any,.any,.con aa,.con tI],bZ⟩,[aa])]
def oO (ρ:Type):à ρ:=⟨[],183,0,oP,fun(p:Val (tyL oP.cs)) (v:Val ŋ) a b=>ja p.1 p.2.1 p.2.2.1 p.2.2.2.1 p.2.2.2.2 v.1 v.2 (fun c d=>a (c,d)) (b 0)⟩
def Dt:List (Nat×ã):=[(105,Kl)]
def B8 (ρ:Type):List (à ρ):=[oO ρ]
def mE (ρ:Type):Env ρ:=å Dt (B8 ρ)
def jB:ã:=⟨[Â,ag],[É],fun(x:Val aI)=>Υ x.1 x.2⟩
def rI:Æ:=Ls 0 [au,aH,au,aH,ab,tI,tI,tI,tI,tI,ae,ab,af,ac,ab,tI,tI,ae] [tI,ab] ⟨123,aN 2 (.con au::.con aH::.box 0 0::.box 1 0::.box 2 0::.fnd 183 [Â,ag]::aN 18 [.con ab,.con tI,.var tI]),[bG,bq,bH,.rowc Ö,.rowv Ã]⟩ [(.exit 0,⟨123,aN 2 (.con au::.con aH::.box 0 0::.box 1 0::.box 2 0::.fnd 183 [Â,ag]::aN 18 [.con ab,.con tI]),[bG,bq,bH,.rowc Ö,.rowv Ã]⟩,[ab])]
def rH (ρ:Type):à ρ:=⟨[],104,0,rI,fun(p:Val (tyL rI.cs)) (v:Val bf) a b=>ku p.1 p.2.1 p.2.2.2.2.1 p.2.2.2.2.2.1 v.1 v.2 (fun c d=>a (c,d)) (b 0)⟩
def rG:Æ:=Ls 0 [au,aH,au,aH,af,tI,tI,tI,tI,tI,ae,ab,af,ac,ab,tI,tI,ae,ab] [tI,af] ⟨123,aN 2 (.con au::.con aH::.box 0 0::.box 1 0::.box 2 0::.fnd 183 [Â,ag]::aN 41 [.con af,.con tI,.var tI]),ca⟩ [(.exit 2,⟨123,aN 2 (.con au::.con aH::.box 0 0::.box 1 0::.box 2 0::.fnd 183 [Â,ag]::aN 41 [.con af,.con tI]),ca⟩,[af])]
def rE (ρ:Type):à ρ:=⟨[],104,2,rG,fun(p:Val (tyL rG.cs)) (v:Val (.pair tI af)) a b=>ks p.1 p.2.1 p.2.2.2.2.1 p.2.2.2.2.2.1 v.1 v.2 (fun c d=>a (c,d)) (b 0)⟩
def rD:Æ:=Ls 0 [au,aH,au,aH,ac,tI,tI,tI,tI,tI,ae,ab,af,ac,ab,tI,tI,ae,ab,af] [tI,ac] ⟨123,aN 2 (.con au::.con aH::.box 0 0::.box 1 0::.box 2 0::.fnd 183 [Â,ag]::aN 64 [.con ac,.con tI,.var tI]),cd⟩ [(.exit 4,⟨123,aN 2 (.con au::.con aH::.box 0 0::.box 1 0::.box 2 0::.fnd 183 [Â,ag]::aN 64 [.con ac,.con tI]),cd⟩,[ac])]
def rC (ρ:Type):à ρ:=⟨[],104,4,rD,fun(p:Val (tyL rD.cs)) (v:Val aJ) a b=>kr p.2.2.1 p.2.2.2.1 p.2.2.2.2.1 p.2.2.2.2.2.1 v.1 v.2 (fun c d=>a (c,d)) (b 0)⟩
def rB:Æ:=Ls 0 [au,aH,ab,tI,tI,tI,tI,tI,ae,ab,af,ac] [tI,ab] ⟨123,aN 2 (.con au::.con aH::.box 0 0::.any::.box 1 0::aN 93 [.con ab,.con tI,.var tI]),ce⟩ [(.exit 6,⟨123,aN 2 (.con au::.con aH::.box 0 0::.any::.box 1 0::aN 93 [.con ab,.con tI]),ce⟩,[ab])]
def rA (ρ:Type):à ρ:=⟨[],104,6,rB,fun(p:Val (tyL rB.cs)) (v:Val bf) a b=>kq p.1 p.2.1 p.2.2.1 p.2.2.2.1 v.1 v.2 (fun c d=>a (c,d)) (b 0)⟩
def IK:List (Nat×ã):=[(105,Kl),(183,xG)]
def tF (ρ:Type):List (à ρ):=[rH ρ,rE ρ,rC ρ,rA ρ]
def ŷ (ρ:Type):Env ρ:={å IK (tF ρ) with hint:=Tq [(78,183),(84,183)]}
def Q5:ã:=⟨[Î,tI],[.bool],fun(x:Val (.pair Î tI))=>zQ x.1 x.2⟩
def YA:List (Nat×ã):=[]
def VI (ρ:Type):List (à ρ):=[]
def P0 (ρ:Type):Env ρ:=å YA (VI ρ)
def tv:ã:=⟨[Î],[tI,tI],fun(x:Val Î)=>ow x⟩
def OH:Æ:=Ls 0 [ak,tI,tI,ak] [tI] ⟨57,.any::.box 0 0::aN 17 [.con ak,.con tI,.var tI],[bL]⟩ [(.ret,⟨57,.any::.box 0 0::.var tI::.var tI::aN 15 [.con ak,.con tI],[bL]⟩,[tI,tI]),(.exit 0,⟨57,.any::.box 0 0::aN 17 [.con ak,.con tI],[bL]⟩,[])]
def Bp (ρ:Type):à ρ:=⟨[],126,0,OH,fun(p:Val (.pair ak aO)) (v:Val tI) b a=>sa p.1 p.2.1 p.2.2.1 p.2.2.2 v (fun c=>b c) (a 0) (a 1)⟩
def VP:List (Nat×ã):=[(196,Q5)]
def Sf (ρ:Type):List (à ρ):=[Bp ρ]
def Cn (ρ:Type):Env ρ:=å VP (Sf ρ)
def qX:ã:=⟨[Î,ao],[aa,.bool],fun(x:Val (.pair Î ao))=>kT x.1 x.2⟩
def uC:Æ:=Ls 2 [ao,ak,tI,tI,ak,aa,tI,ak,ar,aa] [tI,tI] ⟨140,.any::.con ao::.own 1::.box 2 0::aN 3 (.box 3 0::.own 4::.own 5::.var tI::aN 14 [.con ak,.con tI,.var tI]),[bL,.rowc tI,bL,.cells [.nils],.rowc .bool,.rowc tI]⟩ [(.exit 0,⟨140,.any::.con ao::.own 1::.box 2 0::aN 3 (.box 3 0::.own 4::.own 5::.var tI::aN 14 [.con ak,.con tI]),[bL,.rowc tI,bL,.cells [.nils],.rowc .bool,.rowc tI]⟩,[tI])]
def uB (ρ:Type):à ρ:=⟨[2,3],197,0,uC,fun(p:Val (tyL uC.cs)) (v:Val Ã) a b=>iq p.2.1 p.2.2.1 v.1 v.2 (fun c d=>a (c,d)) (b 0)⟩
def uA:Æ:=Ls 2 [ao,tI,tI,tI,ak,aa,tI,ak,aa] [tI,ar,aa] ⟨140,.any::.con ao::.own 1::.box 2 0::aN 3 (.box 3 0::.own 4::.own 5::.con tI::aN 27 [.con tI,.var tI]),cf⟩ [(.exit 2,⟨140,.any::.con ao::.own 1::.box 2 0::aN 3 (.box 3 0::.own 4::.own 5::.con tI::aN 27 [.con tI]),cf⟩,[ar,aa])]
def uz (ρ:Type):à ρ:=⟨[2,3],197,2,uA,fun(p:Val (tyL uA.cs)) (v:Val (.pair tI aP)) a b=>Ś p.2.2.1 p.2.2.2.2.2.1 v.1 v.2.1 v.2.2 (fun c d e=>a (c,d,e)) (b 0)⟩
def uu:Æ:=Ls 2 [ao,tI,tI,ak,tI,tI,ak,tI,ak,aa] [tI,aa,ar,aa] ⟨140,.any::.con ao::.own 1::.box 2 0::aN 3 (.box 3 0::.own 4::.own 5::.con tI::aN 3 (.con tI::aN 62 [.con ak,.con tI,.var tI])),cg⟩ [(.ret,⟨140,.any::.con ao::.own 1::.box 2 0::aN 2 (.var .bool::.box 3 0::.own 4::.own 5::.con tI::aN 3 (.con tI::aN 62 [.con ak,.con tI])),cg⟩,[.bool,aa,ar,aa]),(.exit 6,⟨140,.any::.con ao::.own 1::.box 2 0::aN 3 (.box 3 0::.own 4::.own 5::.con tI::aN 3 (.con tI::aN 62 [.con ak,.con tI])),cg⟩,[aa,ar,aa])]
def ut (ρ:Type):à ρ:=⟨[2,3],197,6,uu,fun(p:Val (tyL uu.cs)) (v:Val (.pair tI (.pair aa aP))) b a=>jp p.1 p.2.1 p.2.2.1 p.2.2.2.1 p.2.2.2.2.1 v.1 v.2.1 v.2.2.1 v.2.2.2 (fun c d e f=>b (c,d,e,f)) (a 0) (a 1)⟩
def GB:Æ:=Ls 2 [ao,tI,tI,ak,tI,ak] [aa,ar,aa,aa] ⟨140,[.any,.con ao,.own 1,.box 2 0,.any,.any,.any,.box 3 0,.own 4,.own 5,.con tI],ci⟩ [(.ret,⟨140,[.any,.con ao,.own 1,.box 2 0,.any,.any,.var .bool,.box 3 0,.own 4,.own 5,.con tI],ci⟩,[.bool,aa,ar,aa,aa])]
def uw (ρ:Type):à ρ:=⟨[2,3],197,4,GB,fun(p:Val (.pair ao bo)) (v:Val aQ) a b=>Ĭ p.1 p.2.1 p.2.2.2.2.1 p.2.2.2.2.2 v.1 v.2.1 v.2.2.1 v.2.2.2 (fun c d e f=>a (c,d,e,f)) (b 0)⟩
def GA:Æ:=Ls 0 [tI,tI] [tI,aa] ⟨34,aN 6 (.own 0::.con tI::aN 13 [.con tI,.var tI]),bZ⟩ [(.exit 0,⟨34,aN 6 (.own 0::.con tI::aN 13 [.con tI]),bZ⟩,[aa])]
def ur (ρ:Type):à ρ:=⟨[],127,0,GA,fun(p:Val Ã) (v:Val ŋ) a b=>jo p.1 p.2 v.1 v.2 (fun c d=>a (c,d)) (b 0)⟩
def Lv:List (Nat×ã):=[]
def I7 (ρ:Type):List (à ρ):=[uB ρ,uz ρ,ut ρ,uw ρ,ur ρ]
def δ (ρ:Type):Env ρ:=å Lv (I7 ρ)
def AM:ã:=⟨[Î],[.bool,tI],fun(x:Val Î)=>nr x⟩
def GG:List (Nat×ã):=[(126,tv),(127,qX)]
def Ec (ρ:Type):List (à ρ):=[]
def wP (ρ:Type):Env ρ:=å GG (Ec ρ)
def nD:ã:=⟨[Â,ag],[.bool],fun(x:Val aI)=>Ų x.1 x.2⟩
def Ld:List (Nat×ã):=[(66,tB),(104,jB),(155,AM)]
def IQ (ρ:Type):List (à ρ):=[]
def A7 (ρ:Type):Env ρ:=å Ld (IQ ρ)
def PJ:ã:=⟨[Â,ag],[tI],fun(x:Val aI)=>ĵ x.1 x.2⟩
def xU:Æ:=Ls 0 [tI,ag,tI,tI,aa,tI,tI,tI,ae,ab,af,ac,ab,ai] [tI,tI] ⟨40,aN 2 (.box 0 0::aN 2 (.var tI::.con tI::aN 3 (.con ag::.con tI::.con tI::aN 4 [.con aa,.con tI,.var tI]))),[bw]⟩ [(.exit 2,⟨40,aN 2 (.box 0 0::aN 2 (.var tI::.con tI::aN 3 (.con ag::.con tI::.con tI::aN 4 [.con aa,.con tI]))),[bw]⟩,[tI])]
def xT (ρ:Type):à ρ:=⟨[],116,2,xU,fun(p:Val (tyL xU.cs)) (v:Val Ã) a b=>let A:=p.2.2.2.2;o9 p.1 A.1 A.2.1 A.2.2.2.2.2.2.2.2.2 v.1 v.2 (fun c d=>a (c,d)) (b 0)⟩
def KO:Æ:=Ls 0 [ag,tI,tI,tI,ae,ab,af,ac,ab,ai] [tI,tI] ⟨40,aN 2 (.box 0 0::aN 2 (.var tI::aN 4 [.con ag,.con tI,.var tI])),[bw]⟩ [(.exit 0,⟨40,aN 2 (.box 0 0::aN 2 (.var tI::aN 4 [.con ag,.con tI])),[bw]⟩,[tI])]
def xV (ρ:Type):à ρ:=⟨[],116,0,KO,fun(p:Val (.pair ag aE)) (v:Val Ã) a b=>pb p.1 p.2.1 p.2.2.2.2.2.2.2.2.2 v.1 v.2 (fun c d=>a (c,d)) (b 0)⟩
def Rr:List (Nat×ã):=[]
def NW (ρ:Type):List (à ρ):=[xT ρ,xV ρ]
def rz (ρ:Type):Env ρ:=å Rr (NW ρ)
def xH:ã:=⟨[tI],[.bool],fun(x:Val tI)=>lS x⟩
def Ek:List (Nat×ã):=[]
def Cr (ρ:Type):List (à ρ):=[]
def uD (ρ:Type):Env ρ:=å Ek (Cr ρ)
def mB:ã:=⟨[tI,tI],[tI],fun(x:Val Ã)=>iv x.1 x.2⟩
def Aw:List (Nat×ã):=[(234,xH)]
def yG (ρ:Type):List (à ρ):=[]
def qu (ρ:Type):Env ρ:=å Aw (yG ρ)
def F4:ã:=⟨[ag,ag,au],[tI],fun(x:Val (.pair ag (.pair ag au)))=>jI x.1 x.2.1 x.2.2⟩
def Rs:List (Nat×ã):=[(116,PJ),(180,mB)]
def N2 (ρ:Type):List (à ρ):=[]
def HX (ρ:Type):Env ρ:=å Rs (N2 ρ)
def Ą:ac3:=⟨ag,[tI,tI],179,Â,fun(xs:Val aj) (x:Val Ã) (m:Val Â)=>æ xs x.1 x.2 m⟩
def lC:Æ:=Ls 2 [tI,tI,tI,tI,tI,ae,ab,af,ac,ab,ai] [tI,aj] ⟨53,.own 0::.con tI::.con tI::.fn 179 [(1,0)]::aN 4 [.con tI,.var tI],cj⟩ [(.exit 2,⟨53,.own 0::.con tI::.con tI::.fn 179 [(1,0)]::aN 4 [.con tI],cj⟩,[aj])]
def Ξ (ρ:Type):à ρ:=⟨[],273,2,lC,fun(p:Val bj) (v:Val aB) a b=>let A:=p.2.2.2.2;let B:=A.2.2.2.2;ç p.1 p.2.2.2.1 A.1 A.2.1 A.2.2.1 A.2.2.2.1 B.1 B.2.1 B.2.2 v.1 v.2 (fun c d=>a (c,d)) (b 0)⟩
def lD:Æ:=Ls 2 [tI,tI,tI,tI,ae,ab,af,ac,ab,ai] [tI,aj] ⟨53,.own 0::.con tI::.con tI::.fn 179 [(1,0)]::aN 4 [.var tI],cj⟩ [(.exit 0,⟨53,[.own 0,.con tI,.con tI,.fn 179 [(1,0)]],cj⟩,[aj])]
def Ο (ρ:Type):à ρ:=⟨[],273,0,lD,fun(p:Val (.pair tI aE)) (v:Val aB) a b=>let A:=p.2.2.2.2;č p.1 p.2.1 p.2.2.1 p.2.2.2.1 A.1 A.2.1 A.2.2.1 A.2.2.2.1 A.2.2.2.2.1 A.2.2.2.2.2 v.1 v.2 (fun c d=>a (c,d)) (b 0)⟩
def mK:List (Nat×ã):=[(179,F4)]
def ι (ρ:Type):List (à ρ):=[Ξ ρ,Ο ρ]
def õ (ρ:Type):Env ρ:={å mK (ι ρ) with hint:=Tq [(22,179)]}
def į:ac3:=⟨ag,[tI,tI,tI],179,Â,fun(xs:Val aj) (x:Val ŗ) (m:Val Â)=>ķ xs x.1 x.2.1 x.2.2 m⟩
def qP:Æ:=Ls 2 [tI,tI,tI,tI,tI,ae,ab,af,ac,ab,ai] [tI,aj] ⟨38,.own 0::.con tI::.con tI::.con tI::aN 6 [.var tI],cj⟩ [(.exit 0,⟨38,[.own 0,.con tI,.con tI,.con tI],cj⟩,[aj])]
def jR (ρ:Type):à ρ:=⟨[4,7],317,0,qP,fun(p:Val bj) (v:Val aB) a b=>Č p.1 p.2.1 p.2.2.1 v.1 v.2 (fun c d=>a (c,d)) (b 0)⟩
def qO:Æ:=Ls 2 [tI,tI,tI,tI,tI,ae,ab,af,ac,ab,ai] [tI,aj] ⟨38,.own 0::.con tI::.con tI::.con tI::aN 6 [.var tI],cj⟩ [(.exit 0,⟨38,[.own 0,.con tI,.con tI,.con tI],cj⟩,[aj])]
def jQ (ρ:Type):à ρ:=⟨[6,11],317,0,qO,fun(p:Val bj) (v:Val aB) a b=>ip p.1 p.2.1 p.2.2.1 v.1 v.2 (fun c d=>a (c,d)) (b 0)⟩
def qQ:Æ:=Ls 2 [tI,tI,tI,ae,ab,af,ac,ab,ai] [tI,tI,aj] ⟨58,.own 0::.any::.con tI::.any::.fn 179 [(1,0)]::aN 5 [.var tI,.var tI],cj⟩ [(.exit 0,⟨58,.own 0::.any::.con tI::.any::.fn 179 [(1,0)]::aN 5 [.var tI],cj⟩,[tI,aj])]
def jS (ρ:Type):à ρ:=⟨[],300,0,qQ,fun(p:Val aE) (v:Val (.pair tI aB)) a b=>Ĵ p.1 v.1 v.2.1 v.2.2 (fun c d e=>a (c,d,e)) (b 0)⟩
def qN:Æ:=Ls 2 [tI,tI,tI,tI,tI,ae,ab,af,ac,ab,ai] [tI,aj] ⟨38,.own 0::.con tI::.con tI::.con tI::aN 6 [.var tI],cj⟩ [(.exit 0,⟨38,[.own 0,.con tI,.con tI,.con tI],cj⟩,[aj])]
def jP (ρ:Type):à ρ:=⟨[8,7],317,0,qN,fun(p:Val bj) (v:Val aB) a b=>il p.1 p.2.1 p.2.2.1 v.1 v.2 (fun c d=>a (c,d)) (b 0)⟩
def ud:List (Nat×ã):=[]
def j7 (ρ:Type):List (à ρ):=[jR ρ,jQ ρ,jS ρ,jP ρ]
def Ā (ρ:Type):Env ρ:=å ud (j7 ρ)
def lh:ac3:=⟨ag,[tI,tI,tI],179,Â,fun(xs:Val aj) (x:Val ŗ) (m:Val Â)=>Ĕ xs x.1 x.2.1 x.2.2 m⟩
def ĉ:Æ:=Ls 2 [tI,aj,tI,tI,ae,ab,af,ac,ab,ai] [tI,tI] ⟨220,.own 0::.con tI::aN 2 (.fn 179 [(1,0)]::aN 5 [.var tI,.var tI]),cm⟩ [(.exit 0,⟨220,.own 0::.con tI::aN 2 (.fn 179 [(1,0)]::aN 5 [.var tI]),cm⟩,[tI])]
def Ū (rec:Val aj→Int→Int→Int→Val Â→Option ((Val aj)×(Val Â))) (ρ:Type):à ρ:=⟨[],274,0,ĉ,fun(p:Val aw) (v:Val Ã) a b=>ú rec p.1 p.2.1 p.2.2.1 p.2.2.2.1 p.2.2.2.2.1 p.2.2.2.2.2.1 p.2.2.2.2.2.2.1 p.2.2.2.2.2.2.2.1 p.2.2.2.2.2.2.2.2.1 p.2.2.2.2.2.2.2.2.2 v.1 v.2 (fun c d=>a (c,d)) (b 0)⟩
def Ĉ:Æ:=Ls 2 [tI,tI,tI,ae,ab,af,ac,ab,ai] [tI,aj] ⟨220,.own 0::aN 9 [.con tI,.any,.any,.var tI],cj⟩ [(.exit 2,⟨220,.own 0::aN 9 [.con tI],cj⟩,[aj])]
def ũ (rec:Val aj→Int→Int→Int→Val Â→Option ((Val aj)×(Val Â))) (ρ:Type):à ρ:=⟨[],274,2,Ĉ,fun(p:Val aE) (v:Val aB) a b=>í rec p.1 v.1 v.2 (fun c d=>a (c,d)) (b 0)⟩
def ć:Æ:=Ls 2 [tI,aj,tI,tI,ae,ab,af,ac,ab,ai] [tI,tI] ⟨220,.own 0::.any::.con tI::.any::.fn 179 [(1,0)]::aN 9 [.var tI,.var tI],cm⟩ [(.exit 4,⟨220,.own 0::.any::.con tI::.any::.fn 179 [(1,0)]::aN 9 [.var tI],cm⟩,[tI])]
def Ũ (rec:Val aj→Int→Int→Int→Val Â→Option ((Val aj)×(Val Â))) (ρ:Type):à ρ:=⟨[],274,4,ć,fun(p:Val aw) (v:Val Ã) a b=>ù rec p.1 p.2.1 p.2.2.1 p.2.2.2.1 p.2.2.2.2.1 p.2.2.2.2.2.1 p.2.2.2.2.2.2.1 p.2.2.2.2.2.2.2.1 p.2.2.2.2.2.2.2.2.1 p.2.2.2.2.2.2.2.2.2 v.1 v.2 (fun c d=>a (c,d)) (b 0)⟩
def Ć:Æ:=Ls 2 [tI,tI,tI,ae,ab,af,ac,ab,ai] [tI,aj] ⟨220,.own 0::aN 13 [.con tI,.any,.any,.var tI],cj⟩ [(.exit 6,⟨220,.own 0::aN 13 [.con tI],cj⟩,[aj])]
def ŧ (rec:Val aj→Int→Int→Int→Val Â→Option ((Val aj)×(Val Â))) (ρ:Type):à ρ:=⟨[],274,6,Ć,fun(p:Val aE) (v:Val aB) a b=>ì rec p.1 v.1 v.2 (fun c d=>a (c,d)) (b 0)⟩
def ą:Æ:=Ls 2 [tI,tI,tI,tI,tI,tI,aj,tI,tI,ae,ab,af,ac,ab,ai] [tI,tI] ⟨220,.own 0::.con tI::.con tI::.con tI::.fn 179 [(1,0)]::aN 13 [.con tI,.con tI,.var tI,.var tI,.con tI],cm⟩ [(.exit 8,⟨220,.own 0::.con tI::.con tI::.con tI::.fn 179 [(1,0)]::aN 13 [.con tI,.con tI,.var tI,.any,.con tI],cm⟩,[tI])]
def Ŧ (rec:Val aj→Int→Int→Int→Val Â→Option ((Val aj)×(Val Â))) (ρ:Type):à ρ:=⟨[],274,8,ą,fun(p:Val aR) (v:Val Ã) a b=>á rec p.2.2.2.2.2.1 p.2.2.2.2.2.2.1 p.2.2.2.2.2.2.2.1 p.2.2.2.2.2.2.2.2.1 p.2.2.2.2.2.2.2.2.2.1 p.2.2.2.2.2.2.2.2.2.2.1 p.2.2.2.2.2.2.2.2.2.2.2.1 p.2.2.2.2.2.2.2.2.2.2.2.2.1 p.2.2.2.2.2.2.2.2.2.2.2.2.2.1 p.2.2.2.2.2.2.2.2.2.2.2.2.2.2 v.1 v.2 (fun c d=>a (c,d)) (b 0)⟩
def qJ (rec:Val aj→Int→Int→Int→Val Â→Option ((Val aj)×(Val Â))):List (Nat×ã):=[(179,F4)]
def qI (rec:Val aj→Int→Int→Int→Val Â→Option ((Val aj)×(Val Â))):List (Nat×abv):=[(274,.row ⟨ag,[tI,tI,tI],179,Â,fun(xs:Val aj) (x:Val ŗ) (m:Val Â)=>rec xs x.1 x.2.1 x.2.2 m⟩),(300,.row į)]
def jl (rec:Val aj→Int→Int→Int→Val Â→Option ((Val aj)×(Val Â))) (ρ:Type):List (à ρ):=[Ū rec ρ,ũ rec ρ,Ũ rec ρ,ŧ rec ρ,Ŧ rec ρ]
def Ç (rec:Val aj→Int→Int→Int→Val Â→Option ((Val aj)×(Val Â))) (ρ:Type):Env ρ:={aaD (qJ rec) (jl rec ρ) (qI rec) with hint:=Tq [(40,179),(92,179),(158,179)]}
def ġ:ac3:=⟨ag,[tI],179,Â,fun(xs:Val aj) (x:Val tI) (m:Val Â)=>Ķ xs x m⟩
def qM:Æ:=Ls 2 [tI,tI] [tI,tI,aj,tI,tI,ae,ab,af,ac,ab,ai] ⟨63,[.own 0,.con tI,.fn 179 [(1,0)],.any,.any,.any,.con tI,.var tI,.var tI],cn⟩ [(.exit 0,⟨63,[.own 0,.con tI,.fn 179 [(1,0)],.any,.any,.any,.con tI,.var tI],cn⟩,[tI,aj,tI,tI,ae,ab,af,ac,ab,ai])]
def jO (ρ:Type):à ρ:=⟨[],233,0,qM,fun(p:Val Ã) (v:Val (.pair tI aw)) a b=>ik p.1 p.2 v.1 v.2.1 v.2.2.1 v.2.2.2.1 v.2.2.2.2.1 v.2.2.2.2.2.1 v.2.2.2.2.2.2.1 v.2.2.2.2.2.2.2.1 v.2.2.2.2.2.2.2.2.1 v.2.2.2.2.2.2.2.2.2.1 v.2.2.2.2.2.2.2.2.2.2 (fun c d e f g h i j k l m=>a (c,d,e,f,g,h,i,j,k,l,m)) (b 0)⟩
def qK:Æ:=Ls 2 [tI,tI] [tI,tI,aj,tI,tI,ae,ab,af,ac,ab,ai] ⟨63,[.own 0,.con tI,.fn 179 [(1,0)],.any,.any,.any,.con tI,.var tI,.var tI],cn⟩ [(.exit 4,⟨63,[.own 0,.con tI,.fn 179 [(1,0)],.any,.any,.any,.con tI,.var tI],cn⟩,[tI,aj,tI,tI,ae,ab,af,ac,ab,ai])]
def jM (ρ:Type):à ρ:=⟨[],233,4,qK,fun(p:Val Ã) (v:Val (.pair tI aw)) a b=>ii p.1 p.2 v.1 v.2.1 v.2.2.1 v.2.2.2.1 v.2.2.2.2.1 v.2.2.2.2.2.1 v.2.2.2.2.2.2.1 v.2.2.2.2.2.2.2.1 v.2.2.2.2.2.2.2.2.1 v.2.2.2.2.2.2.2.2.2.1 v.2.2.2.2.2.2.2.2.2.2 (fun c d e f g h i j k l m=>a (c,d,e,f,g,h,i,j,k,l,m)) (b 0)⟩
def qL:Æ:=Ls 2 [tI] [tI,aj,tI,tI,ae,ab,af,ac,ab,ai] ⟨63,[.own 0,.con tI,.fn 179 [(1,0)],.any,.any,.any,.var tI],cn⟩ [(.exit 2,⟨63,[.own 0,.con tI,.fn 179 [(1,0)]],cn⟩,[aj,tI,tI,ae,ab,af,ac,ab,ai])]
def jN (ρ:Type):à ρ:=⟨[],233,2,qL,fun(p:Val tI) (v:Val aw) a b=>ij p v.1 v.2.1 v.2.2.1 v.2.2.2.1 v.2.2.2.2.1 v.2.2.2.2.2.1 v.2.2.2.2.2.2.1 v.2.2.2.2.2.2.2.1 v.2.2.2.2.2.2.2.2.1 v.2.2.2.2.2.2.2.2.2 (fun c d e f g h i j k l=>a (c,d,e,f,g,h,i,j,k,l)) (b 0)⟩
def t8:List (Nat×ã):=[]
def t7:List (Nat×abv):=[(273,.row Ą),(274,.row lh)]
def j6 (ρ:Type):List (à ρ):=[jO ρ,jM ρ,jN ρ]
def ē (ρ:Type):Env ρ:=aaD t8 (j6 ρ) t7
def Q3:ã:=⟨[Â],[aj],fun(x:Val Â)=>Fe x⟩
def lr:Tpl:=⟨13,[.any,.any,.box 3 0],[.cells [.con tI,.con tI,.con ae,.con ab,.con af,.con ac,.con ab,.con ai],.cells [.con tI,.con tI,.con ae,.con ab,.con af,.con ac,.con ab,.con ai],.dead,.cells [.own 4],.rowv ag]⟩
def pe (ρ:Type):FN ρ:=⟨[1,1,1,3,1,1],230,0,4,[tI,tI,ae,ab,af,ac,ab,ai,tI,tI,ae,ab,af,ac,ab,ai],[aj],lr,qy,fun(p:Val ay) (v:Val aj) y a=>Cf v y (fun b=>a b)⟩
def DH:Æ:=Ls 5 [tI,tI,tI,ae,ab,af,ac,ab,ai,tI,tI,ae,ab,af,ac,ab,ai,ai,aj] [tI] ⟨19,.own 4::.fn 158 [(0,0)]::aN 5 [.con tI,.var tI],[bw,bw,bO,bP,.rowc ag]⟩ [(.ret,⟨19,[.own 4,.fn 158 [(0,0)],.any,.any,.var tI,.any,.any,.con tI],[bw,bw,bO,bP,.rowc ag]⟩,[tI]),(.exit 0,⟨19,.own 4::.fn 158 [(0,0)]::aN 5 [.con tI],[bw,bw,bO,bP,.rowc ag]⟩,[])]
def DG (ρ:Type):à ρ:=⟨[1,3,1,2],186,0,DH,fun(p:Val (tyL DH.cs)) (v:Val tI) b a=>let A:=p.2.2.2.2;vw p.1 p.2.1 p.2.2.1 p.2.2.2.1 A.1 A.2.1 A.2.2.1 A.2.2.2.1 A.2.2.2.2.1 A.2.2.2.2.2.2.2.2.2.2.2.2.2.2 v (fun c=>b c) (a 0) (a 1)⟩
def DF:Æ:=Ls 5 [tI,tI,ae,ab,af,ac,ab,ai,tI,tI,ae,ab,af,ac,ab,ai,ai] [tI,tI,aj] ⟨42,[.own 4,.fn 158 [(0,0)],.any,.any,.any,.var tI,.var tI],[bw,bw,bO,bP,.rowv ag]⟩ [(.exit 0,⟨42,[.own 4,.fn 158 [(0,0)],.any,.any,.any,.var tI],[bw,bw,bO,bP,.rowv ag]⟩,[tI,aj])]
def DE (ρ:Type):à ρ:=⟨[1,3],157,0,DF,fun(p:Val (tyL DF.cs)) (v:Val (.pair tI aB)) a b=>let A:=p.2.2.2.2;mH p.1 p.2.1 p.2.2.1 p.2.2.2.1 A.1 A.2.1 A.2.2.1 A.2.2.2.1 v.1 v.2.1 v.2.2 (fun c d e=>a (c,d,e)) (b 0)⟩
def La (ρ:Type):List (FN ρ):=[pe ρ]
def Yq:List (Nat×ã):=[(79,nD)]
def Yp:List (Nat×abv):=[(233,.row ġ)]
def H4 (ρ:Type):List (à ρ):=[DG ρ,DE ρ]
def ic (ρ:Type):Env ρ:={aaD Yq (H4 ρ) Yp with ranges:=Ν (La ρ)}
def adW:ã:=⟨[Â],[aj,tI],fun(x:Val Â)=>Tz x⟩
def acb:List (Nat×ã):=[(80,je),(81,Q3)]
def Yw (ρ:Type):List (à ρ):=[]
def VF (ρ:Type):Env ρ:=å acb (Yw ρ)
def zu:ã:=⟨[Â],[aj],fun(x:Val Â)=>sv x⟩
def lq:Tpl:=⟨13,[.any,.any,.box 2 0],[.cells [.con tI,.con tI,.con ae,.con ab,.con af,.con ac,.con ab,.con ai],.dead,.cells [.own 3],.rowv ag]⟩
def pd (ρ:Type):FN ρ:=⟨[1,3,1,1],230,0,3,[tI,tI,ae,ab,af,ac,ab,ai],[aj],lq,qy,fun(p:Val ah) (v:Val aj) y a=>B0 v y (fun b=>a b)⟩
def KP (ρ:Type):List (FN ρ):=[pd ρ]
def Yn:List (Nat×ã):=[]
def Ym:List (Nat×abv):=[(233,.row ġ)]
def HW (ρ:Type):List (à ρ):=[]
def jE (ρ:Type):Env ρ:={aaD Yn (HW ρ) Ym with ranges:=Ν (KP ρ)}
def oZ:ã:=⟨[Â],[ag,.bool],fun(x:Val Â)=>ā x⟩
def DI:Æ:=Ls 1 [aj,tI,tI,tI,ae,ab,af,ac,ab,ai] [tI] ⟨21,.any::.fn 159 [(0,0)]::aN 7 [.con aj,.con tI,.var tI],[bw]⟩ [(.ret,⟨21,[.any,.fn 159 [(0,0)],.any,.any,.var ag,.var .bool,.any,.any,.any,.con aj,.con tI],[bw]⟩,[ag,.bool]),(.exit 0,⟨21,.any::.fn 159 [(0,0)]::aN 7 [.con aj,.con tI],[bw]⟩,[])]
def rL (ρ:Type):à ρ:=⟨[1,3],99,0,DI,fun(p:Val (.pair aj aE)) (v:Val tI) b a=>let A:=p.2.2.2.2;kv p.1 p.2.1 p.2.2.1 p.2.2.2.1 A.1 A.2.1 A.2.2.1 A.2.2.2.1 A.2.2.2.2.1 A.2.2.2.2.2 v (fun c=>b c) (a 0) (a 1)⟩
def IU:List (Nat×ã):=[(79,nD),(96,zu)]
def Gl (ρ:Type):List (à ρ):=[rL ρ]
def pZ (ρ:Type):Env ρ:=å IU (Gl ρ)
def UT:ã:=⟨[Â],[ag,tI],fun(x:Val Â)=>Fh x⟩
def VB:List (Nat×ã):=[(80,je),(82,oZ)]
def RI (ρ:Type):List (à ρ):=[]
def Ll (ρ:Type):Env ρ:=å VB (RI ρ)
def vm:ã:=⟨[aa,aa],[.bool],fun(x:Val (.pair aa aa))=>jJ x.1 x.2⟩
def DZ:Æ:=Ls 0 [aa,aa] [tI] ⟨26,[.con aa,.con aa,.any,.any,.any,.var tI],[]⟩ [(.ret,⟨26,[.con aa,.con aa,.any,.any,.var .bool],[]⟩,[.bool]),(.exit 0,⟨26,[.con aa,.con aa],[]⟩,[])]
def rV (ρ:Type):à ρ:=⟨[],35,0,DZ,fun(p:Val (.pair aa aa)) (v:Val tI) b a=>kz p.1 p.2 v (fun c=>b c) (a 0) (a 1)⟩
def I6:List (Nat×ã):=[]
def Gx (ρ:Type):List (à ρ):=[rV ρ]
def qr (ρ:Type):Env ρ:=å I6 (Gx ρ)
def HS:ã:=⟨[ag,ag],[.bool],fun(x:Val (.pair ag ag))=>sF x.1 x.2⟩
def Gw:Æ:=Ls 0 [ag,ag] [tI] ⟨29,[.con ag,.con ag,.any,.any,.any,.var tI],[]⟩ [(.ret,⟨29,[.con ag,.con ag,.any,.any,.var .bool],[]⟩,[.bool]),(.exit 0,⟨29,[.con ag,.con ag],[]⟩,[])]
def uq (ρ:Type):à ρ:=⟨[],26,0,Gw,fun(p:Val (.pair ag ag)) (v:Val tI) b a=>lK p.1 p.2 v (fun c=>b c) (a 0) (a 1)⟩
def Lu:List (Nat×ã):=[(35,vm)]
def I4 (ρ:Type):List (à ρ):=[uq ρ]
def sS (ρ:Type):Env ρ:=å Lu (I4 ρ)
def De:ã:=⟨[Â,tI,tI],[tI],fun(x:Val (.pair Â Ã))=>uM x.1 x.2.1 x.2.2⟩
def AX:Æ:=Ls 2 [ae,tI,tI,tI,ae,ab,af,ac,ab,ai,tI] [tI] ⟨19,.con ae::.fn 169 [(1,0)]::aN 5 [.con tI,.var tI],[bw,bu]⟩ [(.ret,⟨19,[.con ae,.fn 169 [(1,0)],.any,.any,.var tI,.any,.any,.con tI],[bw,bu]⟩,[tI]),(.exit 0,⟨19,.con ae::.fn 169 [(1,0)]::aN 5 [.con tI],[bw,bu]⟩,[])]
def AW (ρ:Type):à ρ:=⟨[3,4,1,2],229,0,AX,fun(p:Val (tyL AX.cs)) (v:Val tI) b a=>rJ p.1 p.2.1 p.2.2.2.2.2.2.2.2.2.2 v (fun c=>b c) (a 0) (a 1)⟩
def Vs:List (Nat×ã):=[]
def Rw (ρ:Type):List (à ρ):=[AW ρ]
def Ce (ρ:Type):Env ρ:=å Vs (Rw ρ)
def PN:ã:=⟨[aa,aa],[aa,aa,tI],fun(x:Val (.pair aa aa))=>pM x.1 x.2⟩
def Td:List (Nat×ã):=[(148,zw),(172,F6)]
def Pc (ρ:Type):List (à ρ):=[]
def Ie (ρ:Type):Env ρ:=å Td (Pc ρ)
def Dg:ã:=⟨[Â,tI],[.bool,tI],fun(x:Val (.pair Â tI))=>po x.1 x.2⟩
def rQ:Æ:=Ls 6 [tI,tI,tI,ae,ab,af,ac,ab,ai,tI,tI,tI,ae,ab,af,ac,ab,ai,tI,tI,ac] [tI] ⟨19,.own 5::.fn 171 [(3,0)]::aN 5 [.con tI,.var tI],cp⟩ [(.ret,⟨19,[.own 5,.fn 171 [(3,0)],.any,.any,.var tI,.any,.any,.con tI],cp⟩,[tI]),(.exit 0,⟨19,.own 5::.fn 171 [(3,0)]::aN 5 [.con tI],cp⟩,[])]
def rP (ρ:Type):à ρ:=⟨[7,2,1,5,1,2],175,0,rQ,fun(p:Val (tyL rQ.cs)) (v:Val tI) b a=>ky p.1 p.2.2.2.2.2.2.2.2.2.1 p.2.2.2.2.2.2.2.2.2.2.2.2.2.2.2.2.2.2.2.2 v (fun c=>b c) (a 0) (a 1)⟩
def rO:Æ:=Ls 6 [tI,tI,ae,ab,af,ac,ab,ai,tI,tI,tI,ae,ab,af,ac,ab,ai,tI,tI] [tI,tI,ac] ⟨42,[.own 5,.fn 171 [(3,0)],.any,.any,.any,.var tI,.var tI],[bw,bu,bw,bQ,bR,.rowv Ù]⟩ [(.exit 0,⟨42,[.own 5,.fn 171 [(3,0)],.any,.any,.any,.var tI],[bw,bu,bw,bQ,bR,.rowv Ù]⟩,[tI,ac])]
def rN (ρ:Type):à ρ:=⟨[7,2,1,5],151,0,rO,fun(p:Val (tyL rO.cs)) (v:Val (.pair tI aJ)) a b=>Ι p.2.2.2.2.2.2.2.2.1 v.1 v.2.1 v.2.2 (fun c d e=>a (c,d,e)) (b 0)⟩
def IW:List (Nat×ã):=[(80,je),(82,oZ),(88,De),(91,PN),(92,Ň)]
def Gq (ρ:Type):List (à ρ):=[rP ρ,rN ρ]
def lz (ρ:Type):Env ρ:=å IW (Gq ρ)
def Q2:ã:=⟨[Â,aa],[Â],fun(x:Val (.pair Â aa))=>zO x.1 x.2⟩
def DC:Æ:=Ls 7 [tI,tI,tI,ae,ab,af,ac,ab,ai,aa,tI,tI,tI,tI,ae,ab,af,ac,ab,ai,tI,tI,ac] [tI] ⟨19,.own 6::.fn 171 [(4,0)]::aN 5 [.con tI,.var tI],cq⟩ [(.ret,⟨19,[.own 6,.fn 171 [(4,0)],.any,.any,.var tI,.any,.any,.con tI],cq⟩,[tI]),(.exit 0,⟨19,.own 6::.fn 171 [(4,0)]::aN 5 [.con tI],cq⟩,[])]
def DB (ρ:Type):à ρ:=⟨[1,2,1,5,1,2],175,0,DC,fun(p:Val (tyL DC.cs)) (v:Val tI) b a=>vv p.1 p.2.2.2.2.2.2.2.2.2.1 p.2.2.2.2.2.2.2.2.2.2.2.2.2.2.2.2.2.2.2.2.2.2 v (fun c=>b c) (a 0) (a 1)⟩
def DA:Æ:=Ls 7 [tI,tI,ae,ab,af,ac,ab,ai,aa,tI,tI,tI,tI,ae,ab,af,ac,ab,ai,tI,tI] [tI,tI,ac] ⟨42,[.own 6,.fn 171 [(4,0)],.any,.any,.any,.var tI,.var tI],[bw,bp,bR,bw,bS,bR,.rowv Ù]⟩ [(.exit 0,⟨42,[.own 6,.fn 171 [(4,0)],.any,.any,.any,.var tI],[bw,bp,bR,bw,bS,bR,.rowv Ù]⟩,[tI,ac])]
def Dz (ρ:Type):à ρ:=⟨[1,2,1,5],151,0,DA,fun(p:Val (tyL DA.cs)) (v:Val (.pair tI aJ)) a b=>mG p.2.2.2.2.2.2.2.2.1 v.1 v.2.1 v.2.2 (fun c d e=>a (c,d,e)) (b 0)⟩
def Yo:List (Nat×ã):=[(92,Ň)]
def Vq (ρ:Type):List (à ρ):=[DB ρ,Dz ρ]
def zz (ρ:Type):Env ρ:=å Yo (Vq ρ)
def aar:ã:=⟨[Â],[aa,tI],fun(x:Val Â)=>JP x⟩
def RN:Æ:=Ls 0 [ac,tI,tI,tI,ae,ab,af,ac,ab,ai] [tI,aa] ⟨66,.any::.box 0 0::aN 5 (.own 1::aN 19 [.con ac,.con tI,.var tI]),[bw,.rowv tI]⟩ [(.exit 0,⟨66,.any::.box 0 0::aN 5 (.own 1::aN 19 [.con ac,.con tI]),[bw,.rowv tI]⟩,[aa])]
def DU (ρ:Type):à ρ:=⟨[],29,0,RN,fun(p:Val (.pair ac aE)) (v:Val ŋ) a b=>vA p.1 p.2.1 v.1 v.2 (fun c d=>a (c,d)) (b 0)⟩
def RM:Æ:=Ls 0 [tI,tI,ae,ab,af,ac,ab,ai] [aa,tI] ⟨66,.any::.box 0 0::aN 5 [.var aa,.any,.any,.var tI],[bw]⟩ [(.exit 2,⟨66,.any::.box 0 0::aN 5 [.var aa],[bw]⟩,[aa])]
def DT (ρ:Type):à ρ:=⟨[],29,2,RM,fun(p:Val ah) (v:Val ax) a b=>let A:=p.2.2.2.2;qd p.1 p.2.1 p.2.2.1 p.2.2.2.1 A.1 A.2.1 A.2.2.1 A.2.2.2 v.1 v.2 (fun c d=>a (c,d)) (b 0)⟩
def Yv:List (Nat×ã):=[(80,je),(82,oZ),(87,Q2),(93,i8)]
def VC (ρ:Type):List (à ρ):=[DU ρ,DT ρ]
def zA (ρ:Type):Env ρ:=å Yv (VC ρ)
def PL:ã:=⟨[aa,tI],[aa],fun(x:Val ax)=>iU x.1 x.2⟩
def Le:Æ:=Ls 0 [tI,aa,tI] [tI,aa] ⟨26,[.any,.con tI,.any,.any,.any,.own 0,.any,.any,.con aa,.con tI,.var tI],bZ⟩ [(.exit 0,⟨26,[.any,.con tI,.any,.any,.any,.own 0,.any,.any,.con aa,.con tI],bZ⟩,[aa])]
def yf (ρ:Type):à ρ:=⟨[],98,0,Le,fun(p:Val (.pair tI ax)) (v:Val ŋ) a b=>pf p.1 p.2.1 p.2.2 v.1 v.2 (fun c d=>a (c,d)) (b 0)⟩
def RC:List (Nat×ã):=[]
def Oj (ρ:Type):List (à ρ):=[yf ρ]
def yh (ρ:Type):Env ρ:=å RC (Oj ρ)
def HP:ã:=⟨[Â,aa],[aa,tI],fun(x:Val (.pair Â aa))=>sw x.1 x.2⟩
def tX:Æ:=Ls 3 [ac,tI,tI,tI,ae,ab,af,ac,ab,ai,aa,tI] [tI] ⟨19,.con ac::.fn 95 [(2,0)]::aN 5 [.con tI,.var tI],[bw,bp,bu]⟩ [(.ret,⟨19,[.con ac,.fn 95 [(2,0)],.any,.any,.var tI,.any,.any,.con tI],[bw,bp,bu]⟩,[tI]),(.exit 0,⟨19,.con ac::.fn 95 [(2,0)]::aN 5 [.con tI],[bw,bp,bu]⟩,[])]
def tW (ρ:Type):à ρ:=⟨[9,4,1,2],175,0,tX,fun(p:Val (tyL tX.cs)) (v:Val tI) b a=>lB p.1 p.2.1 p.2.2.2.2.2.2.2.2.2.2.2 v (fun c=>b c) (a 0) (a 1)⟩
def tZ:Æ:=Ls 0 [aa,tI,tI,tI,ae,ab,af,ac,ab,ai,aa] [tI] ⟨135,aN 2 (.box 0 0::.box 1 0::aN 28 [.con aa,.con tI,.var tI]),[bw,bp]⟩ [(.ret,⟨135,aN 2 (.box 0 0::.box 1 0::.nils::.var tI::aN 26 [.con aa,.con tI]),[bw,bp]⟩,[tI]),(.exit 0,⟨135,aN 2 (.box 0 0::.box 1 0::aN 28 [.con aa,.con tI]),[bw,bp]⟩,[])]
def tY (ρ:Type):à ρ:=⟨[],30,0,tZ,fun(p:Val (tyL tZ.cs)) (v:Val tI) b a=>ig p.1 p.2.1 p.2.2.2.2.2.2.2.1 v (fun c=>b c) (a 0) (a 1)⟩
def tV:Æ:=Ls 0 [tI,tI,ae,ab,af,ac,ab,ai,aa] [tI] ⟨135,aN 2 (.box 0 0::.box 1 0::aN 5 [.var tI]),[bw,bp]⟩ [(.ret,⟨135,[.any,.any,.box 0 0,.box 1 0,.nils,.var tI],[bw,bp]⟩,[tI]),(.exit 2,⟨135,[.any,.any,.box 0 0,.box 1 0],[bw,bp]⟩,[])]
def tU (ρ:Type):à ρ:=⟨[],30,2,tV,fun(p:Val (tyL tV.cs)) (v:Val tI) b a=>jk p.2.2.2.2.2.2.2.2 v (fun c=>b c) (a 0) (a 1)⟩
def tT:Æ:=Ls 4 [aj,tI,tI,tI,ae,ab,af,ac,ab,ai,aa,tI] [tI] ⟨21,.any::.fn 100 [(3,0),(2,0)]::aN 7 [.con aj,.con tI,.var tI],[bw,bp,bu,bT]⟩ [(.ret,⟨21,[.any,.fn 100 [(3,0),(2,0)],.any,.any,.var ag,.var .bool,.any,.any,.any,.con aj,.con tI],[bw,bp,bu,bT]⟩,[ag,.bool]),(.exit 0,⟨21,.any::.fn 100 [(3,0),(2,0)]::aN 7 [.con aj,.con tI],[bw,bp,bu,bT]⟩,[])]
def tS (ρ:Type):à ρ:=⟨[21,2],99,0,tT,fun(p:Val (tyL tT.cs)) (v:Val tI) b a=>let A:=p.2.2.2.2;let B:=A.2.2.2.2;jj p.1 p.2.1 p.2.2.1 p.2.2.2.1 A.1 A.2.1 A.2.2.1 A.2.2.2.1 B.1 B.2.1 B.2.2.1 B.2.2.2 v (fun c=>b c) (a 0) (a 1)⟩
def tP:Æ:=Ls 4 [aa,aa,aa,tI,aa,aa,tI,tI,ae,ab,af,ac,ab,ai] [tI] ⟨36,.con aa::.con aa::aN 7 [.con aa,.con tI,.var tI],cr⟩ [(.ret,⟨36,.con aa::.con aa::aN 2 (.var tI::aN 4 [.con aa,.con tI]),cr⟩,[tI]),(.exit 0,⟨36,.con aa::.con aa::aN 7 [.con aa,.con tI],cr⟩,[])]
def tO (ρ:Type):à ρ:=⟨[29,14],101,0,tP,fun(p:Val (tyL tP.cs)) (v:Val tI) b a=>ź p.2.1 p.2.2.1 p.2.2.2.1 v (fun c=>b c) (a 0) (a 1)⟩
def tN:Æ:=Ls 0 [aj,aa,tI,tI,aa,tI,tI,tI,aa,aa,tI,tI,ae,ab,af,ac,ab,ai] [tI] ⟨135,aN 3 (.box 0 0::aN 6 (.con aj::.any::.box 1 0::.own 2::aN 2 (.con aa::.con tI::.con tI::.con aa::aN 57 (.con tI::.con tI::aN 23 [.own 2,.con tI,.var tI])))),cr⟩ [(.exit 5,⟨135,aN 3 (.box 0 0::aN 6 (.con aj::.any::.box 1 0::.own 2::aN 2 (.con aa::.con tI::.con tI::.con aa::aN 57 (.con tI::.con tI::aN 23 [.own 2,.con tI])))),cr⟩,[]),(.exit 6,⟨135,aN 3 (.box 0 0::aN 6 (.con aj::.any::.box 1 0::.own 2::aN 2 (.con aa::.con tI::.con tI::.con aa::aN 57 (.con tI::.con tI::aN 23 [.own 2,.con tI])))),cr⟩,[])]
def tM (ρ:Type):à ρ:=⟨[],30,6,tN,fun(p:Val (tyL tN.cs)) (v:Val tI) b a=>ř p.2.2.2.1 p.2.2.2.2.2.2.2.1 p.2.2.2.2.2.2.2.2.2.1 v (fun c=>b c) (a 0) (a 1)⟩
def tK:Æ:=Ls 0 [aj,aa,tI,tI,aa,tI,tI,aj,tI,aa,tI,tI,ae,ab,af,ac,ab,ai] [tI,aa] ⟨135,aN 3 (.box 0 0::aN 6 (.con aj::.any::.box 1 0::.own 2::aN 2 (.con aa::.con tI::.con tI::.con aa::aN 57 (.con tI::.con tI::aN 34 [.con aj,.con tI,.var tI])))),cu⟩ [(.exit 5,⟨135,aN 3 (.box 0 0::aN 6 (.con aj::.any::.box 1 0::.own 2::aN 2 (.con aa::.con tI::.con tI::.con aa::aN 57 (.con tI::.con tI::aN 34 [.con aj,.con tI])))),cu⟩,[aa]),(.exit 8,⟨135,aN 3 (.box 0 0::aN 6 (.con aj::.any::.box 1 0::.own 2::aN 2 (.con aa::.con tI::.con tI::.con aa::aN 57 (.con tI::.con tI::aN 34 [.con aj,.con tI])))),cu⟩,[aa])]
def tJ (ρ:Type):à ρ:=⟨[],30,8,tK,fun(p:Val (tyL tK.cs)) (v:Val ŋ) b a=>let A:=p.2.2.2.2.2.2.2;let B:=A.2.2.2.2;let C:=B.2.2.2.2;Ř p.2.2.2.1 A.1 A.2.1 A.2.2.1 A.2.2.2.1 B.1 B.2.1 B.2.2.1 B.2.2.2.1 C.1 C.2.1 C.2.2 v.1 v.2 (fun c d=>b (c,d)) (a 0) (a 1)⟩
def tR:Æ:=Ls 0 [aj,tI,aa,tI,tI,ae,ab,af,ac,ab,ai] [aa,tI,tI,aa] ⟨135,aN 3 (.box 0 0::aN 6 (.con aj::.any::.box 1 0::.own 2::aN 2 (.var aa::.var tI::aN 59 [.con tI,.var tI]))),cu⟩ [(.exit 4,⟨135,aN 3 (.box 0 0::aN 6 (.con aj::.any::.box 1 0::.own 2::aN 3 (.var tI::aN 59 [.con tI]))),cu⟩,[tI,aa])]
def tQ (ρ:Type):à ρ:=⟨[],30,4,tR,fun(p:Val (tyL tR.cs)) (v:Val (.pair aa aS)) a b=>let A:=p.2.2.2.2;let B:=A.2.2.2.2;Ż p.1 p.2.1 p.2.2.1 p.2.2.2.1 A.1 A.2.1 A.2.2.1 A.2.2.2.1 B.1 B.2.1 B.2.2 v.1 v.2.1 v.2.2.1 v.2.2.2 (fun c d e f=>a (c,d,e,f)) (b 0)⟩
def Lh:List (Nat×ã):=[(79,nD),(80,je),(87,Q2),(96,zu),(98,PL),(180,mB)]
def IY (ρ:Type):List (à ρ):=[tW ρ,tY ρ,tU ρ,tS ρ,tO ρ,tM ρ,tJ ρ,tQ ρ]
def ľ (ρ:Type):Env ρ:=å Lh (IY ρ)
def Q4:ã:=⟨[Â],[aj,tI],fun(x:Val Â)=>Ff x⟩
def Yu:List (Nat×ã):=[(80,je),(96,zu)]
def Vy (ρ:Type):List (à ρ):=[]
def PZ (ρ:Type):Env ρ:=å Yu (Vy ρ)
def Kt:ã:=⟨[É,Ã],[tI,tI],fun(x:Val aM)=>ka x.1 x.2⟩
def Wx:List (Nat×ã):=[(72,jf),(135,Ŷ),(136,xI)]
def Ta (ρ:Type):List (à ρ):=[]
def Mv (ρ:Type):Env ρ:=å Wx (Ta ρ)
def Rb:ã:=⟨[É,Ã],[É,tI],fun(x:Val aM)=>wB x.1 x.2⟩
def EN:Æ:=Ls 6 [tI,tI,tI,ae,ab,af,ac,ab,tI,tI,tI,tI,tI,tI,ae,ab,af,ac,ab,tI,tI,tI,tI,ac,tI,tI,ae,ab,af,ab] [tI,ac] ⟨50,.any::.box 6 0::.box 7 0::.own 8::aN 21 [.own 8,.con tI,.var tI],cw⟩ [(.exit 0,⟨50,.any::.box 6 0::.box 7 0::.own 8::aN 21 [.own 8,.con tI],cw⟩,[ac])]
def EM (ρ:Type):à ρ:=⟨[1,2,4,1],202,0,EN,fun(p:Val (tyL EN.cs)) (v:Val aJ) a b=>wj p.1 v.1 v.2 (fun c d=>a (c,d)) (b 0)⟩
def Y0:List (Nat×ã):=[(72,jf)]
def Wv (ρ:Type):List (à ρ):=[EM ρ]
def G6 (ρ:Type):Env ρ:=å Y0 (Wv ρ)
def UV:ã:=⟨[Î,aa],[tI],fun(x:Val aX)=>Fl x.1 x.2⟩
def OA:Æ:=Ls 0 [aa,tI,tI,ak] [tI] ⟨37,aN 2 (.box 0 0::aN 16 [.con aa,.con tI,.var tI]),[bL]⟩ [(.ret,⟨37,aN 2 (.box 0 0::.any::.var tI::aN 14 [.con aa,.con tI]),[bL]⟩,[tI]),(.exit 0,⟨37,aN 2 (.box 0 0::aN 16 [.con aa,.con tI]),[bL]⟩,[])]
def Bc (ρ:Type):à ρ:=⟨[],133,0,OA,fun(p:Val (.pair aa aO)) (v:Val tI) b a=>rW p.1 p.2.1 p.2.2.1 p.2.2.2 v (fun c=>b c) (a 0) (a 1)⟩
def VK:List (Nat×ã):=[(126,tv),(127,qX),(196,Q5)]
def RX (ρ:Type):List (à ρ):=[Bc ρ]
def Cm (ρ:Type):Env ρ:=å VK (RX ρ)
def PM:ã:=⟨[Î,ao,tI],[aa],fun(x:Val (.pair Î (.pair ao tI)))=>uP x.1 x.2.1 x.2.2⟩
def yE:Æ:=Ls 0 [ao,tI,tI,tI,ak] [tI,aa] ⟨29,.any::.con ao::.con tI::.box 0 0::aN 3 (.own 1::aN 5 [.con tI,.var tI]),[bL,.rowv tI]⟩ [(.exit 0,⟨29,.any::.con ao::.con tI::.box 0 0::aN 3 (.own 1::aN 5 [.con tI]),[bL,.rowv tI]⟩,[aa])]
def yD (ρ:Type):à ρ:=⟨[],134,0,yE,fun(p:Val (tyL yE.cs)) (v:Val ŋ) a b=>pk p.2.2.1 v.1 v.2 (fun c d=>a (c,d)) (b 0)⟩
def yC:Æ:=Ls 2 [ao,ak,tI,tI,ak,aa,tI,ak,ar,aa] [tI,tI] ⟨140,.any::.con ao::.own 1::.box 2 0::aN 3 (.box 3 0::.own 4::.own 5::.var tI::aN 14 [.con ak,.con tI,.var tI]),[bL,.rowc tI,bL,.cells [.nils],.rowc .bool,.rowc tI]⟩ [(.exit 0,⟨140,.any::.con ao::.own 1::.box 2 0::aN 3 (.box 3 0::.own 4::.own 5::.var tI::aN 14 [.con ak,.con tI]),[bL,.rowc tI,bL,.cells [.nils],.rowc .bool,.rowc tI]⟩,[tI])]
def yB (ρ:Type):à ρ:=⟨[8,3],197,0,yC,fun(p:Val (tyL yC.cs)) (v:Val Ã) a b=>vL p.2.1 p.2.2.1 v.1 v.2 (fun c d=>a (c,d)) (b 0)⟩
def yA:Æ:=Ls 2 [ao,tI,tI,tI,ak,aa,tI,ak,aa] [tI,ar,aa] ⟨140,.any::.con ao::.own 1::.box 2 0::aN 3 (.box 3 0::.own 4::.own 5::.con tI::aN 27 [.con tI,.var tI]),cf⟩ [(.exit 2,⟨140,.any::.con ao::.own 1::.box 2 0::aN 3 (.box 3 0::.own 4::.own 5::.con tI::aN 27 [.con tI]),cf⟩,[ar,aa])]
def yz (ρ:Type):à ρ:=⟨[8,3],197,2,yA,fun(p:Val (tyL yA.cs)) (v:Val (.pair tI aP)) a b=>vK p.2.2.1 p.2.2.2.2.2.1 v.1 v.2.1 v.2.2 (fun c d e=>a (c,d,e)) (b 0)⟩
def yx:Æ:=Ls 2 [ao,tI,tI,ak,tI,tI,ak,tI,ak,aa] [tI,aa,ar,aa] ⟨140,.any::.con ao::.own 1::.box 2 0::aN 3 (.box 3 0::.own 4::.own 5::.con tI::aN 3 (.con tI::aN 62 [.con ak,.con tI,.var tI])),cg⟩ [(.ret,⟨140,.any::.con ao::.own 1::.box 2 0::aN 2 (.var .bool::.box 3 0::.own 4::.own 5::.con tI::aN 3 (.con tI::aN 62 [.con ak,.con tI])),cg⟩,[.bool,aa,ar,aa]),(.exit 6,⟨140,.any::.con ao::.own 1::.box 2 0::aN 3 (.box 3 0::.own 4::.own 5::.con tI::aN 3 (.con tI::aN 62 [.con ak,.con tI])),cg⟩,[aa,ar,aa])]
def yw (ρ:Type):à ρ:=⟨[8,3],197,6,yx,fun(p:Val (tyL yx.cs)) (v:Val (.pair tI (.pair aa aP))) b a=>D8 p.1 p.2.1 p.2.2.1 p.2.2.2.1 p.2.2.2.2.1 v.1 v.2.1 v.2.2.1 v.2.2.2 (fun c d e f=>b (c,d,e,f)) (a 0) (a 1)⟩
def Lz:Æ:=Ls 2 [ao,tI,tI,ak,tI,ak] [aa,ar,aa,aa] ⟨140,[.any,.con ao,.own 1,.box 2 0,.any,.any,.any,.box 3 0,.own 4,.own 5,.con tI],ci⟩ [(.ret,⟨140,[.any,.con ao,.own 1,.box 2 0,.any,.any,.var .bool,.box 3 0,.own 4,.own 5,.con tI],ci⟩,[.bool,aa,ar,aa,aa])]
def yy (ρ:Type):à ρ:=⟨[8,3],197,4,Lz,fun(p:Val (.pair ao bo)) (v:Val aQ) a b=>vJ p.1 p.2.1 p.2.2.2.2.1 p.2.2.2.2.2 v.1 v.2.1 v.2.2.1 v.2.2.2 (fun c d e f=>a (c,d,e,f)) (b 0)⟩
def RW:List (Nat×ã):=[]
def Oy (ρ:Type):List (à ρ):=[yD ρ,yB ρ,yz ρ,yw ρ,yy ρ]
def jq (ρ:Type):Env ρ:=å RW (Oy ρ)
def UW:ã:=⟨[Î],[ab,tI],fun(x:Val Î)=>uQ x⟩
def OC:Æ:=Ls 1 [aa,tI,tI,ak,tI,ak] [tI,aa] ⟨28,.any::.box 1 0::aN 2 (.con aa::.own 2::aN 7 [.con tI,.var tI]),[bL,bL,.rowv tI]⟩ [(.exit 0,⟨28,.any::.box 1 0::aN 2 (.con aa::.own 2::aN 7 [.con tI]),[bL,bL,.rowv tI]⟩,[aa])]
def Bf (ρ:Type):à ρ:=⟨[4,1],237,0,OC,fun(p:Val (.pair aa bo)) (v:Val ŋ) a b=>rY p.2.1 p.2.2.2.2.1 p.2.2.2.2.2 v.1 v.2 (fun c d=>a (c,d)) (b 0)⟩
def OB:Æ:=Ls 0 [aa,tI,aa] [tI,ab] ⟨39,aN 5 (.con aa::.own 0::.own 1::aN 12 [.con tI,.var tI]),[.rowc tI,.rowv Ã]⟩ [(.exit 0,⟨39,aN 5 (.con aa::.own 0::.own 1::aN 12 [.con tI]),[.rowc tI,.rowv Ã]⟩,[ab])]
def Be (ρ:Type):à ρ:=⟨[],185,0,OB,fun(p:Val aY) (v:Val bf) a b=>rX p.1 p.2.1 p.2.2 v.1 v.2 (fun c d=>a (c,d)) (b 0)⟩
def VL:List (Nat×ã):=[(133,UV),(134,PM)]
def RZ (ρ:Type):List (à ρ):=[Bf ρ,Be ρ]
def vM (ρ:Type):Env ρ:=å VL (RZ ρ)
def PK:ã:=⟨[É,Ã],[Ã,tI],fun(x:Val aM)=>zP x.1 x.2⟩
def Rv:List (Nat×ã):=[(66,tB),(68,Kt),(69,Rb),(185,UW)]
def N6 (ρ:Type):List (à ρ):=[]
def HY (ρ:Type):Env ρ:=å Rv (N6 ρ)
def F5:ã:=⟨[Â,tI,tI],[ak,tI],fun(x:Val (.pair Â Ã))=>uO x.1 x.2.1 x.2.2⟩
def yo:Æ:=Ls 0 [tI,tI,aj,tI,tI,tI,ae,ab,af,ac,ab,ai] [tI,aT] ⟨113,.any::.con tI::.con tI::.box 0 0::aN 7 (.omp 1::aN 30 [.con aj,.con tI,.var tI]),[bw,.mapv tI Ã]⟩ [(.ret,⟨113,.any::.con tI::.con tI::.box 0 0::aN 2 (.nils::.var tI::aN 3 (.omp 1::aN 30 [.con aj,.con tI])),[bw,.mapv tI Ã]⟩,[tI,aT]),(.exit 0,⟨113,.any::.con tI::.con tI::.box 0 0::aN 7 (.omp 1::aN 30 [.con aj,.con tI]),[bw,.mapv tI Ã]⟩,[aT])]
def yn (ρ:Type):à ρ:=⟨[],42,0,yo,fun(p:Val (tyL yo.cs)) (v:Val (.pair tI aT)) b a=>let A:=p.2.2.2.2;let B:=A.2.2.2.2;pj p.1 p.2.1 p.2.2.1 p.2.2.2.1 A.1 A.2.1 A.2.2.1 A.2.2.2.1 B.1 B.2.1 B.2.2.1 B.2.2.2 v.1 v.2 (fun c d=>b (c,d)) (a 0) (a 1)⟩
def ym:Æ:=Ls 0 [ae,tI,aT] [tI,ak] ⟨113,aN 11 (.omp 0::aN 7 (.own 1::aN 70 [.con ae,.con tI,.var tI])),[.mapc tI Ã,.rowv ŗ]⟩ [(.exit 2,⟨113,aN 11 (.omp 0::aN 7 (.own 1::aN 70 [.con ae,.con tI])),[.mapc tI Ã,.rowv ŗ]⟩,[ak])]
def yl (ρ:Type):à ρ:=⟨[],42,2,ym,fun(p:Val (tyL ym.cs)) (v:Val Î) a b=>ph p.1 p.2.1 p.2.2 v.1 v.2 (fun c d=>a (c,d)) (b 0)⟩
def RL:List (Nat×ã):=[(80,je),(81,Q3),(88,De),(104,jB),(105,Kl),(106,PK)]
def On (ρ:Type):List (à ρ):=[yn ρ,yl ρ]
def rS (ρ:Type):Env ρ:=å RL (On ρ)
def UQ:ã:=⟨[Â,ag],[.bool],fun(x:Val aI)=>E9 x.1 x.2⟩
def jZ:Tpl:=⟨13,[.any,.any,.box 2 0],[.cells [.con tI,.con tI,.con ae,.con ab,.con af,.con ac,.con ab,.con ai],.dead,.cells [.own 3],.rowv tI]⟩
def nh (ρ:Type):FN ρ:=⟨[7,8,1,1,1,1],298,0,3,[tI,tI,ae,ab,af,ac,ab,ai],[aa],jZ,ER,fun(p:Val ah) (v:Val aa) y a=>xZ v y (fun b=>a b)⟩
def N8:Æ:=Ls 0 [ag,tI,tI,tI,ae,ab,af,ac,ab,ai] [tI] ⟨42,aN 2 (.box 0 0::aN 11 [.con ag,.con tI,.var tI]),[bw]⟩ [(.ret,⟨42,aN 2 (.box 0 0::.any::.var .bool::aN 9 [.con ag,.con tI]),[bw]⟩,[.bool]),(.exit 0,⟨42,aN 2 (.box 0 0::aN 11 [.con ag,.con tI]),[bw]⟩,[])]
def AY (ρ:Type):à ρ:=⟨[],154,0,N8,fun(p:Val (.pair ag aE)) (v:Val tI) b a=>rK p.1 p.2.1 p.2.2.2.2.2.2.2.2.2 v (fun c=>b c) (a 0) (a 1)⟩
def HZ (ρ:Type):List (FN ρ):=[nh ρ]
def Vt:List (Nat×ã):=[(220,UP)]
def DD (ρ:Type):List (à ρ):=[AY ρ]
def Χ (ρ:Type):Env ρ:={å Vt (DD ρ) with ranges:=Ν (HZ ρ)}
def Df:ã:=⟨[Â,ag],[tI],fun(x:Val aI)=>uN x.1 x.2⟩
def Vw:List (Nat×ã):=[(80,je),(154,UQ)]
def RD (ρ:Type):List (à ρ):=[]
def Lf (ρ:Type):Env ρ:=å Vw (RD ρ)
def X7:ã:=⟨[Â,ag,tI,tI],[tI,tI],fun(x:Val bg)=>M6 x.1 x.2.1 x.2.2.1 x.2.2.2⟩
def aca:List (Nat×ã):=[(78,Df),(88,De),(105,Kl)]
def Yr (ρ:Type):List (à ρ):=[]
def Vx (ρ:Type):Env ρ:=å aca (Yr ρ)
def UU:ã:=⟨[Î,tI,tI],[ag],fun(x:Val (.pair Î Ã))=>Fk x.1 x.2.1 x.2.2⟩
def P7:Æ:=Ls 0 [tI,tI,tI,tI,ak] [tI,aa] ⟨45,.any::.con tI::.con tI::.box 0 0::aN 3 (.own 1::aN 7 [.con tI,.var tI]),[bL,.rowv tI]⟩ [(.exit 0,⟨45,.any::.con tI::.con tI::.box 0 0::aN 3 (.own 1::aN 7 [.con tI]),[bL,.rowv tI]⟩,[aa])]
def P6 (ρ:Type):à ρ:=⟨[],128,0,P7,fun(p:Val (tyL P7.cs)) (v:Val ŋ) a b=>zB p.2.2.1 v.1 v.2 (fun c d=>a (c,d)) (b 0)⟩
def P4:Æ:=Ls 4 [aa,tI,ag,tI,ak] [tI,aa] ⟨53,.con aa::.box 1 0::aN 2 (.own 4::aN 7 [.con tI,.var tI]),cz⟩ [(.exit 0,⟨53,.con aa::.box 1 0::aN 2 (.own 4::aN 7 [.con tI]),cz⟩,[aa])]
def P3 (ρ:Type):à ρ:=⟨[12,8],198,0,P4,fun(p:Val (tyL P4.cs)) (v:Val ŋ) a b=>RV p.2.1 v.1 v.2 (fun c d=>a (c,d)) (b 0)⟩
def P2:Æ:=Ls 4 [aa,ak,tI,ag,tI,ak] [tI,aa] ⟨53,.con aa::aN 3 (.own 4::aN 16 [.con ak,.con tI,.var tI]),cz⟩ [(.exit 2,⟨53,.con aa::aN 3 (.own 4::aN 16 [.con ak,.con tI]),cz⟩,[aa])]
def P1 (ρ:Type):à ρ:=⟨[12,8],198,2,P2,fun(p:Val (tyL P2.cs)) (v:Val ŋ) a b=>D7 p.1 p.2.1 p.2.2.1 v.1 v.2 (fun c d=>a (c,d)) (b 0)⟩
def acd:Æ:=Ls 0 [tI,tI,ak] [tI,ag] ⟨45,aN 9 (.own 0::.fn 198 [(1,0)]::aN 18 [.con tI,.var tI]),[.rowv aa,bL]⟩ [(.exit 2,⟨45,aN 9 (.own 0::.fn 198 [(1,0)]::aN 18 [.con tI]),[.rowv aa,bL]⟩,[ag])]
def P5 (ρ:Type):à ρ:=⟨[],128,2,acd,fun(p:Val aO) (v:Val bh) a b=>JF p.1 p.2.1 p.2.2 v.1 v.2 (fun c d=>a (c,d)) (b 0)⟩
def ag5:List (Nat×ã):=[]
def ael (ρ:Type):List (à ρ):=[P6 ρ,P3 ρ,P1 ρ,P5 ρ]
def GD (ρ:Type):Env ρ:=å ag5 (ael ρ)
def UX:ã:=⟨[Î],[aa,tI],fun(x:Val Î)=>ov x⟩
def OG:Æ:=Ls 0 [tI,tI,ak] [tI,aj] ⟨93,.any::.box 0 0::aN 6 (.own 1::aN 24 [.con tI,.var tI]),[bL,.rowv ag]⟩ [(.exit 0,⟨93,.any::.box 0 0::aN 6 (.own 1::aN 24 [.con tI]),[bL,.rowv ag]⟩,[aj])]
def Bo (ρ:Type):à ρ:=⟨[],64,0,OG,fun(p:Val aO) (v:Val aB) a b=>oc p.1 p.2.1 p.2.2 v.1 v.2 (fun c d=>a (c,d)) (b 0)⟩
def Bh:Æ:=Ls 3 [tI,ag,ak,tI,tI,ak,aj,tI,tI,tI,tI,ak] [tI,tI,tI,aa] ⟨73,.any::.var tI::.con tI::.con ag::.fn 129 []::.box 3 0::aN 5 (.own 4::.var tI::aN 7 [.con ak,.con tI,.var tI]),cA⟩ [(.exit 2,⟨73,.any::.var tI::.con tI::.con ag::.fn 129 []::.box 3 0::aN 5 (.own 4::.var tI::aN 7 [.con ak,.con tI]),cA⟩,[tI,tI,aa])]
def Bg (ρ:Type):à ρ:=⟨[22,10],130,2,Bh,fun(p:Val (tyL Bh.cs)) (v:Val (.pair tI aS)) a b=>H5 p.1 p.2.1 p.2.2.1 p.2.2.2.1 v.1 v.2.1 v.2.2.1 v.2.2.2 (fun c d e f=>a (c,d,e,f)) (b 0)⟩
def Bj:Æ:=Ls 3 [ag,tI,ak,aj,tI,tI,tI,tI,ak] [tI,tI,tI,aa] ⟨73,.any::.var tI::.var tI::.con ag::.fn 129 []::.box 3 0::aN 5 [.own 4,.var tI],cA⟩ [(.exit 0,⟨73,aN 3 (.con ag::.fn 129 []::.box 3 0::aN 5 [.own 4]),cA⟩,[aa])]
def Bi (ρ:Type):à ρ:=⟨[22,10],130,0,Bj,fun(p:Val (tyL Bj.cs)) (v:Val (.pair tI aS)) a b=>yF p.1 p.2.2.2.2.2.2.2.2 v.1 v.2.1 v.2.2.1 v.2.2.2 (fun c d e f=>a (c,d,e,f)) (b 0)⟩
def Bl:Æ:=Ls 0 [tI,ak,tI,tI,ak,aj] [tI] ⟨93,.any::.box 0 0::aN 6 (.own 1::.any::.fn 129 []::.con tI::aN 37 [.con ak,.con tI,.var tI]),[bL,.rowc ag]⟩ [(.exit 2,⟨93,.any::.box 0 0::aN 6 (.own 1::.any::.fn 129 []::.con tI::aN 37 [.con ak,.con tI]),[bL,.rowc ag]⟩,[]),(.ret,⟨93,.any::.box 0 0::.own 2::.var tI::aN 4 (.own 1::.any::.fn 129 []::.con tI::aN 37 [.con ak,.con tI]),[bL,.rowc ag,.rowv tI]⟩,[tI,aa]),(.exit 4,⟨93,.any::.box 0 0::aN 6 (.own 1::.any::.fn 129 []::.con tI::aN 37 [.con ak,.con tI]),[bL,.rowc ag]⟩,[])]
def Bk (ρ:Type):à ρ:=⟨[],64,4,Bl,fun(p:Val (tyL Bl.cs)) (v:Val tI) b a=>ob p.1 p.2.1 p.2.2.1 p.2.2.2.1 p.2.2.2.2.1 p.2.2.2.2.2 v (fun c=>b c) (a 0) (a 1) (a 2)⟩
def Bn:Æ:=Ls 0 [tI,ak,aj] [tI] ⟨93,.any::.box 0 0::aN 6 [.own 1,.any,.fn 129 [],.var tI],[bL,.rowc ag]⟩ [(.exit 2,⟨93,.any::.box 0 0::aN 6 [.own 1,.any,.fn 129 []],[bL,.rowc ag]⟩,[]),(.ret,⟨93,.any::.box 0 0::.own 2::.var tI::aN 4 [.own 1,.any,.fn 129 []],[bL,.rowc ag,.rowv tI]⟩,[tI,aa])]
def Bm (ρ:Type):à ρ:=⟨[],64,2,Bn,fun(p:Val (tyL Bn.cs)) (v:Val tI) b a=>rZ p.1 p.2.1 p.2.2 v (fun c=>b c) (a 0) (a 1)⟩
def VO:List (Nat×ã):=[(126,tv),(127,qX),(128,UU)]
def Sc (ρ:Type):List (à ρ):=[Bo ρ,Bg ρ,Bi ρ,Bk ρ,Bm ρ]
def kI (ρ:Type):Env ρ:=å VO (Sc ρ)
def US:ã:=⟨[Â],[ag,tI],fun(x:Val Â)=>Fg x⟩
def Om:Æ:=Ls 0 [aj,tI,tI,tI,ae,ab,af,ac,ab,ai] [tI,ag] ⟨46,.any::.box 0 0::aN 3 (.own 1::aN 13 [.con aj,.con tI,.var tI]),[bw,.rowv aa]⟩ [(.ret,⟨46,.any::.box 0 0::.nils::.var tI::.any::.own 1::aN 13 [.con aj,.con tI],[bw,.rowv aa]⟩,[tI,ag]),(.exit 0,⟨46,.any::.box 0 0::aN 3 (.own 1::aN 13 [.con aj,.con tI]),[bw,.rowv aa]⟩,[ag])]
def A8 (ρ:Type):à ρ:=⟨[],59,0,Om,fun(p:Val (.pair aj aE)) (v:Val bh) b a=>let A:=p.2.2.2.2;rR p.1 p.2.1 p.2.2.1 p.2.2.2.1 A.1 A.2.1 A.2.2.1 A.2.2.2.1 A.2.2.2.2.1 A.2.2.2.2.2 v.1 v.2 (fun c d=>b (c,d)) (a 0) (a 1)⟩
def VA:List (Nat×ã):=[(64,UX),(66,tB),(80,je),(96,zu),(104,jB)]
def RG (ρ:Type):List (à ρ):=[A8 ρ]
def Cj (ρ:Type):Env ρ:=å VA (RG ρ)
def Km:ã:=⟨[Î,aa],[tI],fun(x:Val aX)=>ww x.1 x.2⟩
def I9:Æ:=Ls 1 [aa,tI,tI,ak] [tI] ⟨19,.con aa::.fn 238 [(0,0)]::aN 5 [.con tI,.var tI],[bL]⟩ [(.ret,⟨19,[.con aa,.fn 238 [(0,0)],.any,.any,.var tI,.any,.any,.con tI],[bL]⟩,[tI]),(.exit 0,⟨19,.con aa::.fn 238 [(0,0)]::aN 5 [.con tI],[bL]⟩,[])]
def wO (ρ:Type):à ρ:=⟨[3,2,1,2],260,0,I9,fun(p:Val (.pair aa aO)) (v:Val tI) b a=>nk p.1 p.2.1 p.2.2.2 v (fun c=>b c) (a 0) (a 1)⟩
def Ox:List (Nat×ã):=[]
def Lw (ρ:Type):List (à ρ):=[wO ρ]
def vI (ρ:Type):Env ρ:=å Ox (Lw ρ)
def aas:ã:=⟨[Î,tI,aa],[tI,tI,.bool],fun(x:Val (.pair Î ŋ))=>JQ x.1 x.2.1 x.2.2⟩
def RS:Æ:=Ls 0 [aa,tI,tI,ak] [tI,tI,tI] ⟨37,.any::.var tI::.any::.box 0 0::aN 5 [.var tI,.any,.any,.any,.con aa,.con tI,.var tI],[bL]⟩ [(.ret,⟨37,aN 3 (.box 0 0::aN 2 (.var tI::.var tI::.var .bool::aN 4 [.con aa,.con tI])),[bL]⟩,[tI,tI,.bool]),(.exit 0,⟨37,.any::.var tI::.any::.box 0 0::aN 5 [.var tI,.any,.any,.any,.con aa,.con tI],[bL]⟩,[tI,tI])]
def D0 (ρ:Type):à ρ:=⟨[],189,0,RS,fun(p:Val (.pair aa aO)) (v:Val ŗ) b a=>vH p.1 p.2.1 p.2.2.2 v.1 v.2.1 v.2.2 (fun c d e=>b (c,d,e)) (a 0) (a 1)⟩
def Yz:List (Nat×ã):=[]
def VG (ρ:Type):List (à ρ):=[D0 ρ]
def Gz (ρ:Type):Env ρ:=å Yz (VG ρ)
def AO:ã:=⟨[Î,aa],[tI],fun(x:Val aX)=>nt x.1 x.2⟩
def GH:List (Nat×ã):=[(126,tv),(188,Km),(189,aas)]
def Ef (ρ:Type):List (à ρ):=[]
def wQ (ρ:Type):Env ρ:=å GH (Ef ρ)
def AK:ã:=⟨[Â,ag],[tI],fun(x:Val aI)=>j8 x.1 x.2⟩
def qf:Æ:=Ls 0 [ag,aj,tI,tI,tI,ae,ab,af,ac,ab,ai] [tI] ⟨47,.any::.con ag::.box 0 0::aN 21 [.con aj,.con tI,.var tI],[bw]⟩ [(.ret,⟨47,.any::.con ag::.box 0 0::.any::.var tI::aN 19 [.con aj,.con tI],[bw]⟩,[tI]),(.exit 0,⟨47,.any::.con ag::.box 0 0::aN 21 [.con aj,.con tI],[bw]⟩,[])]
def qe (ρ:Type):à ρ:=⟨[],60,0,qf,fun(p:Val (tyL qf.cs)) (v:Val tI) b a=>let A:=p.2.2.2.2;let B:=A.2.2.2.2;jG p.1 p.2.1 p.2.2.1 p.2.2.2.1 A.1 A.2.1 A.2.2.1 A.2.2.2.1 B.1 B.2.1 B.2.2 v (fun c=>b c) (a 0) (a 1)⟩
def Gv:List (Nat×ã):=[(66,tB),(80,je),(96,zu),(104,jB),(122,AO)]
def DW (ρ:Type):List (à ρ):=[qe ρ]
def oC (ρ:Type):Env ρ:=å Gv (DW ρ)
def HO:ã:=⟨[ac],[Â],fun(x:Val ac)=>ű x⟩
def KM:List (Nat×ã):=[]
def IF (ρ:Type):List (à ρ):=[]
def AU (ρ:Type):Env ρ:=å KM (IF ρ)
def Kk:ã:=⟨[],[.bool],fun(_:Unit)=>Ĝ⟩
def NU:List (Nat×ã):=[(19,adW),(20,UT),(26,HS),(28,Dg),(29,aar),(30,HP),(35,vm),(40,Q4),(42,F5),(49,X7),(59,US),(60,AK),(77,HO)]
def KK (ρ:Type):List (à ρ):=[]
def Dr (ρ:Type):Env ρ:=å NU (KK ρ)
def HQ:ã:=⟨[Â,ag],[.bool,tI],fun(x:Val aI)=>sE x.1 x.2⟩
def Ln:List (Nat×ã):=[(78,Df),(79,nD)]
def I0 (ρ:Type):List (à ρ):=[]
def A9 (ρ:Type):Env ρ:=å Ln (I0 ρ)
def Dh:ã:=⟨[Â,ag],[É,tI],fun(x:Val aI)=>pp x.1 x.2⟩
def IX:List (Nat×ã):=[(78,Df),(104,jB)]
def Gs (ρ:Type):List (à ρ):=[]
def yi (ρ:Type):Env ρ:=å IX (Gs ρ)
def U5:ã:=⟨[É],[ab,tI],fun(x:Val É)=>yZ x⟩
def Wu:List (Nat×ã):=[(72,jf),(136,xI)]
def S7 (ρ:Type):List (à ρ):=[]
def Ms (ρ:Type):Env ρ:=å Wu (S7 ρ)
def UZ:ã:=⟨[É,tI],[Ù,tI],fun(x:Val aU)=>Fo x.1 x.2⟩
def V8:List (Nat×ã):=[(72,jf)]
def Sy (ρ:Type):List (à ρ):=[]
def L2 (ρ:Type):Env ρ:=å V8 (Sy ρ)
def mC:ã:=⟨[aD,aa],[tI],fun(x:Val (.pair aD aa))=>iw x.1 x.2⟩
def xj:Æ:=Ls 0 [aa,tI] [tI] ⟨19,.con aa::.fn 211 []::aN 5 [.con tI,.var tI],[]⟩ [(.ret,⟨19,[.con aa,.fn 211 [],.any,.any,.var tI,.any,.any,.con tI],[]⟩,[tI]),(.exit 0,⟨19,.con aa::.fn 211 []::aN 5 [.con tI],[]⟩,[])]
def mi (ρ:Type):à ρ:=⟨[1,10,1,2],260,0,xj,fun(p:Val ax) (v:Val tI) b a=>ς p.1 p.2 v (fun c=>b c) (a 0) (a 1)⟩
def Az:List (Nat×ã):=[(212,jC)]
def yK (ρ:Type):List (à ρ):=[mi ρ]
def kJ (ρ:Type):Env ρ:=å Az (yK ρ)
def U0:ã:=⟨[É,Ù,Ã],[Ã,tI],fun(x:Val (.pair É (.pair Ù Ã)))=>Fp x.1 x.2.1 x.2.2⟩
def V9:List (Nat×ã):=[(215,F7),(216,Kr),(217,Q7),(218,Ko)]
def SB (ρ:Type):List (à ρ):=[]
def L4 (ρ:Type):Env ρ:=å V9 (SB ρ)
def U4:ã:=⟨[É,tI,aa],[Ã,tI],fun(x:Val (.pair É ŋ))=>uT x.1 x.2.1 x.2.2⟩
def Wt:List (Nat×ã):=[(132,Jz),(145,UZ),(146,mC),(147,xJ),(148,zw),(149,U0)]
def S0 (ρ:Type):List (à ρ):=[]
def Mq (ρ:Type):Env ρ:=å Wt (S0 ρ)
def Ks:ã:=⟨[É,aa],[É,tI],fun(x:Val (.pair É aa))=>wA x.1 x.2⟩
def xa:Æ:=Ls 6 [tI,tI,tI,ae,ab,af,ac,ab,aa,tI,tI,tI,tI,ae,ab,af,ac,ab,tI,tI,tI,tI,ac,tI,tI,ae,ab,af,ab] [tI,ac] ⟨50,.any::.box 6 0::.box 7 0::.own 8::aN 21 [.own 8,.con tI,.var tI],cB⟩ [(.exit 0,⟨50,.any::.box 6 0::.box 7 0::.own 8::aN 21 [.own 8,.con tI],cB⟩,[ac])]
def wZ (ρ:Type):à ρ:=⟨[1,2,4,1],202,0,xa,fun(p:Val (tyL xa.cs)) (v:Val aJ) a b=>nq p.1 v.1 v.2 (fun c d=>a (c,d)) (b 0)⟩
def wY:Æ:=Ls 13 [tI,tI,tI,ae,ab,af,ac,ab,aa,tI,tI,tI,tI,ae,ab,af,ac,ab,tI,tI,tI,tI,tI,tI,tI,tI,ac,ae,ab,af,ab] [tI] ⟨19,.own 8::.fn 152 [(1,0)]::aN 5 [.con tI,.var tI],cD⟩ [(.ret,⟨19,[.own 8,.fn 152 [(1,0)],.any,.any,.var tI,.any,.any,.con tI],cD⟩,[tI]),(.exit 0,⟨19,.own 8::.fn 152 [(1,0)]::aN 5 [.con tI],cD⟩,[])]
def wX (ρ:Type):à ρ:=⟨[1,2,5,1,0,6,1,2],175,0,wY,fun(p:Val (tyL wY.cs)) (v:Val tI) b a=>np p.1 p.2.2.2.2.2.2.2.2.1 p.2.2.2.2.2.2.2.2.2.2.2.2.2.2.2.2.2.2.2.2.2.2.2.2.2.2.1 v (fun c=>b c) (a 0) (a 1)⟩
def wW:Æ:=Ls 13 [tI,tI,ae,ab,af,ac,ab,aa,tI,tI,tI,tI,ae,ab,af,ac,ab,tI,tI,tI,tI,tI,tI,tI,tI,ae,ab,af,ab] [tI,tI,ac] ⟨42,[.own 8,.fn 152 [(1,0)],.any,.any,.any,.var tI,.var tI],cE⟩ [(.exit 0,⟨42,[.own 8,.fn 152 [(1,0)],.any,.any,.any,.var tI],cE⟩,[tI,ac])]
def wV (ρ:Type):à ρ:=⟨[1,2,5,1,0,6],151,0,wW,fun(p:Val (tyL wW.cs)) (v:Val (.pair tI aJ)) a b=>ε p.2.2.2.2.2.2.2.1 v.1 v.2.1 v.2.2 (fun c d e=>a (c,d,e)) (b 0)⟩
def O8:List (Nat×ã):=[(72,jf),(92,Ň)]
def Mo (ρ:Type):List (à ρ):=[wZ ρ,wX ρ,wV ρ]
def lM (ρ:Type):Env ρ:=å O8 (Mo ρ)
def aaq:ã:=⟨[É],[aa],fun(x:Val É)=>JO x⟩
def Ro:Æ:=Ls 0 [tI,tI,ae,ab,af,ac,ab] [tI,aa] ⟨22,[.any,.box 0 0,.any,.own 1,.var tI],[bq,.rowv tI]⟩ [(.exit 0,⟨22,[.any,.box 0 0,.any,.own 1],[bq,.rowv tI]⟩,[aa])]
def Ds (ρ:Type):à ρ:=⟨[],75,0,Ro,fun(p:Val aq) (v:Val ŋ) a b=>BU p.2.2.2.2.2.1 v.1 v.2 (fun c d=>a (c,d)) (b 0)⟩
def Yi:List (Nat×ã):=[]
def Vm (ρ:Type):List (à ρ):=[Ds ρ]
def Gc (ρ:Type):Env ρ:=å Yi (Vm ρ)
def aat:ã:=⟨[Î,aa],[.bool,tI],fun(x:Val aX)=>JR x.1 x.2⟩
def Sa:Æ:=Ls 1 [aa,tI,tI,ak] [tI] ⟨19,.con aa::.fn 266 []::aN 5 [.con tI,.var tI],[bL]⟩ [(.ret,⟨19,[.con aa,.fn 266 [],.any,.any,.var tI,.any,.any,.con tI],[bL]⟩,[tI]),(.exit 0,⟨19,.con aa::.fn 266 []::aN 5 [.con tI],[bL]⟩,[])]
def Eb (ρ:Type):à ρ:=⟨[4,7,1,2],260,0,Sa,fun(p:Val (.pair aa aO)) (v:Val tI) b a=>vN p.1 p.2.1 v (fun c=>b c) (a 0) (a 1)⟩
def Ea:Æ:=Ls 0 [aa,ak,tI] [tI] ⟨53,.any::.con aa::aN 26 [.con ak,.con tI,.var tI],[]⟩ [(.ret,⟨53,.any::.con aa::aN 2 (.var .bool::.var tI::aN 22 [.con ak,.con tI]),[]⟩,[.bool,tI]),(.exit 0,⟨53,.any::.con aa::aN 26 [.con ak,.con tI],[]⟩,[])]
def D9 (ρ:Type):à ρ:=⟨[],219,0,Ea,fun(p:Val (tyL Ea.cs)) (v:Val tI) b a=>mO p.1 p.2.1 p.2.2 v (fun c=>b c) (a 0) (a 1)⟩
def YF:List (Nat×ã):=[(126,tv)]
def VM (ρ:Type):List (à ρ):=[Eb ρ,D9 ρ]
def zD (ρ:Type):Env ρ:=å YF (VM ρ)
def AQ:ã:=⟨[aD,aa],[.bool],fun(x:Val (.pair aD aa))=>nu x.1 x.2⟩
def GR:List (Nat×ã):=[(219,aat)]
def Eo (ρ:Type):List (à ρ):=[]
def wU (ρ:Type):Env ρ:=å GR (Eo ρ)
def aaw:ã:=⟨[É,aa],[.bool,tI],fun(x:Val (.pair É aa))=>JS x.1 x.2⟩
def Y3:List (Nat×ã):=[(72,jf),(132,Jz),(146,mC),(153,AQ)]
def Wy (ρ:Type):List (à ρ):=[]
def Qb (ρ:Type):Env ρ:=å Y3 (Wy ρ)
def oY:ã:=⟨[Â,tI,aa,tI,tI],[.bool],fun(x:Val (.pair Â (.pair tI (.pair aa Ã))))=>wu x.1 x.2.1 x.2.2.1 x.2.2.2.1 x.2.2.2.2⟩
def ru:Æ:=Ls 0 [aa,tI,tI,ag,ab,tI,tI,ae,ab,af,ac,ab,ai,tI,tI,ae,ab,af,ac,ab] [tI] ⟨301,aN 2 (.con aa::.con tI::.con tI::.box 0 0::aN 7 [.con ag,.box 1 0,.any,.con ab,.any,.any,.any,.var tI]),[bw,bq]⟩ [(.ret,⟨301,aN 2 (.con aa::.con tI::.con tI::.box 0 0::aN 4 [.var .bool,.any,.any,.con ag,.box 1 0,.any,.con ab]),[bw,bq]⟩,[.bool]),(.exit 0,⟨301,aN 2 (.con aa::.con tI::.con tI::.box 0 0::aN 7 [.con ag,.box 1 0,.any,.con ab]),[bw,bq]⟩,[])]
def rt (ρ:Type):à ρ:=⟨[],14,0,ru,fun(p:Val (tyL ru.cs)) (v:Val tI) b a=>let A:=p.2.2.2.2.2.2.2.2.2.2.2.2.2;let B:=A.2.2.2.2;kp p.1 A.1 A.2.1 A.2.2.1 A.2.2.2.1 B.1 B.2.1 B.2.2 v (fun c=>b c) (a 0) (a 1)⟩
def rr:Æ:=Ls 0 [aa,tI,tI,ag,ab,tI,tI,ae,ab,af,ac,ab,ai] [tI,tI,tI,ae,ab,af,ac,ab] ⟨301,aN 2 (.con aa::.con tI::.con tI::.box 0 0::aN 7 (.con ag::aN 2 (.con ab::aN 6 [.box 1 0,.any,.var tI]))),[bw,bY]⟩ [(.ret,⟨301,aN 2 (.con aa::.con tI::.con tI::.box 0 0::aN 4 (.var .bool::aN 2 (.con ag::aN 2 (.con ab::aN 6 [.box 1 0])))),[bw,bY]⟩,[.bool,tI,tI,ae,ab,af,ac,ab]),(.exit 2,⟨301,aN 2 (.con aa::.con tI::.con tI::.box 0 0::aN 7 (.con ag::aN 2 (.con ab::aN 6 [.box 1 0]))),[bw,bY]⟩,[tI,tI,ae,ab,af,ac,ab])]
def rq (ρ:Type):à ρ:=⟨[],14,2,rr,fun(p:Val (tyL rr.cs)) (v:Val (.pair tI aq)) b a=>iQ p.2.2.2.2.1 v.1 v.2.1 v.2.2.1 v.2.2.2.1 v.2.2.2.2.1 v.2.2.2.2.2.1 v.2.2.2.2.2.2.1 v.2.2.2.2.2.2.2 (fun c d e f g h i j=>b (c,d,e,f,g,h,i,j)) (a 0) (a 1)⟩
def rk:Æ:=Ls 0 [aa,tI,ab,ak,tI,tI] [tI] ⟨301,aN 2 (.con aa::.any::.con tI::aN 11 (.con ab::aN 17 [.con ak,.any,.con tI,.any,.con tI,.var tI])),[]⟩ [(.ret,⟨301,aN 2 (.con aa::.any::.con tI::aN 5 (.var .bool::aN 5 (.con ab::aN 17 [.con ak,.any,.con tI,.any,.con tI]))),[]⟩,[.bool]),(.exit 6,⟨301,aN 2 (.con aa::.any::.con tI::aN 11 (.con ab::aN 17 [.con ak,.any,.con tI,.any,.con tI])),[]⟩,[])]
def rj (ρ:Type):à ρ:=⟨[],14,6,rk,fun(p:Val (tyL rk.cs)) (v:Val tI) b a=>km p.1 p.2.1 p.2.2.1 p.2.2.2.1 p.2.2.2.2.1 p.2.2.2.2.2 v (fun c=>b c) (a 0) (a 1)⟩
def ro:Æ:=Ls 0 [aa,tI,ab,ak,tI] [tI] ⟨301,aN 2 (.con aa::.any::.con tI::aN 11 (.con ab::aN 17 [.con ak,.any,.con tI,.any,.var tI])),[]⟩ [(.ret,⟨301,aN 2 (.con aa::.any::.con tI::aN 5 (.var .bool::aN 5 (.con ab::aN 17 [.con ak,.any,.con tI]))),[]⟩,[.bool]),(.exit 4,⟨301,aN 2 (.con aa::.any::.con tI::aN 11 (.con ab::aN 17 [.con ak,.any,.con tI])),[]⟩,[])]
def rl (ρ:Type):à ρ:=⟨[],14,4,ro,fun(p:Val (tyL ro.cs)) (v:Val tI) b a=>iP p.1 p.2.1 p.2.2.1 p.2.2.2.1 p.2.2.2.2 v (fun c=>b c) (a 0) (a 1)⟩
def IH:List (Nat×ã):=[(15,PI),(17,Kk),(18,HQ),(40,Q4),(41,Dh),(42,F5),(49,X7),(68,Kt),(69,Rb),(71,U5),(72,jf),(73,U4),(74,Ks),(75,aaq),(76,aaw)]
def Gd (ρ:Type):List (à ρ):=[rt ρ,rq ρ,rj ρ,rl ρ]
def ψ (ρ:Type):Env ρ:=å IH (Gd ρ)
end Go.Proofs.ZzM
end
