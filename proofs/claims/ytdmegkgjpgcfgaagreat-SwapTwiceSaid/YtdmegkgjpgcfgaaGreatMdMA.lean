/- lemmas -/
import Derived.Test.YtdmegkgjpgcfgaaGreatAmC
import Derived.Test.YtdmegkgjpgcfgaaGreatAmE
import Derived.KernelRfl
import Derived.Test.YtdmegkgjpgcfgaaGreatMdTA
import Derived.Test.YtdmegkgjpgcfgaaGreatProg
set_option linter.all false
set_option linter.unusedSectionVars false
set_option linter.unusedVariables false
set_option linter.unusedSimpArgs false
noncomputable section
set_option maxRecDepth 100000
namespace Go.Proofs.ZzM
open Go Go.Am
def Lb:Nat→Bool
  |114=>true
  |115=>true
  |140=>true
  |170=>true
  |182=>true
  |250=>true
  |251=>true
  |252=>true
  |_=>false
def UA:Nat→Bool
  |184=>true
  |_=>false
def ya:Nat→Bool
  |249=>true
  |_=>false
def isInl:Nat→Bool
  |2=>true
  |89=>true
  |90=>true
  |94=>true
  |95=>true
  |96=>true
  |97=>true
  |99=>true
  |100=>true
  |101=>true
  |107=>true
  |108=>true
  |129=>true
  |130=>true
  |137=>true
  |138=>true
  |144=>true
  |150=>true
  |151=>true
  |152=>true
  |157=>true
  |158=>true
  |159=>true
  |167=>true
  |168=>true
  |169=>true
  |171=>true
  |174=>true
  |175=>true
  |176=>true
  |177=>true
  |178=>true
  |186=>true
  |197=>true
  |198=>true
  |200=>true
  |202=>true
  |207=>true
  |210=>true
  |211=>true
  |213=>true
  |214=>true
  |221=>true
  |222=>true
  |223=>true
  |224=>true
  |225=>true
  |229=>true
  |230=>true
  |232=>true
  |235=>true
  |237=>true
  |238=>true
  |244=>true
  |245=>true
  |246=>true
  |254=>true
  |255=>true
  |256=>true
  |257=>true
  |258=>true
  |260=>true
  |266=>true
  |267=>true
  |275=>true
  |276=>true
  |277=>true
  |278=>true
  |279=>true
  |280=>true
  |282=>true
  |283=>true
  |293=>true
  |294=>true
  |295=>true
  |298=>true
  |299=>true
  |301=>true
  |302=>true
  |304=>true
  |305=>true
  |310=>true
  |311=>true
  |314=>true
  |315=>true
  |317=>true
  |318=>true
  |321=>true
  |322=>true
  |_=>false
def isFz:Nat→Bool
  |74=>true
  |93=>true
  |_=>false
def isEat:Nat→Nat→Bool
  |104,2=>true
  |104,3=>true
  |174,25=>true
  |245,0=>true
  |_,_=>false
def af7:List Nat→Nat→Bool
  |_,_=>false
abbrev ŭ {ρ:Type} (E:Env ρ) (f:Nat) (ts rs:List Ty) (x:Val (tyL ts)) (k:Val (tyL rs)→Option ρ):Option ρ:=topK E f (W9 ts x) (fun h v=>Ä (agR rs h v) k)
abbrev Ls (p:Nat) (c v:List Ty) (h:Tpl) (e:List (Exit×Tpl×List Ty)):Å:=⟨p,c,v,h,e,false⟩
def ê {ρ:Type} (pt:List (Nat×ã)) (tab:List (à ρ)):Env ρ :=
  {P:=Tryz.prog,eat:=isEat,clone:=Lb,sort:=UA,compact:=ya,inl:=isInl,fz:=isFz,stop:=af7,pure:=aag pt,loops:=j6 tab}
def Ys {ρ:Type} (pt:List (Nat×ã)) (tab:List (à ρ)) (xt:List (Nat×Zj)):Env ρ:={ê pt tab with ext:=extT xt}
def mkEnvU {ρ:Type} (pt:List (Nat×ã)) (tab:List (à ρ)) (us:List afJ):Env ρ :=
  {P:=Tryz.prog,eat:=isEat,clone:=Lb,sort:=UA,compact:=ya,inl:=isInl,fz:=isFz,stop:=af7,pure:=aag pt,loops:=Yu (ê pt tab) us}
abbrev bp:jE:=.cells [.con ab]
abbrev bq:jE:=.cells [.con tI,.con tI,.con ae,.con aa,.con af,.con ac,.con aa]
abbrev br:jE:=.cells [.con tI,.con tI,.con tI,.con tI,.con tI,.con tI,.con tI,.con tI]
abbrev bt:jE:=.cells [.con tI,.con tI,.con tI,.con tI]
abbrev bu:jE:=.cells [.con tI]
abbrev bv:jE:=.cells [.con tI,.con tI,.con ab,.con ab,.con tI,.con tI,.con tI,.con tI]
abbrev bw:jE:=.cells [.con tI,.con tI,.con ae,.con aa,.con af,.con ac,.con aa,.con ai]
abbrev bz:jE:=.cells [.con tI,.con ab]
abbrev bB:jE:=.cells [.omp 3]
abbrev bC:jE:=.cells [.con tI,.con tI]
abbrev bD:jE:=.cells [.con tI,.con tI,.con ae,.con aa,.con af,.con ac,.con aa,.con aa,.con tI,.own 3,.own 4]
abbrev bE:jE:=.cells [.con tI,.con tI,.con ae,.con aa,.con af,.con ac,.con aa,.con aa,.con tI,.own 2,.own 3]
abbrev bG:jE:=.cells [.con tI,.con tI,.nils,.nils,.nils,.nils,.nils]
abbrev bH:jE:=.cells [.con tI,.con tI,.own 3,.own 4,.nils,.nils,.nils]
abbrev bI:jE:=.cells [.con tI,.con tI,.own 3,.own 4,.own 5,.nils,.nils]
abbrev bJ:jE:=.cells [.con tI,.con tI,.own 3,.own 4,.own 5,.own 6,.nils]
abbrev bK:jE:=.cells [.con tI,.con tI,.own 2,.own 3,.own 4,.own 5,.own 6]
abbrev bL:jE:=.cells [.con tI,.con ak]
abbrev bM:jE:=.cells [.own 6]
abbrev bN:jE:=.cells [.var tI,.var tI,.var ae,.var aa,.var af,.var ac,.var aa,.var ai]
abbrev bO:jE:=.cells [.con ai]
abbrev bP:jE:=.cells [.own 4]
abbrev bQ:jE:=.cells [.fn 90 [(1,0)]]
abbrev bR:jE:=.cells [.con tI,.con tI,.nils,.nils,.nils,.nils,.nils,.nils]
abbrev bS:jE:=.cells [.fn 167 [(1,0)]]
abbrev bT:jE:=.cells [.fn 97 [(0,0),(1,0)]]
abbrev bU:jE:=.cells [.fn 97 [(3,0),(0,0)]]
abbrev bV:jE:=.cells [.con tI,.con tI,.own 9,.own 10,.own 11,.con ac,.own 12]
abbrev bW:jE:=.cells [.con tI,.con tI,.con tI]
abbrev bX:jE:=.cells [.con tI,.con tI,.own 9,.own 10,.own 11,.own 8,.own 12]
abbrev bY:jE:=.cells [.con tI,.con tI,.con ae,.con aa,.con af,.con ac,.con aa,.own 3]
abbrev bZ:List jE:=[.rowv tI]
abbrev b7:List jE:=[bq,bv,.rowc tI]
abbrev b8:List jE:=[bq,bz,bB,.mapc tI tI]
abbrev b9:List jE:=[bq,bE,.rowv ŕ,.rowv Ã]
abbrev ca:List jE:=[bG,bq,bI,.rowc Ö,.rowc Ã,.rowv ic]
abbrev cd:List jE:=[bG,bq,bJ,.rowc Ö,.rowc Ã,.rowc ic,.rowv â]
abbrev ce:List jE:=[bG,bK,.rowc Ö,.rowc Ã,.rowc ic,.rowc â,.rowv Ã]
abbrev cf:List jE:=[bL,.rowc tI,bL,bM,.rowv .bool,.rowc tI,.rowv tI]
abbrev cg:List jE:=[bL,.rowv tI,bL,bM,.rowv .bool,.rowc tI,.rowv tI]
abbrev ci:List jE:=[bL,.rowv tI,bL,bM,.rowv .bool,.rowv tI,.rowv tI]
abbrev cj:List jE:=[.rowv aj,bw]
abbrev cm:List jE:=[.rowc aj,bw]
abbrev cn:List jE:=[.rowv aj,bN]
abbrev cp:List jE:=[bw,bu,bw,bQ,bR,.rowc â]
abbrev cq:List jE:=[bw,bp,bR,bw,bS,bR,.rowc â]
abbrev cr:List jE:=[bp,bU,.rowc tI,bw]
abbrev cu:List jE:=[bp,bU,.rowv tI,bw]
abbrev cw:List jE:=[bq,bC,bG,bq,bG,.dead,bV,bG,.rowv â,.rowc Ö,.rowc Ã,.rowc ic,.rowc Ã]
abbrev cz:List jE:=[.rowc ab,bL,.dead,.dead,.rowv tI]
abbrev cA:List jE:=[bL,.rowc aj,bW,bL,.rowv tI]
abbrev cB:List jE:=[bq,bp,bG,bq,bG,.dead,bV,bG,.rowv â,.rowc Ö,.rowc Ã,.rowc ic,.rowc Ã]
abbrev cD:List jE:=[bq,bp,bG,bq,bG,bX,bX,bX,.rowc â,.rowc Ö,.rowc Ã,.rowc ic,.rowc Ã]
abbrev cE:List jE:=[bq,bp,bG,bq,bG,bX,bX,bX,.rowv â,.rowc Ö,.rowc Ã,.rowc ic,.rowc Ã]
abbrev cF:List jE:=[bw,bz]
def iM:ã:=⟨[aj],[ab],fun(x:Val aj)=>ħ x⟩
def kZ:Å:=Ls 0 [aj,aj,tI] [tI,tI] ⟨36,.con aj::aN 2 (.var tI::aN 5 [.con aj,.con tI,.var tI]),[]⟩ [(.exit 0,⟨36,.con aj::aN 2 (.var tI::aN 5 [.con aj,.con tI]),[]⟩,[tI])]
def kY (ρ:Type):à ρ:=⟨[],93,0,kZ,fun(p:Val (tyL kZ.cs)) (v:Val Ã) a b=>Κ p.2.1 p.2.2 v.1 v.2 (fun c d=>a (c,d)) (b 0)⟩
def uL:Å:=Ls 0 [aj,tI] [tI,ab] ⟨36,aN 6 (.own 0::aN 18 [.con aj,.con tI,.var tI]),bZ⟩ [(.exit 2,⟨36,aN 6 (.own 0::aN 18 [.con aj,.con tI]),bZ⟩,[ab])]
def kX (ρ:Type):à ρ:=⟨[],93,2,uL,fun(p:Val (.pair aj tI)) (v:Val Ī) a b=>Ğ p.1 p.2 v.1 v.2 (fun c d=>a (c,d)) (b 0)⟩
def xz:List (Nat×ã):=[]
def wo (ρ:Type):List (à ρ):=[kY ρ,kX ρ]
def η (ρ:Type):Env ρ:=ê xz (wo ρ)
def K8:ago:=⟨272,ab,ab,yP⟩
def ξ:Tpl:=⟨37,.any::.box 1 0::.box 2 0::.any::.box 3 0::aN 6 [.con ab,.con tI,.con tI],[.acc ab,.cells [.con ab],.cells [.yld],.cells [.con tI]]⟩
def jk (al:Val aj) (rec:Val ab→Option ((Val aj))) (ρ:Type):EJ ρ:=⟨[],272,2,4,[ab,tI,tI,ab,tI],[aj],ξ,⟨272,ab,ab,rec⟩,fun(p:Val aS) (v:Val aj) y a=>pr al rec p.2.2.2.2 v y (fun b=>a b)⟩
def Ů:Å:=Ls 2 [ab,tI,ab] [tI,aj] ⟨37,.any::.box 1 0::.box 2 0::aN 8 [.con ab,.con tI,.var tI],[.acc ab,bp,.cells [.yld]]⟩ [(.exit 0,⟨37,.any::.box 1 0::.box 2 0::aN 8 [.con ab,.con tI],[.acc ab,bp,.cells [.yld]]⟩,[aj])]
def me (al:Val aj) (rec:Val ab→Option ((Val aj))) (ρ:Type):à ρ:=⟨[],272,0,Ů,fun(p:Val aV) (v:Val bg) a b=>pu al rec p.1 p.2.1 p.2.2 v.1 v.2 (fun c d=>a (c,d)) (b 0)⟩
def xe (al:Val aj) (rec:Val ab→Option ((Val aj))) (ρ:Type):List (EJ ρ):=[jk al rec ρ]
def JB:List (Nat×ã):=[(93,iM)]
def vP (al:Val aj) (rec:Val ab→Option ((Val aj))) (ρ:Type):List (à ρ):=[me al rec ρ]
def þ (al:Val aj) (rec:Val ab→Option ((Val aj))) (ρ:Type):Env ρ:={ê JB (vP al rec ρ) with ranges:=Η (xe al rec ρ),yld:=some ⟨ab,al⟩}
def pR:ago:=⟨231,ai,aj,mz⟩
def ų:Tpl:=⟨27,.any::.box 1 0::.box 2 0::.box 3 0::aN 11 [.con ab],[.acc aj,.cells [.con ai],.cells [.yld],.cells [.con ab]]⟩
def iq (al:Val ag) (rec:Val ai→Option ((Val ag))) (ρ:Type):EJ ρ:=⟨[],231,2,4,[ab,ai,ab],[ag],ų,⟨231,ai,aj,rec⟩,fun(p:Val bi) (v:Val ag) y a=>mh al rec p.2.2 v y (fun b=>a b)⟩
def Ŵ:Tpl:=⟨27,[.any,.box 1 0,.box 2 0],[.acc aj,.cells [.con ai],.cells [.yld]]⟩
def ir (al:Val ag) (rec:Val ai→Option ((Val ag))) (ρ:Type):EJ ρ:=⟨[],231,0,3,[ai],[ag],Ŵ,K8,fun(p:Val ai) (v:Val ag) y a=>mi al rec p v y (fun b=>a b)⟩
def sI (al:Val ag) (rec:Val ai→Option ((Val ag))) (ρ:Type):List (EJ ρ):=[iq al rec ρ,ir al rec ρ]
def Fk:List (Nat×ã):=[]
def qO (al:Val ag) (rec:Val ai→Option ((Val ag))) (ρ:Type):List (à ρ):=[]
def ç (al:Val ag) (rec:Val ai→Option ((Val ag))) (ρ:Type):Env ρ:={ê Fk (qO al rec ρ) with ranges:=Η (sI al rec ρ),yld:=some ⟨aj,al⟩}
def D3:ago:=⟨268,ab,tI,yO⟩
def ē:Å:=Ls 2 [ab,tI,ab] [tI,ab] ⟨16,.yld::aN 4 [.con ab,.con tI,.var tI],[.acc tI,bp]⟩ [(.exit 0,⟨16,.yld::aN 4 [.con ab,.con tI],[.acc tI,bp]⟩,[ab])]
def Ρ (al:Val ab) (rec:Val ab→Option ((Val ab))) (ρ:Type):à ρ:=⟨[],268,0,ē,fun(p:Val aV) (v:Val Ī) a b=>iu al rec p.1 p.2.1 v.1 v.2 (fun c d=>a (c,d)) (b 0)⟩
def uI:List (Nat×ã):=[]
def td (al:Val ab) (rec:Val ab→Option ((Val ab))) (ρ:Type):List (à ρ):=[Ρ al rec ρ]
def ć (al:Val ab) (rec:Val ab→Option ((Val ab))) (ρ:Type):Env ρ:={ê uI (td al rec ρ) with yld:=some ⟨tI,al⟩}
def l8:ã:=⟨[ab,tI],[tI],fun(x:Val ay)=>g8 x.1 x.2⟩
def wn:Å:=Ls 0 [ab,tI,tI] [tI] ⟨19,.con ab::.con tI::aN 5 [.con tI,.var tI],[]⟩ [(.ret,⟨19,[.con ab,.con tI,.any,.any,.var tI,.any,.any,.con tI],[]⟩,[tI]),(.exit 0,⟨19,.con ab::.con tI::aN 5 [.con tI],[]⟩,[])]
def lS (ρ:Type):à ρ:=⟨[],173,0,wn,fun(p:Val (.pair ab Ã)) (v:Val tI) b a=>ζ p.1 p.2.1 p.2.2 v (fun c=>b c) (a 0) (a 1)⟩
def zF:List (Nat×ã):=[]
def xx (ρ:Type):List (à ρ):=[lS ρ]
def kd (ρ:Type):Env ρ:=ê zF (xx ρ)
def Ņ:ã:=⟨[ab,tI],[.bool],fun(x:Val ay)=>Û x.1 x.2⟩
def uK:List (Nat×ã):=[(173,l8)]
def tg (ρ:Type):List (à ρ):=[]
def lT (ρ:Type):Env ρ:=ê uK (tg ρ)
def PE:ã:=⟨[É,Ö],[ab],fun(x:Val (.pair É Ö))=>oG x.1 x.2⟩
def QY:Å:=Ls 0 [ac,tI,tI,tI,ae,aa,af,ac,aa,tI,tI,tI,tI,tI,tI,tI,tI] [tI,ab] ⟨59,aN 2 (.box 0 0::.box 1 0::.any::.own 2::aN 8 [.con ac,.con tI,.var tI]),[bq,br,.rowv tI]⟩ [(.exit 0,⟨59,aN 2 (.box 0 0::.box 1 0::.any::.own 2::aN 8 [.con ac,.con tI]),[bq,br,.rowv tI]⟩,[ab])]
def DS (ρ:Type):à ρ:=⟨[],201,0,QY,fun(p:Val (.pair ac aI)) (v:Val Ī) a b=>vk p.1 p.2.1 p.2.2.2.2.2.2.2.2.2.1 v.1 v.2 (fun c d=>a (c,d)) (b 0)⟩
def DR:Å:=Ls 0 [aa,tI,tI,tI,tI,tI,tI,tI,tI,tI] [tI,ab] ⟨59,aN 3 (.box 0 0::.any::.own 1::aN 32 [.con aa,.con tI,.var tI]),[br,.rowv tI]⟩ [(.exit 2,⟨59,aN 3 (.box 0 0::.any::.own 1::aN 32 [.con aa,.con tI]),[br,.rowv tI]⟩,[ab])]
def DQ (ρ:Type):à ρ:=⟨[],201,2,DR,fun(p:Val (tyL DR.cs)) (v:Val Ī) a b=>vh p.1 p.2.1 p.2.2.1 v.1 v.2 (fun c d=>a (c,d)) (b 0)⟩
def WN:List (Nat×ã):=[(92,Ņ)]
def Ui (ρ:Type):List (à ρ):=[DS ρ,DQ ρ]
def yL (ρ:Type):Env ρ:=ê WN (Ui ρ)
def Cx:ã:=⟨[É],[aa],fun(x:Val É)=>pV x⟩
def AG:Å:=Ls 0 [ae,tI,tI,ab,tI,tI,tI,ae,aa,af,ac,aa,tI,tI,tI,tI,tI,tI,tI,tI] [tI,aa] ⟨33,.any::.box 0 0::.any::.own 1::.any::.box 2 0::aN 3 (.con ae::.con tI::.con tI::aN 5 [.con ab,.con tI,.var tI]),[bq,.rowv Ã,br]⟩ [(.exit 2,⟨33,.any::.box 0 0::.any::.own 1::.any::.box 2 0::aN 3 (.con ae::.con tI::.con tI::aN 5 [.con ab,.con tI]),[bq,.rowv Ã,br]⟩,[aa])]
def AF (ρ:Type):à ρ:=⟨[],136,2,AG,fun(p:Val (tyL AG.cs)) (v:Val bc) a b=>rj p.2.2.2.1 p.2.2.2.2.1 p.2.2.2.2.2.2.2.2.2.2.2.2.1 v.1 v.2 (fun c d=>a (c,d)) (b 0)⟩
def AI:Å:=Ls 0 [ae,tI,tI,tI,ae,aa,af,ac,aa] [tI,aa] ⟨33,.any::.box 0 0::.any::.own 1::aN 5 [.con ae,.con tI,.var tI],[bq,.rowv Ã]⟩ [(.exit 0,⟨33,.any::.box 0 0::.any::.own 1::aN 5 [.con ae,.con tI],[bq,.rowv Ã]⟩,[aa])]
def AH (ρ:Type):à ρ:=⟨[],136,0,AI,fun(p:Val (tyL AI.cs)) (v:Val bc) a b=>let A:=p.2.2.2.2;rk p.1 p.2.1 p.2.2.1 p.2.2.2.1 A.1 A.2.1 A.2.2.1 A.2.2.2.1 A.2.2.2.2 v.1 v.2 (fun c d=>a (c,d)) (b 0)⟩
def T9:List (Nat×ã):=[(201,PE)]
def QL (ρ:Type):List (à ρ):=[AF ρ,AH ρ]
def uX (ρ:Type):Env ρ:=ê T9 (QL ρ)
def sv:ã:=⟨[Ã,tI,tI],[.bool],fun(x:Val ĕ)=>Ζ x.1 x.2.1 x.2.2⟩
def QU:List (Nat×ã):=[]
def Nw (ρ:Type):List (à ρ):=[]
def G0 (ρ:Type):Env ρ:=ê QU (Nw ρ)
def ki:ã:=⟨[tI,tI,tI],[.bool],fun(x:Val ŕ)=>Ě x.1 x.2.1 x.2.2⟩
def QJ:List (Nat×ã):=[]
def Nh (ρ:Type):List (à ρ):=[]
def GZ (ρ:Type):Env ρ:=ê QJ (Nh ρ)
def wQ:ã:=⟨[tI],[.bool],fun(x:Val tI)=>lB x⟩
def Ug:List (Nat×ã):=[(212,ki)]
def QS (ρ:Type):List (à ρ):=[]
def KO (ρ:Type):Env ρ:=ê Ug (QS ρ)
def PD:ã:=⟨[tI],[(.int .u64)],fun(x:Val tI)=>rI x⟩
def Wt:List (Nat×ã):=[]
def TV (ρ:Type):List (à ρ):=[]
def OE (ρ:Type):Env ρ:=ê Wt (TV ρ)
def VP:ã:=⟨[(.int .u64),(.int .u64)],[(.int .u64)],fun(x:Val bj)=>Lz x.1 x.2⟩
def TX:Å:=Ls 0 [] [(.int .u64),(.int .u64)] ⟨12,[.var (.int .u64),.var (.int .u64)],[]⟩ [(.exit 0,⟨12,[.var (.int .u64)],[]⟩,[(.int .u64)])]
def GV (ρ:Type):à ρ:=⟨[],292,0,TX,fun(p:Unit) (v:Val bj) a b=>yI v.1 v.2 (fun c d=>a (c,d)) (b 0)⟩
def Z0:List (Nat×ã):=[]
def Wu (ρ:Type):List (à ρ):=[GV ρ]
def Kt (ρ:Type):Env ρ:=ê Z0 (Wu ρ)
def Cu:ã:=⟨[Ã],[.bool],fun(x:Val Ã)=>tU x⟩
def T0:List (Nat×ã):=[(291,PD),(292,VP)]
def QD (ρ:Type):List (à ρ):=[]
def Kw (ρ:Type):Env ρ:=ê T0 (QD ρ)
def Je:ã:=⟨[Ö],[.bool],fun(x:Val Ö)=>vz x⟩
def Nv:List (Nat×ã):=[(141,sv),(205,wQ),(212,ki),(253,Cu)]
def KM (ρ:Type):List (à ρ):=[]
def DP (ρ:Type):Env ρ:=ê Nv (KM ρ)
def wR:ã:=⟨[É],[tI],fun(x:Val É)=>ź x⟩
def oj:Å:=Ls 0 [ae,tI,tI,tI,ae,aa,af,ac,aa] [tI] ⟨31,.any::.box 0 0::aN 4 [.con ae,.con tI,.var tI],[bq]⟩ [(.ret,⟨31,[.any,.box 0 0,.var tI,.any,.any,.any,.con ae,.con tI],[bq]⟩,[tI]),(.exit 0,⟨31,.any::.box 0 0::aN 4 [.con ae,.con tI],[bq]⟩,[])]
def oi (ρ:Type):à ρ:=⟨[],142,0,oj,fun(p:Val (tyL oj.cs)) (v:Val tI) b a=>iP p.1 p.2.1 p.2.2.2.2.1 v (fun c=>b c) (a 0) (a 1)⟩
def DT:List (Nat×ã):=[(203,Je)]
def BP (ρ:Type):List (à ρ):=[oi ρ]
def mr (ρ:Type):Env ρ:=ê DT (BP ρ)
def ur:ã:=⟨[É],[am],fun(x:Val É)=>Ł x⟩
def HW:Å:=Ls 0 [ae,tI] [tI,am] ⟨20,aN 3 (.omp 0::aN 4 [.con ae,.con tI,.var tI]),[.mapv tI Ö]⟩ [(.exit 0,⟨20,aN 3 (.omp 0::aN 4 [.con ae,.con tI]),[.mapv tI Ö]⟩,[am])]
def vU (ρ:Type):à ρ:=⟨[],143,0,HW,fun(p:Val (.pair ae tI)) (v:Val (.pair tI am)) a b=>mN p.1 p.2 v.1 v.2 (fun c d=>a (c,d)) (b 0)⟩
def Nj:List (Nat×ã):=[]
def KB (ρ:Type):List (à ρ):=[vU ρ]
def uU (ρ:Type):Env ρ:=ê Nj (KB ρ)
def mJ:ã:=⟨[am,tI,tI],[tI],fun(x:Val (.pair am Ã))=>iF x.1 x.2.1 x.2.2⟩
def FH:List (Nat×ã):=[]
def Dy (ρ:Type):List (à ρ):=[]
def vV (ρ:Type):Env ρ:=ê FH (Dy ρ)
def VS:ã:=⟨[tI,tI,(.ptr am)],[tI],fun(x:Val (.pair tI (.pair tI (.ptr am))))=>ł x.1 x.2.1 x.2.2⟩
def Nk:List (Nat×ã):=[(205,wQ),(206,mJ)]
def KD (ρ:Type):List (à ρ):=[]
def DA (ρ:Type):Env ρ:=ê Nk (KD ρ)
def PF:ã:=⟨[É,am,tI],[tI],fun(x:Val bn)=>Ν x.1 x.2.1 x.2.2⟩
def rr:Å:=Ls 2 [af,tI,tI,tI,ae,aa,af,ac,aa,tI,tI,tI,tI] [tI] ⟨19,.con af::.fn 254 [(1,0)]::aN 5 [.con tI,.var tI],[bq,bt]⟩ [(.ret,⟨19,[.con af,.fn 254 [(1,0)],.any,.any,.var tI,.any,.any,.con tI],[bq,bt]⟩,[tI]),(.exit 0,⟨19,.con af::.fn 254 [(1,0)]::aN 5 [.con tI],[bq,bt]⟩,[])]
def rq (ρ:Type):à ρ:=⟨[9,5,1,2],293,0,rr,fun(p:Val (tyL rr.cs)) (v:Val tI) b a=>let A:=p.2.2.2.2.2.2.2.2.2;jZ p.1 p.2.1 A.1 A.2.1 A.2.2.1 v (fun c=>b c) (a 0) (a 1)⟩
def ro:Å:=Ls 2 [aa,tI,tI,tI,ae,aa,af,ac,aa,tI,tI,tI,tI] [tI] ⟨19,.con aa::.fn 255 [(1,0)]::aN 5 [.con tI,.var tI],[bq,bt]⟩ [(.ret,⟨19,[.con aa,.fn 255 [(1,0)],.any,.any,.var tI,.any,.any,.con tI],[bq,bt]⟩,[tI]),(.exit 0,⟨19,.con aa::.fn 255 [(1,0)]::aN 5 [.con tI],[bq,bt]⟩,[])]
def rl (ρ:Type):à ρ:=⟨[9,10,1,2],294,0,ro,fun(p:Val (tyL ro.cs)) (v:Val tI) b a=>let A:=p.2.2.2.2.2.2.2.2.2;Ε p.1 p.2.1 A.1 A.2.1 A.2.2.1 v (fun c=>b c) (a 0) (a 1)⟩
def H6:List (Nat×ã):=[(141,sv),(206,mJ),(212,ki)]
def FP (ρ:Type):List (à ρ):=[rq ρ,rl ρ]
def lg (ρ:Type):Env ρ:=ê H6 (FP ρ)
def Cy:ã:=⟨[ab,ab],[ab],fun(x:Val (.pair ab ab))=>Μ x.1 x.2⟩
def DN:Å:=Ls 2 [tI,ab,ab] [tI] ⟨19,.own 1::.fn 214 [(0,0)]::aN 5 [.con tI,.var tI],[bp,.rowc tI]⟩ [(.ret,⟨19,[.own 1,.fn 214 [(0,0)],.any,.any,.var tI,.any,.any,.con tI],[bp,.rowc tI]⟩,[tI]),(.exit 0,⟨19,.own 1::.fn 214 [(0,0)]::aN 5 [.con tI],[bp,.rowc tI]⟩,[])]
def DM (ρ:Type):à ρ:=⟨[1,3,1,2],260,0,DN,fun(p:Val (tyL DN.cs)) (v:Val tI) b a=>vg p.1 p.2.1 p.2.2 v (fun c=>b c) (a 0) (a 1)⟩
def QP:Å:=Ls 2 [ab] [tI,tI,ab] ⟨42,[.own 1,.fn 214 [(0,0)],.any,.any,.any,.var tI,.var tI],[bp,.rowv tI]⟩ [(.exit 0,⟨42,[.own 1,.fn 214 [(0,0)],.any,.any,.any,.var tI],[bp,.rowv tI]⟩,[tI,ab])]
def DL (ρ:Type):à ρ:=⟨[1,3],213,0,QP,fun(p:Val ab) (v:Val aP) a b=>kg p v.1 v.2.1 v.2.2 (fun c d e=>a (c,d,e)) (b 0)⟩
def WM:List (Nat×ã):=[(92,Ņ)]
def Ue (ρ:Type):List (à ρ):=[DM ρ,DL ρ]
def yK (ρ:Type):Env ρ:=ê WM (Ue ρ)
def EZ:ã:=⟨[ab],[.bool],fun(x:Val ab)=>mD x⟩
def KL:Å:=Ls 0 [ab,ab,tI] [tI] ⟨32,.con ab::aN 4 [.con ab,.con tI,.var tI],[]⟩ [(.ret,⟨32,[.con ab,.any,.var .bool,.any,.any,.con ab,.con tI],[]⟩,[.bool]),(.exit 0,⟨32,.con ab::aN 4 [.con ab,.con tI],[]⟩,[])]
def xS (ρ:Type):à ρ:=⟨[],172,0,KL,fun(p:Val (.pair ab ay)) (v:Val tI) b a=>oB p.1 p.2.1 p.2.2 v (fun c=>b c) (a 0) (a 1)⟩
def QR:List (Nat×ã):=[(212,ki)]
def Nt (ρ:Type):List (à ρ):=[xS ρ]
def xT (ρ:Type):Env ρ:=ê QR (Nt ρ)
def PG:ã:=⟨[É,tI,tI],[ic,.bool],fun(x:Val aK)=>vA x.1 x.2.1 x.2.2⟩
def DW:Å:=Ls 4 [af,tI,tI,tI,ae,aa,af,ac,aa,tI,tI,tI,tI,tI,tI] [tI] ⟨19,.con af::.fn 295 [(1,0),(2,0)]::aN 5 [.con tI,.var tI],[bq,bu,bu,bt]⟩ [(.ret,⟨19,[.con af,.fn 295 [(1,0),(2,0)],.any,.any,.var tI,.any,.any,.con tI],[bq,bu,bu,bt]⟩,[tI]),(.exit 0,⟨19,.con af::.fn 295 [(1,0),(2,0)]::aN 5 [.con tI],[bq,bu,bu,bt]⟩,[])]
def DU (ρ:Type):à ρ:=⟨[1,3],293,0,DW,fun(p:Val (tyL DW.cs)) (v:Val tI) b a=>vm p.1 p.2.1 p.2.2.2.2.2.2.2.2.2.1 p.2.2.2.2.2.2.2.2.2.2.1 v (fun c=>b c) (a 0) (a 1)⟩
def WO:List (Nat×ã):=[(212,ki)]
def Uk (ρ:Type):List (à ρ):=[DU ρ]
def FR (ρ:Type):Env ρ:=ê WO (Uk ρ)
def Hn:ã:=⟨[É,am,tI],[tI],fun(x:Val bn)=>ŋ x.1 x.2.1 x.2.2⟩
def nH:Å:=Ls 2 [ac,tI,tI,tI,ae,aa,af,ac,aa,tI,tI,ab,ab,tI,tI,tI,tI] [tI] ⟨19,.con ac::.fn 258 [(1,0)]::aN 5 [.con tI,.var tI],[bq,bv]⟩ [(.ret,⟨19,[.con ac,.fn 258 [(1,0)],.any,.any,.var tI,.any,.any,.con tI],[bq,bv]⟩,[tI]),(.exit 0,⟨19,.con ac::.fn 258 [(1,0)]::aN 5 [.con tI],[bq,bv]⟩,[])]
def nF (ρ:Type):à ρ:=⟨[4,5,1,2],175,0,nH,fun(p:Val (tyL nH.cs)) (v:Val tI) b a=>iw p.1 p.2.1 p.2.2.2.2.2.2.2.2.2.1 v (fun c=>b c) (a 0) (a 1)⟩
def nB:Å:=Ls 0 [am,ab,tI,tI,tI,ab,tI,tI,tI,ae,aa,af,ac,aa,tI,tI,ab,ab,tI,tI,tI,tI,ab] [tI] ⟨140,.any::.con am::.any::.box 0 0::aN 3 (.box 1 0::.con ab::.any::.con tI::aN 65 [.own 2,.con tI,.con tI,.any,.any,.any,.con ab,.con tI,.var tI]),b7⟩ [(.ret,⟨140,.any::.con am::.any::.box 0 0::aN 2 (.var tI::.box 1 0::.con ab::.any::.con tI::aN 65 [.own 2,.con tI,.con tI,.any,.any,.any,.con ab,.con tI]),b7⟩,[tI]),(.exit 2,⟨140,.any::.con am::.any::.box 0 0::aN 3 (.box 1 0::.con ab::.any::.con tI::aN 65 [.own 2,.con tI,.con tI,.any,.any,.any,.con ab,.con tI]),b7⟩,[])]
def nA (ρ:Type):à ρ:=⟨[],209,2,nB,fun(p:Val (tyL nB.cs)) (v:Val tI) b a=>let A:=p.2.2.2.2.2;iv p.1 p.2.2.1 A.1 A.2.1 A.2.2.2.2.2.2.2.2.2.2.1 v (fun c=>b c) (a 0) (a 1)⟩
def nE:Å:=Ls 0 [am,ab,tI,tI,tI,ae,aa,af,ac,aa,tI,tI,ab,ab,tI,tI,tI,tI,ab] [tI] ⟨140,.any::.con am::.any::.box 0 0::aN 3 (.box 1 0::.con ab::aN 67 [.own 2,.con tI,.var tI]),b7⟩ [(.ret,⟨140,.any::.con am::.any::.box 0 0::aN 2 (.var tI::.box 1 0::.con ab::aN 67 [.own 2,.con tI]),b7⟩,[tI]),(.exit 0,⟨140,.any::.con am::.any::.box 0 0::aN 3 (.box 1 0::.con ab::aN 67 [.own 2,.con tI]),b7⟩,[])]
def nD (ρ:Type):à ρ:=⟨[],209,0,nE,fun(p:Val (tyL nE.cs)) (v:Val tI) b a=>Ŏ p.1 p.2.1 p.2.2.1 p.2.2.2.2.2.2.2.2.2.2.2.1 p.2.2.2.2.2.2.2.2.2.2.2.2.2.2.2.2.2.2 v (fun c=>b c) (a 0) (a 1)⟩
def nz:Å:=Ls 0 [ab,tI,tI,tI,ae,aa,af,ac,aa,tI,tI,ab,ab,tI,tI,tI,tI] [tI] ⟨140,aN 3 (.box 0 0::aN 3 (.box 1 0::aN 90 [.con ab,.con tI,.var tI])),[bq,bv]⟩ [(.ret,⟨140,aN 3 (.box 0 0::aN 2 (.var tI::.box 1 0::aN 90 [.con ab,.con tI])),[bq,bv]⟩,[tI]),(.exit 4,⟨140,aN 3 (.box 0 0::aN 3 (.box 1 0::aN 90 [.con ab,.con tI])),[bq,bv]⟩,[])]
def ny (ρ:Type):à ρ:=⟨[],209,4,nz,fun(p:Val (tyL nz.cs)) (v:Val tI) b a=>let A:=p.2.2.2.2;ō p.1 p.2.1 p.2.2.1 p.2.2.2.1 A.1 A.2.1 A.2.2.1 A.2.2.2.1 A.2.2.2.2.1 A.2.2.2.2.2.2.1 v (fun c=>b c) (a 0) (a 1)⟩
def BS:List (Nat×ã):=[(93,iM),(141,sv),(148,Cy),(172,EZ),(205,wQ),(206,mJ),(212,ki),(259,PG)]
def zJ (ρ:Type):List (à ρ):=[nF ρ,nA ρ,nD ρ,ny ρ]
def Ś (ρ:Type):Env ρ:=ê BS (zJ ρ)
def pj:ã:=⟨[É],[tI],fun(x:Val É)=>ĭ x⟩
def SQ:ã:=⟨[ab],[(.pair tI (.pair tI ŕ))],fun(x:Val ab)=>Eh x⟩
def N8:ã:=⟨[Â],[.bool],fun(x:Val Â)=>yS x⟩
def wY:Å:=Ls 0 [tI,tI,ae,aa,af,ac,aa,ai,tI,tI,ae,aa,af,ac,aa] [tI] ⟨90,[.any,.box 0 0,.any,.box 1 0,.var tI],[bw,bq]⟩ [(.ret,⟨90,[.any,.box 0 0,.var .bool,.box 1 0],[bw,bq]⟩,[.bool]),(.exit 0,⟨90,[.any,.box 0 0,.any,.box 1 0],[bw,bq]⟩,[])]
def wX (ρ:Type):à ρ:=⟨[],15,0,wY,fun(p:Val (tyL wY.cs)) (v:Val tI) b a=>oq p.2.2.2.2.2.2.2.2.2.2.2.2.2.1 v (fun c=>b c) (a 0) (a 1)⟩
def wW:Å:=Ls 0 [tI,tI,ae,aa,af,ac,aa,ai,tI,tI,ae,aa,af,ac,aa] [tI] ⟨90,[.any,.box 0 0,.any,.box 1 0,.any,.var tI],[bw,bq]⟩ [(.ret,⟨90,[.any,.box 0 0,.var .bool,.box 1 0],[bw,bq]⟩,[.bool]),(.exit 2,⟨90,[.any,.box 0 0,.any,.box 1 0],[bw,bq]⟩,[])]
def wV (ρ:Type):à ρ:=⟨[],15,2,wW,fun(p:Val (tyL wW.cs)) (v:Val tI) b a=>kL p.2.2.2.2.2.2.2.1 v (fun c=>b c) (a 0) (a 1)⟩
def PQ:List (Nat×ã):=[]
def Mp (ρ:Type):List (à ρ):=[wX ρ,wV ρ]
def qB (ρ:Type):Env ρ:=ê PQ (Mp ρ)
def S9:ã:=⟨[É,tI,ab],[tI],fun(x:Val (.pair É Ī))=>Er x.1 x.2.1 x.2.2⟩
def AM:Å:=Ls 1 [ab,tI,tI,tI,ae,aa,af,ac,aa] [tI] ⟨19,.con ab::.fn 299 []::aN 5 [.con tI,.var tI],[bq]⟩ [(.ret,⟨19,[.con ab,.fn 299 [],.any,.any,.var tI,.any,.any,.con tI],[bq]⟩,[tI]),(.exit 0,⟨19,.con ab::.fn 299 []::aN 5 [.con tI],[bq]⟩,[])]
def AK (ρ:Type):à ρ:=⟨[4,1,1,2],260,0,AM,fun(p:Val (tyL AM.cs)) (v:Val tI) b a=>rt p.1 p.2.1 v (fun c=>b c) (a 0) (a 1)⟩
def Um:List (Nat×ã):=[(72,pj),(143,ur),(205,wQ)]
def Q2 (ρ:Type):List (à ρ):=[AK ρ]
def BT (ρ:Type):Env ρ:=ê Um (Q2 ρ)
def Ym:ã:=⟨[É,tI,tI],[.bool,tI],fun(x:Val aK)=>yZ x.1 x.2.1 x.2.2⟩
def WQ:List (Nat×ã):=[(259,PG),(269,S9)]
def Uq (ρ:Type):List (à ρ):=[]
def OI (ρ:Type):Env ρ:=ê WQ (Uq ρ)
def SU:ã:=⟨[É,ai,tI],[tI],fun(x:Val (.pair É (.pair ai tI)))=>Ej x.1 x.2.1 x.2.2⟩
def Ai:Å:=Ls 0 [ai,tI,tI,tI,ae,aa,af,ac,aa,tI,ab] [tI] ⟨104,[.any,.con ai,.con tI,.box 0 0,.any,.any,.any,.box 1 0,.var tI],[bq,bz]⟩ [(.ret,⟨104,[.any,.con ai,.con tI,.box 0 0,.any,.any,.var tI,.box 1 0],[bq,bz]⟩,[tI]),(.exit 0,⟨104,[.any,.con ai,.con tI,.box 0 0,.any,.any,.any,.box 1 0],[bq,bz]⟩,[])]
def Ah (ρ:Type):à ρ:=⟨[],156,0,Ai,fun(p:Val (tyL Ai.cs)) (v:Val tI) b a=>mZ p.2.2.2.2.2.2.2.2.2.2 v (fun c=>b c) (a 0) (a 1)⟩
def Ag:Å:=Ls 0 [ai,tI,ae,tI,tI,tI,ae,aa,af,ac,aa,tI,ab] [tI,aW] ⟨104,.any::.con ai::.con tI::.box 0 0::aN 3 (.box 1 0::.any::.box 2 0::aN 50 [.con ae,.con tI,.var tI]),[bq,bz,bB,.mapv tI tI]⟩ [(.exit 2,⟨104,.any::.con ai::.con tI::.box 0 0::aN 3 (.box 1 0::.any::.box 2 0::aN 50 [.con ae,.con tI]),[bq,bz,bB,.mapv tI tI]⟩,[aW])]
def Af (ρ:Type):à ρ:=⟨[],156,2,Ag,fun(p:Val (tyL Ag.cs)) (v:Val (.pair tI aW)) a b=>mY p.2.2.1 p.2.2.2.1 v.1 v.2 (fun c d=>a (c,d)) (b 0)⟩
def MJ:Å:=Ls 4 [ab,tI,tI,tI,ae,aa,af,ac,aa,tI,ab,aW] [tI] ⟨19,.con ab::.fn 223 [(2,0)]::aN 5 [.con tI,.var tI],b8⟩ [(.ret,⟨19,[.con ab,.fn 223 [(2,0)],.any,.any,.var tI,.any,.any,.con tI],b8⟩,[tI]),(.exit 0,⟨19,.con ab::.fn 223 [(2,0)]::aN 5 [.con tI],b8⟩,[])]
def Ae (ρ:Type):à ρ:=⟨[18,3,1,2],260,0,MJ,fun(p:Val aF) (v:Val tI) b a=>mX p.1 p.2.1 p.2.2.2.2.2.2.2.2.2.2.2 v (fun c=>b c) (a 0) (a 1)⟩
def MI:Å:=Ls 4 [ab,tI,tI,tI,ae,aa,af,ac,aa,tI,ab,aW] [tI] ⟨19,.con ab::.fn 224 [(1,0),(2,0)]::aN 5 [.con tI,.var tI],b8⟩ [(.ret,⟨19,[.con ab,.fn 224 [(1,0),(2,0)],.any,.any,.var tI,.any,.any,.con tI],b8⟩,[tI]),(.exit 0,⟨19,.con ab::.fn 224 [(1,0),(2,0)]::aN 5 [.con tI],b8⟩,[])]
def Ad (ρ:Type):à ρ:=⟨[20,3,1,2],260,0,MI,fun(p:Val aF) (v:Val tI) b a=>kq p.1 p.2.1 p.2.2.2.2.2.2.2.2.2.1 p.2.2.2.2.2.2.2.2.2.2.2 v (fun c=>b c) (a 0) (a 1)⟩
def MH:Å:=Ls 4 [ab,tI,tI,tI,ae,aa,af,ac,aa,tI,ab,aW] [tI] ⟨19,.con ab::.fn 225 [(0,0),(1,0)]::aN 5 [.con tI,.var tI],b8⟩ [(.ret,⟨19,[.con ab,.fn 225 [(0,0),(1,0)],.any,.any,.var tI,.any,.any,.con tI],b8⟩,[tI]),(.exit 0,⟨19,.con ab::.fn 225 [(0,0),(1,0)]::aN 5 [.con tI],b8⟩,[])]
def Ac (ρ:Type):à ρ:=⟨[24,3,1,2],260,0,MH,fun(p:Val aF) (v:Val tI) b a=>let A:=p.2.2.2.2;Ň p.1 p.2.1 p.2.2.1 p.2.2.2.1 A.1 A.2.1 A.2.2.1 A.2.2.2.1 A.2.2.2.2.1 A.2.2.2.2.2.1 v (fun c=>b c) (a 0) (a 1)⟩
def Tx:List (Nat×ã):=[(226,Ym)]
def P0 (ρ:Type):List (à ρ):=[Ah ρ,Af ρ,Ae ρ,Ad ρ,Ac ρ]
def ka (ρ:Type):Env ρ:=ê Tx (P0 ρ)
def iB:ã:=⟨[Â],[tI],fun(x:Val Â)=>š x⟩
def M3:Å:=Ls 0 [ai,tI,tI,tI,tI,tI,ae,aa,af,ac,aa,ai] [tI,tI] ⟨50,.any::.box 0 0::aN 2 (.var tI::aN 15 (.con ai::.con tI::.con tI::aN 15 [.con tI,.var tI])),[bw]⟩ [(.exit 2,⟨50,.any::.box 0 0::aN 2 (.var tI::aN 15 (.con ai::.con tI::.con tI::aN 15 [.con tI])),[bw]⟩,[tI])]
def Al (ρ:Type):à ρ:=⟨[],80,2,M3,fun(p:Val (.pair ai aX)) (v:Val Ã) a b=>m8 p.2.2.2.1 v.1 v.2 (fun c d=>a (c,d)) (b 0)⟩
def M4:Å:=Ls 0 [ai,tI,tI,tI,ae,aa,af,ac,aa,ai] [tI,tI] ⟨50,.any::.box 0 0::aN 2 (.var tI::aN 15 [.con ai,.con tI,.var tI]),[bw]⟩ [(.ret,⟨50,.any::.box 0 0::.var tI::aN 17 [.con ai,.con tI],[bw]⟩,[tI]),(.exit 0,⟨50,.any::.box 0 0::aN 2 (.var tI::aN 15 [.con ai,.con tI]),[bw]⟩,[tI])]
def Ao (ρ:Type):à ρ:=⟨[],80,0,M4,fun(p:Val (.pair ai aD)) (v:Val Ã) b a=>let A:=p.2.2.2.2;qV p.1 p.2.1 p.2.2.1 p.2.2.2.1 A.1 A.2.1 A.2.2.1 A.2.2.2.1 A.2.2.2.2.1 A.2.2.2.2.2 v.1 v.2 (fun c d=>b (c,d)) (a 0) (a 1)⟩
def TK:List (Nat×ã):=[(72,pj),(156,SU)]
def Qi (ρ:Type):List (à ρ):=[Al ρ,Ao ρ]
def uH (ρ:Type):Env ρ:=ê TK (Qi ρ)
def ű:ã:=⟨[aa,Ã],[tI],fun(x:Val (.pair aa Ã))=>ñ x.1 x.2⟩
def lK:Å:=Ls 0 [aa,tI,tI,tI] [tI] ⟨19,[.con aa,.any,.any,.box 0 0,.any,.any,.any,.con tI,.var tI],[bC]⟩ [(.ret,⟨19,[.con aa,.any,.any,.box 0 0,.var tI,.any,.any,.con tI],[bC]⟩,[tI]),(.exit 0,⟨19,[.con aa,.any,.any,.box 0 0,.any,.any,.any,.con tI],[bC]⟩,[])]
def δ (ρ:Type):à ρ:=⟨[],135,0,lK,fun(p:Val (.pair aa ŕ)) (v:Val tI) b a=>Ħ p.1 p.2.1 p.2.2.1 p.2.2.2 v (fun c=>b c) (a 0) (a 1)⟩
def nt:List (Nat×ã):=[]
def mn (ρ:Type):List (à ρ):=[δ ρ]
def ŝ (ρ:Type):Env ρ:=ê nt (mn ρ)
def GI:ã:=⟨[aT,ab,tI],[tI],fun(x:Val (.pair aT ay))=>ku x.1 x.2.1 x.2.2⟩
def KK:List (Nat×ã):=[(135,ű)]
def HZ (ρ:Type):List (à ρ):=[]
def AJ (ρ:Type):Env ρ:=ê KK (HZ ρ)
def Yk:ã:=⟨[É,Ö,tI,tI],[tI],fun(x:Val (.pair É (.pair Ö Ã)))=>yY x.1 x.2.1 x.2.2.1 x.2.2.2⟩
def DK:Å:=Ls 0 [tI,tI,af,tI,tI,tI,ae,aa,af,ac,aa,tI,tI,tI,tI,tI,tI,tI,tI] [tI,tI] ⟨88,aN 2 (.con tI::.con tI::.box 0 0::.box 1 0::aN 3 (.var tI::aN 7 [.con af,.con tI,.var tI])),[bq,br]⟩ [(.exit 0,⟨88,aN 2 (.con tI::.con tI::.box 0 0::.box 1 0::aN 3 (.var tI::aN 7 [.con af,.con tI])),[bq,br]⟩,[tI])]
def DJ (ρ:Type):à ρ:=⟨[],247,0,DK,fun(p:Val (tyL DK.cs)) (v:Val Ã) a b=>vf p.1 p.2.1 p.2.2.1 p.2.2.2.1 p.2.2.2.2.2.2.2.2.2.2.2.1 v.1 v.2 (fun c d=>a (c,d)) (b 0)⟩
def DI:Å:=Ls 0 [tI,tI,tI,aa,tI,tI,tI,tI,tI,tI,tI,tI,tI] [tI,ab] ⟨88,aN 2 (.con tI::.con tI::.any::.box 0 0::aN 3 (.con tI::aN 3 (.own 1::aN 39 [.con aa,.con tI,.var tI]))),[br,.rowv tI]⟩ [(.exit 2,⟨88,aN 2 (.con tI::.con tI::.any::.box 0 0::aN 3 (.con tI::aN 3 (.own 1::aN 39 [.con aa,.con tI]))),[br,.rowv tI]⟩,[ab])]
def DH (ρ:Type):à ρ:=⟨[],247,2,DI,fun(p:Val (tyL DI.cs)) (v:Val Ī) a b=>vd p.1 p.2.1 p.2.2.2.1 p.2.2.2.2.1 p.2.2.2.2.2.1 v.1 v.2 (fun c d=>a (c,d)) (b 0)⟩
def WL:List (Nat×ã):=[(212,ki)]
def Uc (ρ:Type):List (à ρ):=[DJ ρ,DH ρ]
def yJ (ρ:Type):Env ρ:=ê WL (Uc ρ)
def vO:ã:=⟨[am,ab],[Ã],fun(x:Val (.pair am ab))=>iC x.1 x.2⟩
def BK:List (Nat×ã):=[]
def zH (ρ:Type):List (à ρ):=[]
def ri (ρ:Type):Env ρ:=ê BK (zH ρ)
def su:ã:=⟨[aa],[tI],fun(x:Val aa)=>jM x⟩
def Nf:Å:=Ls 0 [aa,tI] [tI] ⟨15,aN 5 [.con aa,.con tI,.var tI],[]⟩ [(.ret,⟨15,[.any,.any,.var tI,.any,.any,.con aa,.con tI],[]⟩,[tI]),(.exit 0,⟨15,aN 5 [.con aa,.con tI],[]⟩,[])]
def AE (ρ:Type):à ρ:=⟨[],264,0,Nf,fun(p:Val bh) (v:Val tI) b a=>rh p.1 p.2 v (fun c=>b c) (a 0) (a 1)⟩
def TU:List (Nat×ã):=[(253,Cu)]
def Qx (ρ:Type):List (à ρ):=[AE ρ]
def BD (ρ:Type):Env ρ:=ê TU (Qx ρ)
def A7:ã:=⟨[tI,tI],[Ã,tI],fun(x:Val Ã)=>pU x.1 x.2⟩
def Ng:List (Nat×ã):=[(291,PD),(292,VP)]
def Kr (ρ:Type):List (à ρ):=[]
def Du (ρ:Type):Env ρ:=ê Ng (Kr ρ)
def abL:ã:=⟨[Ã,Ã],[Ã,tI],fun(x:Val ĕ)=>Ru x.1 x.2⟩
def Z2:List (Nat×ã):=[(264,su),(312,A7)]
def WB (ρ:Type):List (à ρ):=[]
def T1 (ρ:Type):Env ρ:=ê Z2 (WB ρ)
def Cw:ã:=⟨[Ã,Ã],[Ã],fun(x:Val ĕ)=>vy x.1 x.2⟩
def HY:List (Nat×ã):=[(296,abL)]
def FK (ρ:Type):List (à ρ):=[]
def xQ (ρ:Type):Env ρ:=ê HY (FK ρ)
def VQ:ã:=⟨[Ã,Ã],[tI],fun(x:Val ĕ)=>LA x.1 x.2⟩
def Z1:List (Nat×ã):=[]
def Wx (ρ:Type):List (à ρ):=[]
def TZ (ρ:Type):Env ρ:=ê Z1 (Wx ρ)
def zW:ã:=⟨[ĕ],[.bool],fun(x:Val ĕ)=>sl x⟩
def FE:List (Nat×ã):=[(264,su),(320,VQ)]
def Dv (ρ:Type):List (à ρ):=[]
def vT (ρ:Type):Env ρ:=ê FE (Dv ρ)
def abM:ã:=⟨[Ã,Ã],[Ã,tI],fun(x:Val ĕ)=>LC x.1 x.2⟩
def Z3:List (Nat×ã):=[(264,su),(312,A7)]
def WF (ρ:Type):List (à ρ):=[]
def T3 (ρ:Type):Env ρ:=ê Z3 (WF ρ)
def S6:ã:=⟨[ĕ,Ã],[ĕ,tI],fun(x:Val (.pair ĕ Ã))=>LB x.1 x.2⟩
def GY:List (Nat×ã):=[(253,Cu),(313,zW),(316,abM),(320,VQ)]
def uT (ρ:Type):List (à ρ):=[]
def GW:List afJ:=[⟨[3,2],314,0,4⟩]
def T2 (ρ:Type):Env ρ:=ê GY (uT ρ)
def BG (ρ:Type):Env ρ:=mkEnvU GY (uT ρ) GW
def Cv:ã:=⟨[Ã,Ã],[ĕ],fun(x:Val ĕ)=>oF x.1 x.2⟩
def HX:List (Nat×ã):=[(297,S6)]
def FI (ρ:Type):List (à ρ):=[]
def xP (ρ:Type):Env ρ:=ê HX (FI ρ)
def Oe:ã:=⟨[É,â],[ĕ],fun(x:Val aY)=>tV x.1 x.2⟩
def QV:List (Nat×ã):=[(143,ur),(148,Cy),(261,vO),(262,Cw),(263,Cv)]
def Ny (ρ:Type):List (à ρ):=[]
def G3 (ρ:Type):Env ρ:=ê QV (Ny ρ)
def S8:ã:=⟨[É,â],[Ã],fun(x:Val aY)=>yh x.1 x.2⟩
def Uh:List (Nat×ã):=[]
def QW (ρ:Type):List (à ρ):=[]
def KQ (ρ:Type):Env ρ:=ê Uh (QW ρ)
def Jd:ã:=⟨[tI,tI],[tI],fun(x:Val Ã)=>yf x.1 x.2⟩
def TY:List (Nat×ã):=[]
def QB (ρ:Type):List (à ρ):=[]
def Ku (ρ:Type):Env ρ:=ê TY (QB ρ)
def Yh:ã:=⟨[Ã],[tI,tI],fun(x:Val Ã)=>IA x⟩
def WI:List (Nat×ã):=[(264,su),(265,Jd)]
def T5 (ρ:Type):List (à ρ):=[]
def OG (ρ:Type):Env ρ:=ê WI (T5 ρ)
def S7:ã:=⟨[Ã],[tI,tI],fun(x:Val Ã)=>Ep x⟩
def T4:List (Nat×ã):=[(264,su),(265,Jd)]
def QG (ρ:Type):List (à ρ):=[]
def Kz (ρ:Type):Env ρ:=ê T4 (QG ρ)
def Yi:ã:=⟨[É,â],[Ã],fun(x:Val aY)=>yX x.1 x.2⟩
def WJ:List (Nat×ã):=[(215,Oe),(216,S8),(217,Yh),(218,S7)]
def T7 (ρ:Type):List (à ρ):=[]
def OH (ρ:Type):Env ρ:=ê WJ (T7 ρ)
def Yj:ã:=⟨[É],[aT],fun(x:Val É)=>IB x⟩
def DE:Å:=Ls 2 [tI,ab,tI,ae,tI,tI,tI,tI,ae,aa,af,ac,aa,tI,tI,ae,aa,af,ac,aa,aa,tI,tI,tI,tI,tI,tI,tI,tI,tI] [tI,ak,aa] ⟨144,.box 1 0::.any::.con tI::.box 2 0::.con ab::.con tI::.var tI::aN 24 [.con ae,.con tI,.con tI],[bq,bD,br,.rowv ŕ,.rowv Ã]⟩ [(.exit 2,⟨144,.box 1 0::.any::.con tI::.box 2 0::.con ab::.con tI::aN 25 [.con ae,.con tI,.con tI],[bq,bD,br,.rowv ŕ,.rowv Ã]⟩,[ak,aa])]
def DD (ρ:Type):à ρ:=⟨[2,1],200,2,DE,fun(p:Val (tyL DE.cs)) (v:Val (.pair tI Cg)) a b=>let A:=p.2.2.2.2.2.2.2.2.2.2.2.2.2;let B:=A.2.2.2.2;let C:=B.2.2.2.2.2;let D:=C.2.2.2.2;uZ p.1 p.2.1 p.2.2.1 A.1 A.2.1 A.2.2.1 A.2.2.2.1 B.1 B.2.1 B.2.2.1 C.1 C.2.1 C.2.2.1 C.2.2.2.1 D.1 D.2.1 D.2.2.1 D.2.2.2 v.1 v.2.1 v.2.2 (fun c d e=>a (c,d,e)) (b 0)⟩
def DG:Å:=Ls 2 [ae,tI,tI,tI,ae,aa,af,ac,aa,tI,tI,ae,aa,af,ac,aa,aa,tI] [tI,ak,aa] ⟨144,.box 1 0::aN 30 [.con ae,.con tI,.var tI],b9⟩ [(.exit 0,⟨144,.box 1 0::aN 30 [.con ae,.con tI],b9⟩,[ak,aa])]
def DF (ρ:Type):à ρ:=⟨[2,1],200,0,DG,fun(p:Val (tyL DG.cs)) (v:Val (.pair tI Cg)) a b=>let A:=p.2.2.2.2.2.2.2.2.2;let B:=A.2.2.2.2;vc p.1 p.2.1 A.1 A.2.1 A.2.2.1 A.2.2.2.1 B.1 B.2.1 B.2.2.1 B.2.2.2.1 B.2.2.2.2 v.1 v.2.1 v.2.2 (fun c d e=>a (c,d,e)) (b 0)⟩
def DC:Å:=Ls 2 [ac,tI,tI,tI,ae,aa,af,ac,aa,tI,tI,ae,aa,af,ac,aa,aa,tI] [tI,ak,aa] ⟨144,.box 1 0::aN 107 [.con ac,.con tI,.var tI],b9⟩ [(.exit 4,⟨144,.box 1 0::aN 107 [.con ac,.con tI],b9⟩,[ak,aa])]
def DB (ρ:Type):à ρ:=⟨[2,1],200,4,DC,fun(p:Val (tyL DC.cs)) (v:Val (.pair tI Cg)) a b=>let A:=p.2.2.2.2.2.2.2.2.2;let B:=A.2.2.2.2;uY p.1 p.2.1 A.1 A.2.1 A.2.2.1 A.2.2.2.1 B.1 B.2.1 B.2.2.1 B.2.2.2.1 B.2.2.2.2 v.1 v.2.1 v.2.2 (fun c d e=>a (c,d,e)) (b 0)⟩
def WK:List (Nat×ã):=[(136,Cx),(147,GI),(148,Cy),(201,PE),(247,Yk),(248,Yi)]
def Ua (ρ:Type):List (à ρ):=[DD ρ,DF ρ,DB ρ]
def tG (ρ:Type):Env ρ:=ê WK (Ua ρ)
def sw:ã:=⟨[É],[Ì,aa,tI],fun(x:Val É)=>iG x⟩
def Q4:List (Nat×ã):=[(72,pj),(132,Yj)]
def NE (ρ:Type):List (à ρ):=[]
def G4 (ρ:Type):Env ρ:=ê Q4 (NE ρ)
def Ja:ã:=⟨[Â,aj,tI,tI],[tI],fun(x:Val bf)=>sk x.1 x.2.1 x.2.2.1 x.2.2.2⟩
def Tr:Å:=Ls 0 [aj,tI,tI,tI,ae,aa,af,ac,aa,ai] [tI,tI] ⟨47,.any::.con aj::.var tI::.con tI::.box 0 0::aN 4 [.var tI],[bw]⟩ [(.exit 0,⟨47,[.any,.con aj,.var tI,.con tI,.box 0 0],[bw]⟩,[tI])]
def GM (ρ:Type):à ρ:=⟨[],105,0,Tr,fun(p:Val (.pair aj aD)) (v:Val Ã) a b=>yE p.1 p.2.1 p.2.2.2.2.2.2.2.2.2 v.1 v.2 (fun c d=>a (c,d)) (b 0)⟩
def ZW:List (Nat×ã):=[(173,l8)]
def VZ (ρ:Type):List (à ρ):=[GM ρ]
def Jv (ρ:Type):Env ρ:=ê ZW (VZ ρ)
def wN:ã:=⟨[ab,tI,ar,aG],[ab],fun(x:Val (.pair ab (.pair tI (.pair ar aG))))=>i8 x.1 x.2.1 x.2.2.1 x.2.2.2⟩
def oh:Å:=Ls 0 [tI,ar,aG,ab,tI] [tI,ab] ⟨28,[.any,.con tI,.con ar,.con aG,.any,.any,.any,.own 0,.any,.any,.con ab,.con tI,.var tI],bZ⟩ [(.exit 0,⟨28,[.any,.con tI,.con ar,.con aG,.any,.any,.any,.own 0,.any,.any,.con ab,.con tI],bZ⟩,[ab])]
def og (ρ:Type):à ρ:=⟨[],183,0,oh,fun(p:Val (tyL oh.cs)) (v:Val Ī) a b=>iO p.1 p.2.1 p.2.2.1 p.2.2.2.1 p.2.2.2.2 v.1 v.2 (fun c d=>a (c,d)) (b 0)⟩
def CH:List (Nat×ã):=[(105,Ja)]
def Bn (ρ:Type):List (à ρ):=[og ρ]
def md (ρ:Type):Env ρ:=ê CH (Bn ρ)
def kF:ã:=⟨[Â,aj],[É],fun(x:Val aJ)=>ix x.1 x.2⟩
def qK:Å:=Ls 0 [ar,aG,ar,aG,aa,tI,tI,tI,tI,tI,ae,aa,af,ac,aa,tI,tI,ae] [tI,aa] ⟨123,aN 2 (.con ar::.con aG::.box 0 0::.box 1 0::.box 2 0::.fnd 183 [Â,aj]::aN 18 [.con aa,.con tI,.var tI]),[bG,bq,bH,.rowc Ö,.rowv Ã]⟩ [(.exit 0,⟨123,aN 2 (.con ar::.con aG::.box 0 0::.box 1 0::.box 2 0::.fnd 183 [Â,aj]::aN 18 [.con aa,.con tI]),[bG,bq,bH,.rowc Ö,.rowv Ã]⟩,[aa])]
def qJ (ρ:Type):à ρ:=⟨[],104,0,qK,fun(p:Val (tyL qK.cs)) (v:Val bc) a b=>jV p.1 p.2.1 p.2.2.2.2.1 p.2.2.2.2.2.1 v.1 v.2 (fun c d=>a (c,d)) (b 0)⟩
def qI:Å:=Ls 0 [ar,aG,ar,aG,af,tI,tI,tI,tI,tI,ae,aa,af,ac,aa,tI,tI,ae,aa] [tI,af] ⟨123,aN 2 (.con ar::.con aG::.box 0 0::.box 1 0::.box 2 0::.fnd 183 [Â,aj]::aN 41 [.con af,.con tI,.var tI]),ca⟩ [(.exit 2,⟨123,aN 2 (.con ar::.con aG::.box 0 0::.box 1 0::.box 2 0::.fnd 183 [Â,aj]::aN 41 [.con af,.con tI]),ca⟩,[af])]
def qH (ρ:Type):à ρ:=⟨[],104,2,qI,fun(p:Val (tyL qI.cs)) (v:Val (.pair tI af)) a b=>jU p.1 p.2.1 p.2.2.2.2.1 p.2.2.2.2.2.1 v.1 v.2 (fun c d=>a (c,d)) (b 0)⟩
def qG:Å:=Ls 0 [ar,aG,ar,aG,ac,tI,tI,tI,tI,tI,ae,aa,af,ac,aa,tI,tI,ae,aa,af] [tI,ac] ⟨123,aN 2 (.con ar::.con aG::.box 0 0::.box 1 0::.box 2 0::.fnd 183 [Â,aj]::aN 64 [.con ac,.con tI,.var tI]),cd⟩ [(.exit 4,⟨123,aN 2 (.con ar::.con aG::.box 0 0::.box 1 0::.box 2 0::.fnd 183 [Â,aj]::aN 64 [.con ac,.con tI]),cd⟩,[ac])]
def qF (ρ:Type):à ρ:=⟨[],104,4,qG,fun(p:Val (tyL qG.cs)) (v:Val aH) a b=>jT p.2.2.1 p.2.2.2.1 p.2.2.2.2.1 p.2.2.2.2.2.1 v.1 v.2 (fun c d=>a (c,d)) (b 0)⟩
def qE:Å:=Ls 0 [ar,aG,aa,tI,tI,tI,tI,tI,ae,aa,af,ac] [tI,aa] ⟨123,aN 2 (.con ar::.con aG::.box 0 0::.any::.box 1 0::aN 93 [.con aa,.con tI,.var tI]),ce⟩ [(.exit 6,⟨123,aN 2 (.con ar::.con aG::.box 0 0::.any::.box 1 0::aN 93 [.con aa,.con tI]),ce⟩,[aa])]
def qD (ρ:Type):à ρ:=⟨[],104,6,qE,fun(p:Val (tyL qE.cs)) (v:Val bc) a b=>jS p.1 p.2.1 p.2.2.1 p.2.2.2.1 v.1 v.2 (fun c d=>a (c,d)) (b 0)⟩
def Hx:List (Nat×ã):=[(105,Ja),(183,wN)]
def sH (ρ:Type):List (à ρ):=[qJ ρ,qH ρ,qF ρ,qD ρ]
def Ų (ρ:Type):Env ρ:={ê Hx (sH ρ) with hint:=Rl [(78,183),(84,183)]}
def PC:ã:=⟨[Ì,tI],[.bool],fun(x:Val (.pair Ì tI))=>yW x.1 x.2⟩
def Wo:List (Nat×ã):=[]
def TO (ρ:Type):List (à ρ):=[]
def Ow (ρ:Type):Env ρ:=ê Wo (TO ρ)
def wO:ã:=⟨[Ì],[tI,tI],fun(x:Val Ì)=>pT x⟩
def Nd:Å:=Ls 0 [ak,tI,tI,ak] [tI] ⟨57,.any::.box 0 0::aN 17 [.con ak,.con tI,.var tI],[bL]⟩ [(.ret,⟨57,.any::.box 0 0::.var tI::.var tI::aN 15 [.con ak,.con tI],[bL]⟩,[tI,tI]),(.exit 0,⟨57,.any::.box 0 0::aN 17 [.con ak,.con tI],[bL]⟩,[])]
def AD (ρ:Type):à ρ:=⟨[],126,0,Nd,fun(p:Val (.pair ak aR)) (v:Val tI) b a=>rg p.1 p.2.1 p.2.2.1 p.2.2.2 v (fun c=>b c) (a 0) (a 1)⟩
def TT:List (Nat×ã):=[(196,PC)]
def Qv (ρ:Type):List (à ρ):=[AD ρ]
def BC (ρ:Type):Env ρ:=ê TT (Qv ρ)
def qv:ã:=⟨[Ì,ao],[ab,.bool],fun(x:Val (.pair Ì ao))=>ks x.1 x.2⟩
def tE:Å:=Ls 2 [ao,ak,tI,tI,ak,ab,tI,ak,aq,ab] [tI,tI] ⟨140,.any::.con ao::.own 1::.box 2 0::aN 3 (.box 3 0::.own 4::.own 5::.var tI::aN 14 [.con ak,.con tI,.var tI]),[bL,.rowc tI,bL,.cells [.nils],.rowc .bool,.rowc tI]⟩ [(.exit 0,⟨140,.any::.con ao::.own 1::.box 2 0::aN 3 (.box 3 0::.own 4::.own 5::.var tI::aN 14 [.con ak,.con tI]),[bL,.rowc tI,bL,.cells [.nils],.rowc .bool,.rowc tI]⟩,[tI])]
def tD (ρ:Type):à ρ:=⟨[2,3],197,0,tE,fun(p:Val (tyL tE.cs)) (v:Val Ã) a b=>gY p.2.1 p.2.2.1 v.1 v.2 (fun c d=>a (c,d)) (b 0)⟩
def tC:Å:=Ls 2 [ao,tI,tI,tI,ak,ab,tI,ak,ab] [tI,aq,ab] ⟨140,.any::.con ao::.own 1::.box 2 0::aN 3 (.box 3 0::.own 4::.own 5::.con tI::aN 27 [.con tI,.var tI]),cf⟩ [(.exit 2,⟨140,.any::.con ao::.own 1::.box 2 0::aN 3 (.box 3 0::.own 4::.own 5::.con tI::aN 27 [.con tI]),cf⟩,[aq,ab])]
def tB (ρ:Type):à ρ:=⟨[2,3],197,2,tC,fun(p:Val (tyL tC.cs)) (v:Val (.pair tI aL)) a b=>Ř p.2.2.1 p.2.2.2.2.2.1 v.1 v.2.1 v.2.2 (fun c d e=>a (c,d,e)) (b 0)⟩
def tx:Å:=Ls 2 [ao,tI,tI,ak,tI,tI,ak,tI,ak,ab] [tI,ab,aq,ab] ⟨140,.any::.con ao::.own 1::.box 2 0::aN 3 (.box 3 0::.own 4::.own 5::.con tI::aN 3 (.con tI::aN 62 [.con ak,.con tI,.var tI])),cg⟩ [(.ret,⟨140,.any::.con ao::.own 1::.box 2 0::aN 2 (.var .bool::.box 3 0::.own 4::.own 5::.con tI::aN 3 (.con tI::aN 62 [.con ak,.con tI])),cg⟩,[.bool,ab,aq,ab]),(.exit 6,⟨140,.any::.con ao::.own 1::.box 2 0::aN 3 (.box 3 0::.own 4::.own 5::.con tI::aN 3 (.con tI::aN 62 [.con ak,.con tI])),cg⟩,[ab,aq,ab])]
def tv (ρ:Type):à ρ:=⟨[2,3],197,6,tx,fun(p:Val (tyL tx.cs)) (v:Val (.pair tI (.pair ab aL))) b a=>iY p.1 p.2.1 p.2.2.1 p.2.2.2.1 p.2.2.2.2.1 v.1 v.2.1 v.2.2.1 v.2.2.2 (fun c d e f=>b (c,d,e,f)) (a 0) (a 1)⟩
def Fy:Å:=Ls 2 [ao,tI,tI,ak,tI,ak] [ab,aq,ab,ab] ⟨140,[.any,.con ao,.own 1,.box 2 0,.any,.any,.any,.box 3 0,.own 4,.own 5,.con tI],ci⟩ [(.ret,⟨140,[.any,.con ao,.own 1,.box 2 0,.any,.any,.var .bool,.box 3 0,.own 4,.own 5,.con tI],ci⟩,[.bool,ab,aq,ab,ab])]
def tz (ρ:Type):à ρ:=⟨[2,3],197,4,Fy,fun(p:Val (.pair ao bo)) (v:Val aM) a b=>ī p.1 p.2.1 p.2.2.2.2.1 p.2.2.2.2.2 v.1 v.2.1 v.2.2.1 v.2.2.2 (fun c d e f=>a (c,d,e,f)) (b 0)⟩
def Fx:Å:=Ls 0 [tI,tI] [tI,ab] ⟨34,aN 6 (.own 0::.con tI::aN 13 [.con tI,.var tI]),bZ⟩ [(.exit 0,⟨34,aN 6 (.own 0::.con tI::aN 13 [.con tI]),bZ⟩,[ab])]
def tr (ρ:Type):à ρ:=⟨[],127,0,Fx,fun(p:Val Ã) (v:Val Ī) a b=>iX p.1 p.2 v.1 v.2 (fun c d=>a (c,d)) (b 0)⟩
def J6:List (Nat×ã):=[]
def HN (ρ:Type):List (à ρ):=[tD ρ,tB ρ,tv ρ,tz ρ,tr ρ]
def Τ (ρ:Type):Env ρ:=ê J6 (HN ρ)
def zU:ã:=⟨[Ì],[.bool,tI],fun(x:Val Ì)=>mR x⟩
def FC:List (Nat×ã):=[(126,wO),(127,qv)]
def Dp (ρ:Type):List (à ρ):=[]
def vR (ρ:Type):Env ρ:=ê FC (Dp ρ)
def qu:ã:=⟨[Â,aj],[.bool],fun(x:Val aJ)=>Λ x.1 x.2⟩
def JT:List (Nat×ã):=[(66,sw),(104,kF),(155,zU)]
def HB (ρ:Type):List (à ρ):=[]
def Aj (ρ:Type):Env ρ:=ê JT (HB ρ)
def N9:ã:=⟨[Â,aj],[tI],fun(x:Val aJ)=>ĵ x.1 x.2⟩
def xb:Å:=Ls 0 [tI,aj,tI,tI,ab,tI,tI,tI,ae,aa,af,ac,aa,ai] [tI,tI] ⟨40,aN 2 (.box 0 0::aN 2 (.var tI::.con tI::aN 3 (.con aj::.con tI::.con tI::aN 4 [.con ab,.con tI,.var tI]))),[bw]⟩ [(.exit 2,⟨40,aN 2 (.box 0 0::aN 2 (.var tI::.con tI::aN 3 (.con aj::.con tI::.con tI::aN 4 [.con ab,.con tI]))),[bw]⟩,[tI])]
def wZ (ρ:Type):à ρ:=⟨[],116,2,xb,fun(p:Val (tyL xb.cs)) (v:Val Ã) a b=>let A:=p.2.2.2.2;ot p.1 A.1 A.2.1 A.2.2.2.2.2.2.2.2.2 v.1 v.2 (fun c d=>a (c,d)) (b 0)⟩
def Jw:Å:=Ls 0 [aj,tI,tI,tI,ae,aa,af,ac,aa,ai] [tI,tI] ⟨40,aN 2 (.box 0 0::aN 2 (.var tI::aN 4 [.con aj,.con tI,.var tI])),[bw]⟩ [(.exit 0,⟨40,aN 2 (.box 0 0::aN 2 (.var tI::aN 4 [.con aj,.con tI])),[bw]⟩,[tI])]
def xc (ρ:Type):à ρ:=⟨[],116,0,Jw,fun(p:Val (.pair aj aD)) (v:Val Ã) a b=>ou p.1 p.2.1 p.2.2.2.2.2.2.2.2.2 v.1 v.2 (fun c d=>a (c,d)) (b 0)⟩
def PS:List (Nat×ã):=[]
def Ms (ρ:Type):List (à ρ):=[wZ ρ,xc ρ]
def qC (ρ:Type):Env ρ:=ê PS (Ms ρ)
def wP:ã:=⟨[tI],[.bool],fun(x:Val tI)=>lz x⟩
def Dx:List (Nat×ã):=[]
def BH (ρ:Type):List (à ρ):=[]
def tF (ρ:Type):Env ρ:=ê Dx (BH ρ)
def mb:ã:=⟨[tI,tI],[tI],fun(x:Val Ã)=>g9 x.1 x.2⟩
def zG:List (Nat×ã):=[(234,wP)]
def xN (ρ:Type):List (à ρ):=[]
def pN (ρ:Type):Env ρ:=ê zG (xN ρ)
def EX:ã:=⟨[aj,aj,ar],[tI],fun(x:Val (.pair aj (.pair aj ar)))=>jo x.1 x.2.1 x.2.2⟩
def PT:List (Nat×ã):=[(116,N9),(180,mb)]
def MA (ρ:Type):List (à ρ):=[]
def GO (ρ:Type):Env ρ:=ê PT (MA ρ)
def ā:aaQ:=⟨aj,[tI,tI],179,Â,fun(xs:Val ag) (x:Val Ã) (m:Val Â)=>å xs x.1 x.2 m⟩
def kR:Å:=Ls 2 [tI,tI,tI,tI,tI,ae,aa,af,ac,aa,ai] [tI,ag] ⟨53,.own 0::.con tI::.con tI::.fn 179 [(1,0)]::aN 4 [.con tI,.var tI],cj⟩ [(.exit 2,⟨53,.own 0::.con tI::.con tI::.fn 179 [(1,0)]::aN 4 [.con tI],cj⟩,[ag])]
def Θ (ρ:Type):à ρ:=⟨[],273,2,kR,fun(p:Val aX) (v:Val aB) a b=>let A:=p.2.2.2.2;let B:=A.2.2.2.2;æ p.1 p.2.2.2.1 A.1 A.2.1 A.2.2.1 A.2.2.2.1 B.1 B.2.1 B.2.2 v.1 v.2 (fun c d=>a (c,d)) (b 0)⟩
def kS:Å:=Ls 2 [tI,tI,tI,tI,ae,aa,af,ac,aa,ai] [tI,ag] ⟨53,.own 0::.con tI::.con tI::.fn 179 [(1,0)]::aN 4 [.var tI],cj⟩ [(.exit 0,⟨53,[.own 0,.con tI,.con tI,.fn 179 [(1,0)]],cj⟩,[ag])]
def Ι (ρ:Type):à ρ:=⟨[],273,0,kS,fun(p:Val (.pair tI aD)) (v:Val aB) a b=>let A:=p.2.2.2.2;ĉ p.1 p.2.1 p.2.2.1 p.2.2.2.1 A.1 A.2.1 A.2.2.1 A.2.2.2.1 A.2.2.2.2.1 A.2.2.2.2.2 v.1 v.2 (fun c d=>a (c,d)) (b 0)⟩
def mj:List (Nat×ã):=[(179,EX)]
def Ω (ρ:Type):List (à ρ):=[Θ ρ,Ι ρ]
def ò (ρ:Type):Env ρ:={ê mj (Ω ρ) with hint:=Rl [(22,179)]}
def į:aaQ:=⟨aj,[tI,tI,tI],179,Â,fun(xs:Val ag) (x:Val ŕ) (m:Val Â)=>ķ xs x.1 x.2.1 x.2.2 m⟩
def ql:Å:=Ls 2 [tI,tI,tI,tI,tI,ae,aa,af,ac,aa,ai] [tI,ag] ⟨38,.own 0::.con tI::.con tI::.con tI::aN 6 [.var tI],cj⟩ [(.exit 0,⟨38,[.own 0,.con tI,.con tI,.con tI],cj⟩,[ag])]
def jy (ρ:Type):à ρ:=⟨[4,7],317,0,ql,fun(p:Val aX) (v:Val aB) a b=>Ĉ p.1 p.2.1 p.2.2.1 v.1 v.2 (fun c d=>a (c,d)) (b 0)⟩
def qk:Å:=Ls 2 [tI,tI,tI,tI,tI,ae,aa,af,ac,aa,ai] [tI,ag] ⟨38,.own 0::.con tI::.con tI::.con tI::aN 6 [.var tI],cj⟩ [(.exit 0,⟨38,[.own 0,.con tI,.con tI,.con tI],cj⟩,[ag])]
def jx (ρ:Type):à ρ:=⟨[6,11],317,0,qk,fun(p:Val aX) (v:Val aB) a b=>ω p.1 p.2.1 p.2.2.1 v.1 v.2 (fun c d=>a (c,d)) (b 0)⟩
def qm:Å:=Ls 2 [tI,tI,tI,ae,aa,af,ac,aa,ai] [tI,tI,ag] ⟨58,.own 0::.any::.con tI::.any::.fn 179 [(1,0)]::aN 5 [.var tI,.var tI],cj⟩ [(.exit 0,⟨58,.own 0::.any::.con tI::.any::.fn 179 [(1,0)]::aN 5 [.var tI],cj⟩,[tI,ag])]
def jz (ρ:Type):à ρ:=⟨[],300,0,qm,fun(p:Val aD) (v:Val (.pair tI aB)) a b=>Ĵ p.1 v.1 v.2.1 v.2.2 (fun c d e=>a (c,d,e)) (b 0)⟩
def qj:Å:=Ls 2 [tI,tI,tI,tI,tI,ae,aa,af,ac,aa,ai] [tI,ag] ⟨38,.own 0::.con tI::.con tI::.con tI::aN 6 [.var tI],cj⟩ [(.exit 0,⟨38,[.own 0,.con tI,.con tI,.con tI],cj⟩,[ag])]
def jw (ρ:Type):à ρ:=⟨[8,7],317,0,qj,fun(p:Val aX) (v:Val aB) a b=>ψ p.1 p.2.1 p.2.2.1 v.1 v.2 (fun c d=>a (c,d)) (b 0)⟩
def tc:List (Nat×ã):=[]
def jJ (ρ:Type):List (à ρ):=[jy ρ,jx ρ,jz ρ,jw ρ]
def û (ρ:Type):Env ρ:=ê tc (jJ ρ)
def kG:aaQ:=⟨aj,[tI,tI,tI],179,Â,fun(xs:Val ag) (x:Val ŕ) (m:Val Â)=>Đ xs x.1 x.2.1 x.2.2 m⟩
def Ć:Å:=Ls 2 [tI,ag,tI,tI,ae,aa,af,ac,aa,ai] [tI,tI] ⟨220,.own 0::.con tI::aN 2 (.fn 179 [(1,0)]::aN 5 [.var tI,.var tI]),cm⟩ [(.exit 0,⟨220,.own 0::.con tI::aN 2 (.fn 179 [(1,0)]::aN 5 [.var tI]),cm⟩,[tI])]
def Ũ (rec:Val ag→Int→Int→Int→Val Â→Option ((Val ag)×(Val Â))) (ρ:Type):à ρ:=⟨[],274,0,Ć,fun(p:Val au) (v:Val Ã) a b=>ô rec p.1 p.2.1 p.2.2.1 p.2.2.2.1 p.2.2.2.2.1 p.2.2.2.2.2.1 p.2.2.2.2.2.2.1 p.2.2.2.2.2.2.2.1 p.2.2.2.2.2.2.2.2.1 p.2.2.2.2.2.2.2.2.2 v.1 v.2 (fun c d=>a (c,d)) (b 0)⟩
def ą:Å:=Ls 2 [tI,tI,tI,ae,aa,af,ac,aa,ai] [tI,ag] ⟨220,.own 0::aN 9 [.con tI,.any,.any,.var tI],cj⟩ [(.exit 2,⟨220,.own 0::aN 9 [.con tI],cj⟩,[ag])]
def ŧ (rec:Val ag→Int→Int→Int→Val Â→Option ((Val ag)×(Val Â))) (ρ:Type):à ρ:=⟨[],274,2,ą,fun(p:Val aD) (v:Val aB) a b=>ì rec p.1 v.1 v.2 (fun c d=>a (c,d)) (b 0)⟩
def Ą:Å:=Ls 2 [tI,ag,tI,tI,ae,aa,af,ac,aa,ai] [tI,tI] ⟨220,.own 0::.any::.con tI::.any::.fn 179 [(1,0)]::aN 9 [.var tI,.var tI],cm⟩ [(.exit 4,⟨220,.own 0::.any::.con tI::.any::.fn 179 [(1,0)]::aN 9 [.var tI],cm⟩,[tI])]
def Ŧ (rec:Val ag→Int→Int→Int→Val Â→Option ((Val ag)×(Val Â))) (ρ:Type):à ρ:=⟨[],274,4,Ą,fun(p:Val au) (v:Val Ã) a b=>ó rec p.1 p.2.1 p.2.2.1 p.2.2.2.1 p.2.2.2.2.1 p.2.2.2.2.2.1 p.2.2.2.2.2.2.1 p.2.2.2.2.2.2.2.1 p.2.2.2.2.2.2.2.2.1 p.2.2.2.2.2.2.2.2.2 v.1 v.2 (fun c d=>a (c,d)) (b 0)⟩
def ă:Å:=Ls 2 [tI,tI,tI,ae,aa,af,ac,aa,ai] [tI,ag] ⟨220,.own 0::aN 13 [.con tI,.any,.any,.var tI],cj⟩ [(.exit 6,⟨220,.own 0::aN 13 [.con tI],cj⟩,[ag])]
def ť (rec:Val ag→Int→Int→Int→Val Â→Option ((Val ag)×(Val Â))) (ρ:Type):à ρ:=⟨[],274,6,ă,fun(p:Val aD) (v:Val aB) a b=>ë rec p.1 v.1 v.2 (fun c d=>a (c,d)) (b 0)⟩
def Ă:Å:=Ls 2 [tI,tI,tI,tI,tI,tI,ag,tI,tI,ae,aa,af,ac,aa,ai] [tI,tI] ⟨220,.own 0::.con tI::.con tI::.con tI::.fn 179 [(1,0)]::aN 13 [.con tI,.con tI,.var tI,.var tI,.con tI],cm⟩ [(.exit 8,⟨220,.own 0::.con tI::.con tI::.con tI::.fn 179 [(1,0)]::aN 13 [.con tI,.con tI,.var tI,.any,.con tI],cm⟩,[tI])]
def Ť (rec:Val ag→Int→Int→Int→Val Â→Option ((Val ag)×(Val Â))) (ρ:Type):à ρ:=⟨[],274,8,Ă,fun(p:Val aO) (v:Val Ã) a b=>Þ rec p.2.2.2.2.2.1 p.2.2.2.2.2.2.1 p.2.2.2.2.2.2.2.1 p.2.2.2.2.2.2.2.2.1 p.2.2.2.2.2.2.2.2.2.1 p.2.2.2.2.2.2.2.2.2.2.1 p.2.2.2.2.2.2.2.2.2.2.2.1 p.2.2.2.2.2.2.2.2.2.2.2.2.1 p.2.2.2.2.2.2.2.2.2.2.2.2.2.1 p.2.2.2.2.2.2.2.2.2.2.2.2.2.2 v.1 v.2 (fun c d=>a (c,d)) (b 0)⟩
def qe (rec:Val ag→Int→Int→Int→Val Â→Option ((Val ag)×(Val Â))):List (Nat×ã):=[(179,EX)]
def qd (rec:Val ag→Int→Int→Int→Val Â→Option ((Val ag)×(Val Â))):List (Nat×Zj):=[(274,.row ⟨aj,[tI,tI,tI],179,Â,fun(xs:Val ag) (x:Val ŕ) (m:Val Â)=>rec xs x.1 x.2.1 x.2.2 m⟩),(300,.row į)]
def iU (rec:Val ag→Int→Int→Int→Val Â→Option ((Val ag)×(Val Â))) (ρ:Type):List (à ρ):=[Ũ rec ρ,ŧ rec ρ,Ŧ rec ρ,ť rec ρ,Ť rec ρ]
def Ç (rec:Val ag→Int→Int→Int→Val Â→Option ((Val ag)×(Val Â))) (ρ:Type):Env ρ:={Ys (qe rec) (iU rec ρ) (qd rec) with hint:=Rl [(40,179),(92,179),(158,179)]}
def ĝ:aaQ:=⟨aj,[tI],179,Â,fun(xs:Val ag) (x:Val tI) (m:Val Â)=>Ķ xs x m⟩
def qi:Å:=Ls 2 [tI,tI] [tI,tI,ag,tI,tI,ae,aa,af,ac,aa,ai] ⟨63,[.own 0,.con tI,.fn 179 [(1,0)],.any,.any,.any,.con tI,.var tI,.var tI],cn⟩ [(.exit 0,⟨63,[.own 0,.con tI,.fn 179 [(1,0)],.any,.any,.any,.con tI,.var tI],cn⟩,[tI,ag,tI,tI,ae,aa,af,ac,aa,ai])]
def jv (ρ:Type):à ρ:=⟨[],233,0,qi,fun(p:Val Ã) (v:Val (.pair tI au)) a b=>χ p.1 p.2 v.1 v.2.1 v.2.2.1 v.2.2.2.1 v.2.2.2.2.1 v.2.2.2.2.2.1 v.2.2.2.2.2.2.1 v.2.2.2.2.2.2.2.1 v.2.2.2.2.2.2.2.2.1 v.2.2.2.2.2.2.2.2.2.1 v.2.2.2.2.2.2.2.2.2.2 (fun c d e f g h i j k l m=>a (c,d,e,f,g,h,i,j,k,l,m)) (b 0)⟩
def qf:Å:=Ls 2 [tI,tI] [tI,tI,ag,tI,tI,ae,aa,af,ac,aa,ai] ⟨63,[.own 0,.con tI,.fn 179 [(1,0)],.any,.any,.any,.con tI,.var tI,.var tI],cn⟩ [(.exit 4,⟨63,[.own 0,.con tI,.fn 179 [(1,0)],.any,.any,.any,.con tI,.var tI],cn⟩,[tI,ag,tI,tI,ae,aa,af,ac,aa,ai])]
def jt (ρ:Type):à ρ:=⟨[],233,4,qf,fun(p:Val Ã) (v:Val (.pair tI au)) a b=>ς p.1 p.2 v.1 v.2.1 v.2.2.1 v.2.2.2.1 v.2.2.2.2.1 v.2.2.2.2.2.1 v.2.2.2.2.2.2.1 v.2.2.2.2.2.2.2.1 v.2.2.2.2.2.2.2.2.1 v.2.2.2.2.2.2.2.2.2.1 v.2.2.2.2.2.2.2.2.2.2 (fun c d e f g h i j k l m=>a (c,d,e,f,g,h,i,j,k,l,m)) (b 0)⟩
def qg:Å:=Ls 2 [tI] [tI,ag,tI,tI,ae,aa,af,ac,aa,ai] ⟨63,[.own 0,.con tI,.fn 179 [(1,0)],.any,.any,.any,.var tI],cn⟩ [(.exit 2,⟨63,[.own 0,.con tI,.fn 179 [(1,0)]],cn⟩,[ag,tI,tI,ae,aa,af,ac,aa,ai])]
def ju (ρ:Type):à ρ:=⟨[],233,2,qg,fun(p:Val tI) (v:Val au) a b=>υ p v.1 v.2.1 v.2.2.1 v.2.2.2.1 v.2.2.2.2.1 v.2.2.2.2.2.1 v.2.2.2.2.2.2.1 v.2.2.2.2.2.2.2.1 v.2.2.2.2.2.2.2.2.1 v.2.2.2.2.2.2.2.2.2 (fun c d e f g h i j k l=>a (c,d,e,f,g,h,i,j,k,l)) (b 0)⟩
def ta:List (Nat×ã):=[]
def s9:List (Nat×Zj):=[(273,.row ā),(274,.row kG)]
def jI (ρ:Type):List (à ρ):=[jv ρ,jt ρ,ju ρ]
def ď (ρ:Type):Env ρ:=Ys ta (jI ρ) s9
def PB:ã:=⟨[Â],[ag],fun(x:Val Â)=>Ek x⟩
def kO:Tpl:=⟨13,[.any,.any,.box 3 0],[.cells [.con tI,.con tI,.con ae,.con aa,.con af,.con ac,.con aa,.con ai],.cells [.con tI,.con tI,.con ae,.con aa,.con af,.con ac,.con aa,.con ai],.dead,.cells [.own 4],.rowv aj]⟩
def ow (ρ:Type):EJ ρ:=⟨[1,1,1,3,1,1],230,0,4,[tI,tI,ae,aa,af,ac,aa,ai,tI,tI,ae,aa,af,ac,aa,ai],[ag],kO,pR,fun(p:Val ax) (v:Val ag) y a=>Bu v y (fun b=>a b)⟩
def CX:Å:=Ls 5 [tI,tI,tI,ae,aa,af,ac,aa,ai,tI,tI,ae,aa,af,ac,aa,ai,ai,ag] [tI] ⟨19,.own 4::.fn 158 [(0,0)]::aN 5 [.con tI,.var tI],[bw,bw,bO,bP,.rowc aj]⟩ [(.ret,⟨19,[.own 4,.fn 158 [(0,0)],.any,.any,.var tI,.any,.any,.con tI],[bw,bw,bO,bP,.rowc aj]⟩,[tI]),(.exit 0,⟨19,.own 4::.fn 158 [(0,0)]::aN 5 [.con tI],[bw,bw,bO,bP,.rowc aj]⟩,[])]
def CW (ρ:Type):à ρ:=⟨[1,3,1,2],186,0,CX,fun(p:Val (tyL CX.cs)) (v:Val tI) b a=>let A:=p.2.2.2.2;uC p.1 p.2.1 p.2.2.1 p.2.2.2.1 A.1 A.2.1 A.2.2.1 A.2.2.2.1 A.2.2.2.2.1 A.2.2.2.2.2.2.2.2.2.2.2.2.2.2 v (fun c=>b c) (a 0) (a 1)⟩
def CV:Å:=Ls 5 [tI,tI,ae,aa,af,ac,aa,ai,tI,tI,ae,aa,af,ac,aa,ai,ai] [tI,tI,ag] ⟨42,[.own 4,.fn 158 [(0,0)],.any,.any,.any,.var tI,.var tI],[bw,bw,bO,bP,.rowv aj]⟩ [(.exit 0,⟨42,[.own 4,.fn 158 [(0,0)],.any,.any,.any,.var tI],[bw,bw,bO,bP,.rowv aj]⟩,[tI,ag])]
def CU (ρ:Type):à ρ:=⟨[1,3],157,0,CV,fun(p:Val (tyL CV.cs)) (v:Val (.pair tI aB)) a b=>let A:=p.2.2.2.2;mg p.1 p.2.1 p.2.2.1 p.2.2.2.1 A.1 A.2.1 A.2.2.1 A.2.2.2.1 v.1 v.2.1 v.2.2 (fun c d e=>a (c,d,e)) (b 0)⟩
def JQ (ρ:Type):List (EJ ρ):=[ow ρ]
def Wa:List (Nat×ã):=[(79,qu)]
def V9:List (Nat×Zj):=[(233,.row ĝ)]
def GR (ρ:Type):List (à ρ):=[CW ρ,CU ρ]
def ο (ρ:Type):Env ρ:={Ys Wa (GR ρ) V9 with ranges:=Η (JQ ρ)}
def abK:ã:=⟨[Â],[ag,tI],fun(x:Val Â)=>Rt x⟩
def ZY:List (Nat×ã):=[(80,iB),(81,PB)]
def Wi (ρ:Type):List (à ρ):=[]
def TL (ρ:Type):Env ρ:=ê ZY (Wi ρ)
def yC:ã:=⟨[Â],[ag],fun(x:Val Â)=>rE x⟩
def kM:Tpl:=⟨13,[.any,.any,.box 2 0],[.cells [.con tI,.con tI,.con ae,.con aa,.con af,.con ac,.con aa,.con ai],.dead,.cells [.own 3],.rowv aj]⟩
def ov (ρ:Type):EJ ρ:=⟨[1,3,1,1],230,0,3,[tI,tI,ae,aa,af,ac,aa,ai],[ag],kM,pR,fun(p:Val ah) (v:Val ag) y a=>Bi v y (fun b=>a b)⟩
def Jy (ρ:Type):List (EJ ρ):=[ov ρ]
def V7:List (Nat×ã):=[]
def V6:List (Nat×Zj):=[(233,.row ĝ)]
def GN (ρ:Type):List (à ρ):=[]
def jj (ρ:Type):Env ρ:={Ys V7 (GN ρ) V6 with ranges:=Η (Jy ρ)}
def oo:ã:=⟨[Â],[aj,.bool],fun(x:Val Â)=>ü x⟩
def CY:Å:=Ls 1 [ag,tI,tI,tI,ae,aa,af,ac,aa,ai] [tI] ⟨21,.any::.fn 159 [(0,0)]::aN 7 [.con ag,.con tI,.var tI],[bw]⟩ [(.ret,⟨21,[.any,.fn 159 [(0,0)],.any,.any,.var aj,.var .bool,.any,.any,.any,.con ag,.con tI],[bw]⟩,[aj,.bool]),(.exit 0,⟨21,.any::.fn 159 [(0,0)]::aN 7 [.con ag,.con tI],[bw]⟩,[])]
def qN (ρ:Type):à ρ:=⟨[1,3],99,0,CY,fun(p:Val (.pair ag aD)) (v:Val tI) b a=>let A:=p.2.2.2.2;jW p.1 p.2.1 p.2.2.1 p.2.2.2.1 A.1 A.2.1 A.2.2.1 A.2.2.2.1 A.2.2.2.2.1 A.2.2.2.2.2 v (fun c=>b c) (a 0) (a 1)⟩
def HD:List (Nat×ã):=[(79,qu),(96,yC)]
def Ff (ρ:Type):List (à ρ):=[qN ρ]
def pv (ρ:Type):Env ρ:=ê HD (Ff ρ)
def Jb:ã:=⟨[Â],[aj,tI],fun(x:Val Â)=>tR x⟩
def TH:List (Nat×ã):=[(80,iB),(82,oo)]
def Qc (ρ:Type):List (à ρ):=[]
def J0 (ρ:Type):Env ρ:=ê TH (Qc ρ)
def uq:ã:=⟨[ab,ab],[.bool],fun(x:Val (.pair ab ab))=>jp x.1 x.2⟩
def Df:Å:=Ls 0 [ab,ab] [tI] ⟨26,[.con ab,.con ab,.any,.any,.any,.var tI],[]⟩ [(.ret,⟨26,[.con ab,.con ab,.any,.any,.var .bool],[]⟩,[.bool]),(.exit 0,⟨26,[.con ab,.con ab],[]⟩,[])]
def qW (ρ:Type):à ρ:=⟨[],35,0,Df,fun(p:Val (.pair ab ab)) (v:Val tI) b a=>jY p.1 p.2 v (fun c=>b c) (a 0) (a 1)⟩
def HM:List (Nat×ã):=[]
def Fu (ρ:Type):List (à ρ):=[qW ρ]
def pL (ρ:Type):Env ρ:=ê HM (Fu ρ)
def GH:ã:=⟨[aj,aj],[.bool],fun(x:Val (.pair aj aj))=>rH x.1 x.2⟩
def Ft:Å:=Ls 0 [aj,aj] [tI] ⟨29,[.con aj,.con aj,.any,.any,.any,.var tI],[]⟩ [(.ret,⟨29,[.con aj,.con aj,.any,.any,.var .bool],[]⟩,[.bool]),(.exit 0,⟨29,[.con aj,.con aj],[]⟩,[])]
def tq (ρ:Type):à ρ:=⟨[],26,0,Ft,fun(p:Val (.pair aj aj)) (v:Val tI) b a=>lf p.1 p.2 v (fun c=>b c) (a 0) (a 1)⟩
def J5:List (Nat×ã):=[(35,uq)]
def HK (ρ:Type):List (à ρ):=[tq ρ]
def rZ (ρ:Type):Env ρ:=ê J5 (HK ρ)
def Cs:ã:=⟨[Â,tI,tI],[tI],fun(x:Val ba)=>tQ x.1 x.2.1 x.2.2⟩
def Aa:Å:=Ls 2 [ae,tI,tI,tI,ae,aa,af,ac,aa,ai,tI] [tI] ⟨19,.con ae::.fn 169 [(1,0)]::aN 5 [.con tI,.var tI],[bw,bu]⟩ [(.ret,⟨19,[.con ae,.fn 169 [(1,0)],.any,.any,.var tI,.any,.any,.con tI],[bw,bu]⟩,[tI]),(.exit 0,⟨19,.con ae::.fn 169 [(1,0)]::aN 5 [.con tI],[bw,bu]⟩,[])]
def zZ (ρ:Type):à ρ:=⟨[3,4,1,2],229,0,Aa,fun(p:Val (tyL Aa.cs)) (v:Val tI) b a=>qL p.1 p.2.1 p.2.2.2.2.2.2.2.2.2.2 v (fun c=>b c) (a 0) (a 1)⟩
def Tv:List (Nat×ã):=[]
def PX (ρ:Type):List (à ρ):=[zZ ρ]
def Bt (ρ:Type):Env ρ:=ê Tv (PX ρ)
def Og:ã:=⟨[ab,ab],[ab,ab,tI],fun(x:Val (.pair ab ab))=>oZ x.1 x.2⟩
def Q8:List (Nat×ã):=[(148,Cy),(172,EZ)]
def NH (ρ:Type):List (à ρ):=[]
def G5 (ρ:Type):Env ρ:=ê Q8 (NH ρ)
def Ct:ã:=⟨[Â,tI],[.bool,tI],fun(x:Val (.pair Â tI))=>oE x.1 x.2⟩
def qS:Å:=Ls 6 [tI,tI,tI,ae,aa,af,ac,aa,ai,tI,tI,tI,ae,aa,af,ac,aa,ai,tI,tI,ac] [tI] ⟨19,.own 5::.fn 171 [(3,0)]::aN 5 [.con tI,.var tI],cp⟩ [(.ret,⟨19,[.own 5,.fn 171 [(3,0)],.any,.any,.var tI,.any,.any,.con tI],cp⟩,[tI]),(.exit 0,⟨19,.own 5::.fn 171 [(3,0)]::aN 5 [.con tI],cp⟩,[])]
def qR (ρ:Type):à ρ:=⟨[7,2,1,5,1,2],175,0,qS,fun(p:Val (tyL qS.cs)) (v:Val tI) b a=>jX p.1 p.2.2.2.2.2.2.2.2.2.1 p.2.2.2.2.2.2.2.2.2.2.2.2.2.2.2.2.2.2.2.2 v (fun c=>b c) (a 0) (a 1)⟩
def qQ:Å:=Ls 6 [tI,tI,ae,aa,af,ac,aa,ai,tI,tI,tI,ae,aa,af,ac,aa,ai,tI,tI] [tI,tI,ac] ⟨42,[.own 5,.fn 171 [(3,0)],.any,.any,.any,.var tI,.var tI],[bw,bu,bw,bQ,bR,.rowv â]⟩ [(.exit 0,⟨42,[.own 5,.fn 171 [(3,0)],.any,.any,.any,.var tI],[bw,bu,bw,bQ,bR,.rowv â]⟩,[tI,ac])]
def qP (ρ:Type):à ρ:=⟨[7,2,1,5],151,0,qQ,fun(p:Val (tyL qQ.cs)) (v:Val (.pair tI aH)) a b=>Δ p.2.2.2.2.2.2.2.2.1 v.1 v.2.1 v.2.2 (fun c d e=>a (c,d,e)) (b 0)⟩
def HF:List (Nat×ã):=[(80,iB),(82,oo),(88,Cs),(91,Og),(92,Ņ)]
def Fm (ρ:Type):List (à ρ):=[qR ρ,qP ρ]
def kP (ρ:Type):Env ρ:=ê HF (Fm ρ)
def PA:ã:=⟨[Â,ab],[Â],fun(x:Val (.pair Â ab))=>yT x.1 x.2⟩
def CS:Å:=Ls 7 [tI,tI,tI,ae,aa,af,ac,aa,ai,ab,tI,tI,tI,tI,ae,aa,af,ac,aa,ai,tI,tI,ac] [tI] ⟨19,.own 6::.fn 171 [(4,0)]::aN 5 [.con tI,.var tI],cq⟩ [(.ret,⟨19,[.own 6,.fn 171 [(4,0)],.any,.any,.var tI,.any,.any,.con tI],cq⟩,[tI]),(.exit 0,⟨19,.own 6::.fn 171 [(4,0)]::aN 5 [.con tI],cq⟩,[])]
def CQ (ρ:Type):à ρ:=⟨[1,2,1,5,1,2],175,0,CS,fun(p:Val (tyL CS.cs)) (v:Val tI) b a=>uB p.1 p.2.2.2.2.2.2.2.2.2.1 p.2.2.2.2.2.2.2.2.2.2.2.2.2.2.2.2.2.2.2.2.2.2 v (fun c=>b c) (a 0) (a 1)⟩
def CP:Å:=Ls 7 [tI,tI,ae,aa,af,ac,aa,ai,ab,tI,tI,tI,tI,ae,aa,af,ac,aa,ai,tI,tI] [tI,tI,ac] ⟨42,[.own 6,.fn 171 [(4,0)],.any,.any,.any,.var tI,.var tI],[bw,bp,bR,bw,bS,bR,.rowv â]⟩ [(.exit 0,⟨42,[.own 6,.fn 171 [(4,0)],.any,.any,.any,.var tI],[bw,bp,bR,bw,bS,bR,.rowv â]⟩,[tI,ac])]
def CO (ρ:Type):à ρ:=⟨[1,2,1,5],151,0,CP,fun(p:Val (tyL CP.cs)) (v:Val (.pair tI aH)) a b=>mf p.2.2.2.2.2.2.2.2.1 v.1 v.2.1 v.2.2 (fun c d e=>a (c,d,e)) (b 0)⟩
def V8:List (Nat×ã):=[(92,Ņ)]
def Tt (ρ:Type):List (à ρ):=[CQ ρ,CO ρ]
def yF (ρ:Type):Env ρ:=ê V8 (Tt ρ)
def Yf:ã:=⟨[Â],[ab,tI],fun(x:Val Â)=>Iy x⟩
def Qg:Å:=Ls 0 [ac,tI,tI,tI,ae,aa,af,ac,aa,ai] [tI,ab] ⟨66,.any::.box 0 0::aN 5 (.own 1::aN 19 [.con ac,.con tI,.var tI]),[bw,.rowv tI]⟩ [(.exit 0,⟨66,.any::.box 0 0::aN 5 (.own 1::aN 19 [.con ac,.con tI]),[bw,.rowv tI]⟩,[ab])]
def Da (ρ:Type):à ρ:=⟨[],29,0,Qg,fun(p:Val (.pair ac aD)) (v:Val Ī) a b=>uG p.1 p.2.1 v.1 v.2 (fun c d=>a (c,d)) (b 0)⟩
def Qf:Å:=Ls 0 [tI,tI,ae,aa,af,ac,aa,ai] [ab,tI] ⟨66,.any::.box 0 0::aN 5 [.var ab,.any,.any,.var tI],[bw]⟩ [(.exit 2,⟨66,.any::.box 0 0::aN 5 [.var ab],[bw]⟩,[ab])]
def C9 (ρ:Type):à ρ:=⟨[],29,2,Qf,fun(p:Val ah) (v:Val ay) a b=>let A:=p.2.2.2.2;pw p.1 p.2.1 p.2.2.1 p.2.2.2.1 A.1 A.2.1 A.2.2.1 A.2.2.2 v.1 v.2 (fun c d=>a (c,d)) (b 0)⟩
def Wh:List (Nat×ã):=[(80,iB),(82,oo),(87,PA),(93,iM)]
def TI (ρ:Type):List (à ρ):=[Da ρ,C9 ρ]
def yG (ρ:Type):Env ρ:=ê Wh (TI ρ)
def Oc:ã:=⟨[ab,tI],[ab],fun(x:Val ay)=>iE x.1 x.2⟩
def JU:Å:=Ls 0 [tI,ab,tI] [tI,ab] ⟨26,[.any,.con tI,.any,.any,.any,.own 0,.any,.any,.con ab,.con tI,.var tI],bZ⟩ [(.exit 0,⟨26,[.any,.con tI,.any,.any,.any,.own 0,.any,.any,.con ab,.con tI],bZ⟩,[ab])]
def xo (ρ:Type):à ρ:=⟨[],98,0,JU,fun(p:Val (.pair tI ay)) (v:Val Ī) a b=>ox p.1 p.2.1 p.2.2 v.1 v.2 (fun c d=>a (c,d)) (b 0)⟩
def P4:List (Nat×ã):=[]
def MS (ρ:Type):List (à ρ):=[xo ρ]
def xp (ρ:Type):Env ρ:=ê P4 (MS ρ)
def GG:ã:=⟨[Â,ab],[ab,tI],fun(x:Val (.pair Â ab))=>rG x.1 x.2⟩
def sZ:Å:=Ls 3 [ac,tI,tI,tI,ae,aa,af,ac,aa,ai,ab,tI] [tI] ⟨19,.con ac::.fn 95 [(2,0)]::aN 5 [.con tI,.var tI],[bw,bp,bu]⟩ [(.ret,⟨19,[.con ac,.fn 95 [(2,0)],.any,.any,.var tI,.any,.any,.con tI],[bw,bp,bu]⟩,[tI]),(.exit 0,⟨19,.con ac::.fn 95 [(2,0)]::aN 5 [.con tI],[bw,bp,bu]⟩,[])]
def sY (ρ:Type):à ρ:=⟨[9,4,1,2],175,0,sZ,fun(p:Val (tyL sZ.cs)) (v:Val tI) b a=>kQ p.1 p.2.1 p.2.2.2.2.2.2.2.2.2.2.2 v (fun c=>b c) (a 0) (a 1)⟩
def s8:Å:=Ls 0 [ab,tI,tI,tI,ae,aa,af,ac,aa,ai,ab] [tI] ⟨135,aN 2 (.box 0 0::.box 1 0::aN 28 [.con ab,.con tI,.var tI]),[bw,bp]⟩ [(.ret,⟨135,aN 2 (.box 0 0::.box 1 0::.nils::.var tI::aN 26 [.con ab,.con tI]),[bw,bp]⟩,[tI]),(.exit 0,⟨135,aN 2 (.box 0 0::.box 1 0::aN 28 [.con ab,.con tI]),[bw,bp]⟩,[])]
def s7 (ρ:Type):à ρ:=⟨[],30,0,s8,fun(p:Val (tyL s8.cs)) (v:Val tI) b a=>π p.1 p.2.1 p.2.2.2.2.2.2.2.1 v (fun c=>b c) (a 0) (a 1)⟩
def sX:Å:=Ls 0 [tI,tI,ae,aa,af,ac,aa,ai,ab] [tI] ⟨135,aN 2 (.box 0 0::.box 1 0::aN 5 [.var tI]),[bw,bp]⟩ [(.ret,⟨135,[.any,.any,.box 0 0,.box 1 0,.nils,.var tI],[bw,bp]⟩,[tI]),(.exit 2,⟨135,[.any,.any,.box 0 0,.box 1 0],[bw,bp]⟩,[])]
def sW (ρ:Type):à ρ:=⟨[],30,2,sX,fun(p:Val (tyL sX.cs)) (v:Val tI) b a=>iT p.2.2.2.2.2.2.2.2 v (fun c=>b c) (a 0) (a 1)⟩
def sS:Å:=Ls 4 [ag,tI,tI,tI,ae,aa,af,ac,aa,ai,ab,tI] [tI] ⟨21,.any::.fn 100 [(3,0),(2,0)]::aN 7 [.con ag,.con tI,.var tI],[bw,bp,bu,bT]⟩ [(.ret,⟨21,[.any,.fn 100 [(3,0),(2,0)],.any,.any,.var aj,.var .bool,.any,.any,.any,.con ag,.con tI],[bw,bp,bu,bT]⟩,[aj,.bool]),(.exit 0,⟨21,.any::.fn 100 [(3,0),(2,0)]::aN 7 [.con ag,.con tI],[bw,bp,bu,bT]⟩,[])]
def sR (ρ:Type):à ρ:=⟨[21,2],99,0,sS,fun(p:Val (tyL sS.cs)) (v:Val tI) b a=>let A:=p.2.2.2.2;let B:=A.2.2.2.2;iS p.1 p.2.1 p.2.2.1 p.2.2.2.1 A.1 A.2.1 A.2.2.1 A.2.2.2.1 B.1 B.2.1 B.2.2.1 B.2.2.2 v (fun c=>b c) (a 0) (a 1)⟩
def sO:Å:=Ls 4 [ab,ab,ab,tI,ab,ab,tI,tI,ae,aa,af,ac,aa,ai] [tI] ⟨36,.con ab::.con ab::aN 7 [.con ab,.con tI,.var tI],cr⟩ [(.ret,⟨36,.con ab::.con ab::aN 2 (.var tI::aN 4 [.con ab,.con tI]),cr⟩,[tI]),(.exit 0,⟨36,.con ab::.con ab::aN 7 [.con ab,.con tI],cr⟩,[])]
def sN (ρ:Type):à ρ:=⟨[29,14],101,0,sO,fun(p:Val (tyL sO.cs)) (v:Val tI) b a=>ŵ p.2.1 p.2.2.1 p.2.2.2.1 v (fun c=>b c) (a 0) (a 1)⟩
def sM:Å:=Ls 0 [ag,ab,tI,tI,ab,tI,tI,tI,ab,ab,tI,tI,ae,aa,af,ac,aa,ai] [tI] ⟨135,aN 3 (.box 0 0::aN 6 (.con ag::.any::.box 1 0::.own 2::aN 2 (.con ab::.con tI::.con tI::.con ab::aN 57 (.con tI::.con tI::aN 23 [.own 2,.con tI,.var tI])))),cr⟩ [(.exit 5,⟨135,aN 3 (.box 0 0::aN 6 (.con ag::.any::.box 1 0::.own 2::aN 2 (.con ab::.con tI::.con tI::.con ab::aN 57 (.con tI::.con tI::aN 23 [.own 2,.con tI])))),cr⟩,[]),(.exit 6,⟨135,aN 3 (.box 0 0::aN 6 (.con ag::.any::.box 1 0::.own 2::aN 2 (.con ab::.con tI::.con tI::.con ab::aN 57 (.con tI::.con tI::aN 23 [.own 2,.con tI])))),cr⟩,[])]
def sL (ρ:Type):à ρ:=⟨[],30,6,sM,fun(p:Val (tyL sM.cs)) (v:Val tI) b a=>ŗ p.2.2.2.1 p.2.2.2.2.2.2.2.1 p.2.2.2.2.2.2.2.2.2.1 v (fun c=>b c) (a 0) (a 1)⟩
def sK:Å:=Ls 0 [ag,ab,tI,tI,ab,tI,tI,ag,tI,ab,tI,tI,ae,aa,af,ac,aa,ai] [tI,ab] ⟨135,aN 3 (.box 0 0::aN 6 (.con ag::.any::.box 1 0::.own 2::aN 2 (.con ab::.con tI::.con tI::.con ab::aN 57 (.con tI::.con tI::aN 34 [.con ag,.con tI,.var tI])))),cu⟩ [(.exit 5,⟨135,aN 3 (.box 0 0::aN 6 (.con ag::.any::.box 1 0::.own 2::aN 2 (.con ab::.con tI::.con tI::.con ab::aN 57 (.con tI::.con tI::aN 34 [.con ag,.con tI])))),cu⟩,[ab]),(.exit 8,⟨135,aN 3 (.box 0 0::aN 6 (.con ag::.any::.box 1 0::.own 2::aN 2 (.con ab::.con tI::.con tI::.con ab::aN 57 (.con tI::.con tI::aN 34 [.con ag,.con tI])))),cu⟩,[ab])]
def sJ (ρ:Type):à ρ:=⟨[],30,8,sK,fun(p:Val (tyL sK.cs)) (v:Val Ī) b a=>let A:=p.2.2.2.2.2.2.2;let B:=A.2.2.2.2;let C:=B.2.2.2.2;Ŗ p.2.2.2.1 A.1 A.2.1 A.2.2.1 A.2.2.2.1 B.1 B.2.1 B.2.2.1 B.2.2.2.1 C.1 C.2.1 C.2.2 v.1 v.2 (fun c d=>b (c,d)) (a 0) (a 1)⟩
def sQ:Å:=Ls 0 [ag,tI,ab,tI,tI,ae,aa,af,ac,aa,ai] [ab,tI,tI,ab] ⟨135,aN 3 (.box 0 0::aN 6 (.con ag::.any::.box 1 0::.own 2::aN 2 (.var ab::.var tI::aN 59 [.con tI,.var tI]))),cu⟩ [(.exit 4,⟨135,aN 3 (.box 0 0::aN 6 (.con ag::.any::.box 1 0::.own 2::aN 3 (.var tI::aN 59 [.con tI]))),cu⟩,[tI,ab])]
def sP (ρ:Type):à ρ:=⟨[],30,4,sQ,fun(p:Val (tyL sQ.cs)) (v:Val (.pair ab aP)) a b=>let A:=p.2.2.2.2;let B:=A.2.2.2.2;Ŷ p.1 p.2.1 p.2.2.1 p.2.2.2.1 A.1 A.2.1 A.2.2.1 A.2.2.2.1 B.1 B.2.1 B.2.2 v.1 v.2.1 v.2.2.1 v.2.2.2 (fun c d e f=>a (c,d,e,f)) (b 0)⟩
def JX:List (Nat×ã):=[(79,qu),(80,iB),(87,PA),(96,yC),(98,Oc),(180,mb)]
def HG (ρ:Type):List (à ρ):=[sY ρ,s7 ρ,sW ρ,sR ρ,sN ρ,sL ρ,sJ ρ,sP ρ]
def ļ (ρ:Type):Env ρ:=ê JX (HG ρ)
def Ye:ã:=⟨[Â],[ag,tI],fun(x:Val Â)=>Ix x⟩
def Wg:List (Nat×ã):=[(80,iB),(96,yC)]
def TE (ρ:Type):List (à ρ):=[]
def Ov (ρ:Type):Env ρ:=ê Wg (TE ρ)
def Ta:ã:=⟨[É,Ã],[tI,tI],fun(x:Val aK)=>pW x.1 x.2⟩
def Up:List (Nat×ã):=[(72,pj),(135,ű),(136,Cx)]
def Q6 (ρ:Type):List (à ρ):=[]
def KW (ρ:Type):Env ρ:=ê Up (Q6 ρ)
def Yl:ã:=⟨[É,Ã],[É,tI],fun(x:Val aK)=>IC x.1 x.2⟩
def DY:Å:=Ls 6 [tI,tI,tI,ae,aa,af,ac,aa,tI,tI,tI,tI,tI,tI,ae,aa,af,ac,aa,tI,tI,tI,tI,ac,tI,tI,ae,aa,af,aa] [tI,ac] ⟨50,.any::.box 6 0::.box 7 0::.own 8::aN 21 [.own 8,.con tI,.var tI],cw⟩ [(.exit 0,⟨50,.any::.box 6 0::.box 7 0::.own 8::aN 21 [.own 8,.con tI],cw⟩,[ac])]
def DX (ρ:Type):à ρ:=⟨[1,2,4,1],202,0,DY,fun(p:Val (tyL DY.cs)) (v:Val aH) a b=>vn p.1 v.1 v.2 (fun c d=>a (c,d)) (b 0)⟩
def WP:List (Nat×ã):=[(72,pj)]
def Un (ρ:Type):List (à ρ):=[DX ρ]
def FW (ρ:Type):Env ρ:=ê WP (Un ρ)
def SY:ã:=⟨[Ì,ab],[tI],fun(x:Val bm)=>Eo x.1 x.2⟩
def M9:Å:=Ls 0 [ab,tI,tI,ak] [tI] ⟨37,aN 2 (.box 0 0::aN 16 [.con ab,.con tI,.var tI]),[bL]⟩ [(.ret,⟨37,aN 2 (.box 0 0::.any::.var tI::aN 14 [.con ab,.con tI]),[bL]⟩,[tI]),(.exit 0,⟨37,aN 2 (.box 0 0::aN 16 [.con ab,.con tI]),[bL]⟩,[])]
def Ap (ρ:Type):à ρ:=⟨[],133,0,M9,fun(p:Val (.pair ab aR)) (v:Val tI) b a=>qX p.1 p.2.1 p.2.2.1 p.2.2.2 v (fun c=>b c) (a 0) (a 1)⟩
def TQ:List (Nat×ã):=[(126,wO),(127,qv),(196,PC)]
def Qp (ρ:Type):List (à ρ):=[Ap ρ]
def BB (ρ:Type):Env ρ:=ê TQ (Qp ρ)
def Od:ã:=⟨[Ì,ao,tI],[ab],fun(x:Val (.pair Ì (.pair ao tI)))=>tS x.1 x.2.1 x.2.2⟩
def xL:Å:=Ls 0 [ao,tI,tI,tI,ak] [tI,ab] ⟨29,.any::.con ao::.con tI::.box 0 0::aN 3 (.own 1::aN 5 [.con tI,.var tI]),[bL,.rowv tI]⟩ [(.exit 0,⟨29,.any::.con ao::.con tI::.box 0 0::aN 3 (.own 1::aN 5 [.con tI]),[bL,.rowv tI]⟩,[ab])]
def xJ (ρ:Type):à ρ:=⟨[],134,0,xL,fun(p:Val (tyL xL.cs)) (v:Val Ī) a b=>oA p.2.2.1 v.1 v.2 (fun c d=>a (c,d)) (b 0)⟩
def xI:Å:=Ls 2 [ao,ak,tI,tI,ak,ab,tI,ak,aq,ab] [tI,tI] ⟨140,.any::.con ao::.own 1::.box 2 0::aN 3 (.box 3 0::.own 4::.own 5::.var tI::aN 14 [.con ak,.con tI,.var tI]),[bL,.rowc tI,bL,.cells [.nils],.rowc .bool,.rowc tI]⟩ [(.exit 0,⟨140,.any::.con ao::.own 1::.box 2 0::aN 3 (.box 3 0::.own 4::.own 5::.var tI::aN 14 [.con ak,.con tI]),[bL,.rowc tI,bL,.cells [.nils],.rowc .bool,.rowc tI]⟩,[tI])]
def xH (ρ:Type):à ρ:=⟨[8,3],197,0,xI,fun(p:Val (tyL xI.cs)) (v:Val Ã) a b=>uR p.2.1 p.2.2.1 v.1 v.2 (fun c d=>a (c,d)) (b 0)⟩
def xG:Å:=Ls 2 [ao,tI,tI,tI,ak,ab,tI,ak,ab] [tI,aq,ab] ⟨140,.any::.con ao::.own 1::.box 2 0::aN 3 (.box 3 0::.own 4::.own 5::.con tI::aN 27 [.con tI,.var tI]),cf⟩ [(.exit 2,⟨140,.any::.con ao::.own 1::.box 2 0::aN 3 (.box 3 0::.own 4::.own 5::.con tI::aN 27 [.con tI]),cf⟩,[aq,ab])]
def xF (ρ:Type):à ρ:=⟨[8,3],197,2,xG,fun(p:Val (tyL xG.cs)) (v:Val (.pair tI aL)) a b=>uQ p.2.2.1 p.2.2.2.2.2.1 v.1 v.2.1 v.2.2 (fun c d e=>a (c,d,e)) (b 0)⟩
def xD:Å:=Ls 2 [ao,tI,tI,ak,tI,tI,ak,tI,ak,ab] [tI,ab,aq,ab] ⟨140,.any::.con ao::.own 1::.box 2 0::aN 3 (.box 3 0::.own 4::.own 5::.con tI::aN 3 (.con tI::aN 62 [.con ak,.con tI,.var tI])),cg⟩ [(.ret,⟨140,.any::.con ao::.own 1::.box 2 0::aN 2 (.var .bool::.box 3 0::.own 4::.own 5::.con tI::aN 3 (.con tI::aN 62 [.con ak,.con tI])),cg⟩,[.bool,ab,aq,ab]),(.exit 6,⟨140,.any::.con ao::.own 1::.box 2 0::aN 3 (.box 3 0::.own 4::.own 5::.con tI::aN 3 (.con tI::aN 62 [.con ak,.con tI])),cg⟩,[ab,aq,ab])]
def xC (ρ:Type):à ρ:=⟨[8,3],197,6,xD,fun(p:Val (tyL xD.cs)) (v:Val (.pair tI (.pair ab aL))) b a=>Dn p.1 p.2.1 p.2.2.1 p.2.2.2.1 p.2.2.2.2.1 v.1 v.2.1 v.2.2.1 v.2.2.2 (fun c d e f=>b (c,d,e,f)) (a 0) (a 1)⟩
def Ka:Å:=Ls 2 [ao,tI,tI,ak,tI,ak] [ab,aq,ab,ab] ⟨140,[.any,.con ao,.own 1,.box 2 0,.any,.any,.any,.box 3 0,.own 4,.own 5,.con tI],ci⟩ [(.ret,⟨140,[.any,.con ao,.own 1,.box 2 0,.any,.any,.var .bool,.box 3 0,.own 4,.own 5,.con tI],ci⟩,[.bool,ab,aq,ab,ab])]
def xE (ρ:Type):à ρ:=⟨[8,3],197,4,Ka,fun(p:Val (.pair ao bo)) (v:Val aM) a b=>uP p.1 p.2.1 p.2.2.2.2.1 p.2.2.2.2.2 v.1 v.2.1 v.2.2.1 v.2.2.2 (fun c d e f=>a (c,d,e,f)) (b 0)⟩
def Qo:List (Nat×ã):=[]
def M7 (ρ:Type):List (à ρ):=[xJ ρ,xH ρ,xF ρ,xC ρ,xE ρ]
def iZ (ρ:Type):Env ρ:=ê Qo (M7 ρ)
def SZ:ã:=⟨[Ì],[aa,tI],fun(x:Val Ì)=>tT x⟩
def Nb:Å:=Ls 1 [ab,tI,tI,ak,tI,ak] [tI,ab] ⟨28,.any::.box 1 0::aN 2 (.con ab::.own 2::aN 7 [.con tI,.var tI]),[bL,bL,.rowv tI]⟩ [(.exit 0,⟨28,.any::.box 1 0::aN 2 (.con ab::.own 2::aN 7 [.con tI]),[bL,bL,.rowv tI]⟩,[ab])]
def Ar (ρ:Type):à ρ:=⟨[4,1],237,0,Nb,fun(p:Val (.pair ab bo)) (v:Val Ī) a b=>qZ p.2.1 p.2.2.2.2.1 p.2.2.2.2.2 v.1 v.2 (fun c d=>a (c,d)) (b 0)⟩
def Na:Å:=Ls 0 [ab,tI,ab] [tI,aa] ⟨39,aN 5 (.con ab::.own 0::.own 1::aN 12 [.con tI,.var tI]),[.rowc tI,.rowv Ã]⟩ [(.exit 0,⟨39,aN 5 (.con ab::.own 0::.own 1::aN 12 [.con tI]),[.rowc tI,.rowv Ã]⟩,[aa])]
def Aq (ρ:Type):à ρ:=⟨[],185,0,Na,fun(p:Val aV) (v:Val bc) a b=>qY p.1 p.2.1 p.2.2 v.1 v.2 (fun c d=>a (c,d)) (b 0)⟩
def TR:List (Nat×ã):=[(133,SY),(134,Od)]
def Qr (ρ:Type):List (à ρ):=[Ar ρ,Aq ρ]
def uS (ρ:Type):Env ρ:=ê TR (Qr ρ)
def Oa:ã:=⟨[É,Ã],[Ã,tI],fun(x:Val aK)=>yU x.1 x.2⟩
def PW:List (Nat×ã):=[(66,sw),(68,Ta),(69,Yl),(185,SZ)]
def ME (ρ:Type):List (à ρ):=[]
def GP (ρ:Type):Env ρ:=ê PW (ME ρ)
def EY:ã:=⟨[Â,tI,tI],[ak,tI],fun(x:Val ba)=>oY x.1 x.2.1 x.2.2⟩
def xw:Å:=Ls 0 [tI,tI,ag,tI,tI,tI,ae,aa,af,ac,aa,ai] [tI,aQ] ⟨113,.any::.con tI::.con tI::.box 0 0::aN 7 (.omp 1::aN 30 [.con ag,.con tI,.var tI]),[bw,.mapv tI Ã]⟩ [(.ret,⟨113,.any::.con tI::.con tI::.box 0 0::aN 2 (.nils::.var tI::aN 3 (.omp 1::aN 30 [.con ag,.con tI])),[bw,.mapv tI Ã]⟩,[tI,aQ]),(.exit 0,⟨113,.any::.con tI::.con tI::.box 0 0::aN 7 (.omp 1::aN 30 [.con ag,.con tI]),[bw,.mapv tI Ã]⟩,[aQ])]
def xv (ρ:Type):à ρ:=⟨[],42,0,xw,fun(p:Val (tyL xw.cs)) (v:Val (.pair tI aQ)) b a=>let A:=p.2.2.2.2;let B:=A.2.2.2.2;oz p.1 p.2.1 p.2.2.1 p.2.2.2.1 A.1 A.2.1 A.2.2.1 A.2.2.2.1 B.1 B.2.1 B.2.2.1 B.2.2.2 v.1 v.2 (fun c d=>b (c,d)) (a 0) (a 1)⟩
def xu:Å:=Ls 0 [ae,tI,aQ] [tI,ak] ⟨113,aN 11 (.omp 0::aN 7 (.own 1::aN 70 [.con ae,.con tI,.var tI])),[.mapc tI Ã,.rowv ŕ]⟩ [(.exit 2,⟨113,aN 11 (.omp 0::aN 7 (.own 1::aN 70 [.con ae,.con tI])),[.mapc tI Ã,.rowv ŕ]⟩,[ak])]
def xr (ρ:Type):à ρ:=⟨[],42,2,xu,fun(p:Val (tyL xu.cs)) (v:Val Ì) a b=>oy p.1 p.2.1 p.2.2 v.1 v.2 (fun c d=>a (c,d)) (b 0)⟩
def Qe:List (Nat×ã):=[(80,iB),(81,PB),(88,Cs),(104,kF),(105,Ja),(106,Oa)]
def MW (ρ:Type):List (à ρ):=[xv ρ,xr ρ]
def qU (ρ:Type):Env ρ:=ê Qe (MW ρ)
def SS:ã:=⟨[Â,aj],[.bool],fun(x:Val aJ)=>Ei x.1 x.2⟩
def jH:Tpl:=⟨13,[.any,.any,.box 2 0],[.cells [.con tI,.con tI,.con ae,.con aa,.con af,.con ac,.con aa,.con ai],.dead,.cells [.own 3],.rowv tI]⟩
def mL (ρ:Type):EJ ρ:=⟨[7,8,1,1,1,1],298,0,3,[tI,tI,ae,aa,af,ac,aa,ai],[ab],jH,D3,fun(p:Val ah) (v:Val ab) y a=>xg v y (fun b=>a b)⟩
def MG:Å:=Ls 0 [aj,tI,tI,tI,ae,aa,af,ac,aa,ai] [tI] ⟨42,aN 2 (.box 0 0::aN 11 [.con aj,.con tI,.var tI]),[bw]⟩ [(.ret,⟨42,aN 2 (.box 0 0::.any::.var .bool::aN 9 [.con aj,.con tI]),[bw]⟩,[.bool]),(.exit 0,⟨42,aN 2 (.box 0 0::aN 11 [.con aj,.con tI]),[bw]⟩,[])]
def Ab (ρ:Type):à ρ:=⟨[],154,0,MG,fun(p:Val (.pair aj aD)) (v:Val tI) b a=>qM p.1 p.2.1 p.2.2.2.2.2.2.2.2.2 v (fun c=>b c) (a 0) (a 1)⟩
def GQ (ρ:Type):List (EJ ρ):=[mL ρ]
def Tw:List (Nat×ã):=[(220,SQ)]
def CT (ρ:Type):List (à ρ):=[Ab ρ]
def Ο (ρ:Type):Env ρ:={ê Tw (CT ρ) with ranges:=Η (GQ ρ)}
def SV:ã:=⟨[Â,aj],[tI],fun(x:Val aJ)=>El x.1 x.2⟩
def TA:List (Nat×ã):=[(80,iB),(154,SS)]
def P5 (ρ:Type):List (à ρ):=[]
def JV (ρ:Type):Env ρ:=ê TA (P5 ρ)
def abJ:ã:=⟨[Â,aj,tI,tI],[tI,tI],fun(x:Val bf)=>Rs x.1 x.2.1 x.2.2.1 x.2.2.2⟩
def ZX:List (Nat×ã):=[(78,SV),(88,Cs),(105,Ja)]
def Wd (ρ:Type):List (à ρ):=[]
def TD (ρ:Type):Env ρ:=ê ZX (Wd ρ)
def SX:ã:=⟨[Ì,tI,tI],[aj],fun(x:Val (.pair Ì Ã))=>En x.1 x.2.1 x.2.2⟩
def OD:Å:=Ls 0 [tI,tI,tI,tI,ak] [tI,ab] ⟨45,.any::.con tI::.con tI::.box 0 0::aN 3 (.own 1::aN 7 [.con tI,.var tI]),[bL,.rowv tI]⟩ [(.exit 0,⟨45,.any::.con tI::.con tI::.box 0 0::aN 3 (.own 1::aN 7 [.con tI]),[bL,.rowv tI]⟩,[ab])]
def OC (ρ:Type):à ρ:=⟨[],128,0,OD,fun(p:Val (tyL OD.cs)) (v:Val Ī) a b=>yH p.2.2.1 v.1 v.2 (fun c d=>a (c,d)) (b 0)⟩
def OA:Å:=Ls 4 [ab,tI,aj,tI,ak] [tI,ab] ⟨53,.con ab::.box 1 0::aN 2 (.own 4::aN 7 [.con tI,.var tI]),cz⟩ [(.exit 0,⟨53,.con ab::.box 1 0::aN 2 (.own 4::aN 7 [.con tI]),cz⟩,[ab])]
def Oz (ρ:Type):à ρ:=⟨[12,8],198,0,OA,fun(p:Val (tyL OA.cs)) (v:Val Ī) a b=>Qn p.2.1 v.1 v.2 (fun c d=>a (c,d)) (b 0)⟩
def Oy:Å:=Ls 4 [ab,ak,tI,aj,tI,ak] [tI,ab] ⟨53,.con ab::aN 3 (.own 4::aN 16 [.con ak,.con tI,.var tI]),cz⟩ [(.exit 2,⟨53,.con ab::aN 3 (.own 4::aN 16 [.con ak,.con tI]),cz⟩,[ab])]
def Ox (ρ:Type):à ρ:=⟨[12,8],198,2,Oy,fun(p:Val (tyL Oy.cs)) (v:Val Ī) a b=>Dm p.1 p.2.1 p.2.2.1 v.1 v.2 (fun c d=>a (c,d)) (b 0)⟩
def ZZ:Å:=Ls 0 [tI,tI,ak] [tI,aj] ⟨45,aN 9 (.own 0::.fn 198 [(1,0)]::aN 18 [.con tI,.var tI]),[.rowv ab,bL]⟩ [(.exit 2,⟨45,aN 9 (.own 0::.fn 198 [(1,0)]::aN 18 [.con tI]),[.rowv ab,bL]⟩,[aj])]
def OB (ρ:Type):à ρ:=⟨[],128,2,ZZ,fun(p:Val aR) (v:Val bg) a b=>Il p.1 p.2.1 p.2.2 v.1 v.2 (fun c d=>a (c,d)) (b 0)⟩
def aeM:List (Nat×ã):=[]
def ab8 (ρ:Type):List (à ρ):=[OC ρ,Oz ρ,Ox ρ,OB ρ]
def FA (ρ:Type):Env ρ:=ê aeM (ab8 ρ)
def S0:ã:=⟨[Ì],[ab,tI],fun(x:Val Ì)=>nP x⟩
def Nc:Å:=Ls 0 [tI,tI,ak] [tI,ag] ⟨93,.any::.box 0 0::aN 6 (.own 1::aN 24 [.con tI,.var tI]),[bL,.rowv aj]⟩ [(.exit 0,⟨93,.any::.box 0 0::aN 6 (.own 1::aN 24 [.con tI]),[bL,.rowv aj]⟩,[ag])]
def AC (ρ:Type):à ρ:=⟨[],64,0,Nc,fun(p:Val aR) (v:Val aB) a b=>nw p.1 p.2.1 p.2.2 v.1 v.2 (fun c d=>a (c,d)) (b 0)⟩
def Au:Å:=Ls 3 [tI,aj,ak,tI,tI,ak,ag,tI,tI,tI,tI,ak] [tI,tI,tI,ab] ⟨73,.any::.var tI::.con tI::.con aj::.fn 129 []::.box 3 0::aN 5 (.own 4::.var tI::aN 7 [.con ak,.con tI,.var tI]),cA⟩ [(.exit 2,⟨73,.any::.var tI::.con tI::.con aj::.fn 129 []::.box 3 0::aN 5 (.own 4::.var tI::aN 7 [.con ak,.con tI]),cA⟩,[tI,tI,ab])]
def As (ρ:Type):à ρ:=⟨[22,10],130,2,Au,fun(p:Val (tyL Au.cs)) (v:Val (.pair tI aP)) a b=>GU p.1 p.2.1 p.2.2.1 p.2.2.2.1 v.1 v.2.1 v.2.2.1 v.2.2.2 (fun c d e f=>a (c,d,e,f)) (b 0)⟩
def Ax:Å:=Ls 3 [aj,tI,ak,ag,tI,tI,tI,tI,ak] [tI,tI,tI,ab] ⟨73,.any::.var tI::.var tI::.con aj::.fn 129 []::.box 3 0::aN 5 [.own 4,.var tI],cA⟩ [(.exit 0,⟨73,aN 3 (.con aj::.fn 129 []::.box 3 0::aN 5 [.own 4]),cA⟩,[ab])]
def Aw (ρ:Type):à ρ:=⟨[22,10],130,0,Ax,fun(p:Val (tyL Ax.cs)) (v:Val (.pair tI aP)) a b=>xM p.1 p.2.2.2.2.2.2.2.2 v.1 v.2.1 v.2.2.1 v.2.2.2 (fun c d e f=>a (c,d,e,f)) (b 0)⟩
def Az:Å:=Ls 0 [tI,ak,tI,tI,ak,ag] [tI] ⟨93,.any::.box 0 0::aN 6 (.own 1::.any::.fn 129 []::.con tI::aN 37 [.con ak,.con tI,.var tI]),[bL,.rowc aj]⟩ [(.exit 2,⟨93,.any::.box 0 0::aN 6 (.own 1::.any::.fn 129 []::.con tI::aN 37 [.con ak,.con tI]),[bL,.rowc aj]⟩,[]),(.ret,⟨93,.any::.box 0 0::.own 2::.var tI::aN 4 (.own 1::.any::.fn 129 []::.con tI::aN 37 [.con ak,.con tI]),[bL,.rowc aj,.rowv tI]⟩,[tI,ab]),(.exit 4,⟨93,.any::.box 0 0::aN 6 (.own 1::.any::.fn 129 []::.con tI::aN 37 [.con ak,.con tI]),[bL,.rowc aj]⟩,[])]
def Ay (ρ:Type):à ρ:=⟨[],64,4,Az,fun(p:Val (tyL Az.cs)) (v:Val tI) b a=>nu p.1 p.2.1 p.2.2.1 p.2.2.2.1 p.2.2.2.2.1 p.2.2.2.2.2 v (fun c=>b c) (a 0) (a 1) (a 2)⟩
def AB:Å:=Ls 0 [tI,ak,ag] [tI] ⟨93,.any::.box 0 0::aN 6 [.own 1,.any,.fn 129 [],.var tI],[bL,.rowc aj]⟩ [(.exit 2,⟨93,.any::.box 0 0::aN 6 [.own 1,.any,.fn 129 []],[bL,.rowc aj]⟩,[]),(.ret,⟨93,.any::.box 0 0::.own 2::.var tI::aN 4 [.own 1,.any,.fn 129 []],[bL,.rowc aj,.rowv tI]⟩,[tI,ab])]
def AA (ρ:Type):à ρ:=⟨[],64,2,AB,fun(p:Val (tyL AB.cs)) (v:Val tI) b a=>rc p.1 p.2.1 p.2.2 v (fun c=>b c) (a 0) (a 1)⟩
def TS:List (Nat×ã):=[(126,wO),(127,qv),(128,SX)]
def Qt (ρ:Type):List (à ρ):=[AC ρ,As ρ,Aw ρ,Ay ρ,AA ρ]
def ke (ρ:Type):Env ρ:=ê TS (Qt ρ)
def SW:ã:=⟨[Â],[aj,tI],fun(x:Val Â)=>Em x⟩
def MV:Å:=Ls 0 [ag,tI,tI,tI,ae,aa,af,ac,aa,ai] [tI,aj] ⟨46,.any::.box 0 0::aN 3 (.own 1::aN 13 [.con ag,.con tI,.var tI]),[bw,.rowv ab]⟩ [(.ret,⟨46,.any::.box 0 0::.nils::.var tI::.any::.own 1::aN 13 [.con ag,.con tI],[bw,.rowv ab]⟩,[tI,aj]),(.exit 0,⟨46,.any::.box 0 0::aN 3 (.own 1::aN 13 [.con ag,.con tI]),[bw,.rowv ab]⟩,[aj])]
def Ak (ρ:Type):à ρ:=⟨[],59,0,MV,fun(p:Val (.pair ag aD)) (v:Val bg) b a=>let A:=p.2.2.2.2;qT p.1 p.2.1 p.2.2.1 p.2.2.2.1 A.1 A.2.1 A.2.2.1 A.2.2.2.1 A.2.2.2.2.1 A.2.2.2.2.2 v.1 v.2 (fun c d=>b (c,d)) (a 0) (a 1)⟩
def TG:List (Nat×ã):=[(64,S0),(66,sw),(80,iB),(96,yC),(104,kF)]
def Qa (ρ:Type):List (à ρ):=[Ak ρ]
def By (ρ:Type):Env ρ:=ê TG (Qa ρ)
def Jc:ã:=⟨[Ì,ab],[tI],fun(x:Val bm)=>vx x.1 x.2⟩
def HP:Å:=Ls 1 [ab,tI,tI,ak] [tI] ⟨19,.con ab::.fn 238 [(0,0)]::aN 5 [.con tI,.var tI],[bL]⟩ [(.ret,⟨19,[.con ab,.fn 238 [(0,0)],.any,.any,.var tI,.any,.any,.con tI],[bL]⟩,[tI]),(.exit 0,⟨19,.con ab::.fn 238 [(0,0)]::aN 5 [.con tI],[bL]⟩,[])]
def vQ (ρ:Type):à ρ:=⟨[3,2,1,2],260,0,HP,fun(p:Val (.pair ab aR)) (v:Val tI) b a=>mM p.1 p.2.1 p.2.2.2 v (fun c=>b c) (a 0) (a 1)⟩
def M6:List (Nat×ã):=[]
def J7 (ρ:Type):List (à ρ):=[vQ ρ]
def uO (ρ:Type):Env ρ:=ê M6 (J7 ρ)
def Yg:ã:=⟨[Ì,tI,ab],[tI,tI,.bool],fun(x:Val (.pair Ì Ī))=>Iz x.1 x.2.1 x.2.2⟩
def Qk:Å:=Ls 0 [ab,tI,tI,ak] [tI,tI,tI] ⟨37,.any::.var tI::.any::.box 0 0::aN 5 [.var tI,.any,.any,.any,.con ab,.con tI,.var tI],[bL]⟩ [(.ret,⟨37,aN 3 (.box 0 0::aN 2 (.var tI::.var tI::.var .bool::aN 4 [.con ab,.con tI])),[bL]⟩,[tI,tI,.bool]),(.exit 0,⟨37,.any::.var tI::.any::.box 0 0::aN 5 [.var tI,.any,.any,.any,.con ab,.con tI],[bL]⟩,[tI,tI])]
def Dg (ρ:Type):à ρ:=⟨[],189,0,Qk,fun(p:Val (.pair ab aR)) (v:Val ŕ) b a=>uN p.1 p.2.1 p.2.2.2 v.1 v.2.1 v.2.2 (fun c d e=>b (c,d,e)) (a 0) (a 1)⟩
def Wn:List (Nat×ã):=[]
def TM (ρ:Type):List (à ρ):=[Dg ρ]
def Fw (ρ:Type):Env ρ:=ê Wn (TM ρ)
def zV:ã:=⟨[Ì,ab],[tI],fun(x:Val bm)=>mS x.1 x.2⟩
def FD:List (Nat×ã):=[(126,wO),(188,Jc),(189,Yg)]
def Ds (ρ:Type):List (à ρ):=[]
def vS (ρ:Type):Env ρ:=ê FD (Ds ρ)
def zT:ã:=⟨[Â,aj],[tI],fun(x:Val aJ)=>jL x.1 x.2⟩
def pA:Å:=Ls 0 [aj,ag,tI,tI,tI,ae,aa,af,ac,aa,ai] [tI] ⟨47,.any::.con aj::.box 0 0::aN 21 [.con ag,.con tI,.var tI],[bw]⟩ [(.ret,⟨47,.any::.con aj::.box 0 0::.any::.var tI::aN 19 [.con ag,.con tI],[bw]⟩,[tI]),(.exit 0,⟨47,.any::.con aj::.box 0 0::aN 21 [.con ag,.con tI],[bw]⟩,[])]
def pz (ρ:Type):à ρ:=⟨[],60,0,pA,fun(p:Val (tyL pA.cs)) (v:Val tI) b a=>let A:=p.2.2.2.2;let B:=A.2.2.2.2;jl p.1 p.2.1 p.2.2.1 p.2.2.2.1 A.1 A.2.1 A.2.2.1 A.2.2.2.1 B.1 B.2.1 B.2.2 v (fun c=>b c) (a 0) (a 1)⟩
def Fs:List (Nat×ã):=[(66,sw),(80,iB),(96,yC),(104,kF),(122,zV)]
def Db (ρ:Type):List (à ρ):=[pz ρ]
def nV (ρ:Type):Env ρ:=ê Fs (Db ρ)
def GF:ã:=⟨[ac],[Â],fun(x:Val ac)=>Ŭ x⟩
def Ju:List (Nat×ã):=[]
def Ht (ρ:Type):List (à ρ):=[]
def zY (ρ:Type):Env ρ:=ê Ju (Ht ρ)
def I9:ã:=⟨[],[.bool],fun(_:Unit)=>Ş⟩
def Mr:List (Nat×ã):=[(19,abK),(20,Jb),(26,GH),(28,Ct),(29,Yf),(30,GG),(35,uq),(40,Ye),(42,EY),(49,abJ),(59,SW),(60,zT),(77,GF)]
def Js (ρ:Type):List (à ρ):=[]
def CE (ρ:Type):Env ρ:=ê Mr (Js ρ)
def Jf:ã:=⟨[É,ab],[É,tI],fun(x:Val (.pair É ab))=>vB x.1 x.2⟩
def we:Å:=Ls 6 [tI,tI,tI,ae,aa,af,ac,aa,ab,tI,tI,tI,tI,ae,aa,af,ac,aa,tI,tI,tI,tI,ac,tI,tI,ae,aa,af,aa] [tI,ac] ⟨50,.any::.box 6 0::.box 7 0::.own 8::aN 21 [.own 8,.con tI,.var tI],cB⟩ [(.exit 0,⟨50,.any::.box 6 0::.box 7 0::.own 8::aN 21 [.own 8,.con tI],cB⟩,[ac])]
def wd (ρ:Type):à ρ:=⟨[1,2,4,1],202,0,we,fun(p:Val (tyL we.cs)) (v:Val aH) a b=>mP p.1 v.1 v.2 (fun c d=>a (c,d)) (b 0)⟩
def vZ:Å:=Ls 13 [tI,tI,tI,ae,aa,af,ac,aa,ab,tI,tI,tI,tI,ae,aa,af,ac,aa,tI,tI,tI,tI,tI,tI,tI,tI,ac,ae,aa,af,aa] [tI] ⟨19,.own 8::.fn 152 [(1,0)]::aN 5 [.con tI,.var tI],cD⟩ [(.ret,⟨19,[.own 8,.fn 152 [(1,0)],.any,.any,.var tI,.any,.any,.con tI],cD⟩,[tI]),(.exit 0,⟨19,.own 8::.fn 152 [(1,0)]::aN 5 [.con tI],cD⟩,[])]
def vY (ρ:Type):à ρ:=⟨[1,2,5,1,0,6,1,2],175,0,vZ,fun(p:Val (tyL vZ.cs)) (v:Val tI) b a=>mO p.1 p.2.2.2.2.2.2.2.2.1 p.2.2.2.2.2.2.2.2.2.2.2.2.2.2.2.2.2.2.2.2.2.2.2.2.2.2.1 v (fun c=>b c) (a 0) (a 1)⟩
def vX:Å:=Ls 13 [tI,tI,ae,aa,af,ac,aa,ab,tI,tI,tI,tI,ae,aa,af,ac,aa,tI,tI,tI,tI,tI,tI,tI,tI,ae,aa,af,aa] [tI,tI,ac] ⟨42,[.own 8,.fn 152 [(1,0)],.any,.any,.any,.var tI,.var tI],cE⟩ [(.exit 0,⟨42,[.own 8,.fn 152 [(1,0)],.any,.any,.any,.var tI],cE⟩,[tI,ac])]
def vW (ρ:Type):à ρ:=⟨[1,2,5,1,0,6],151,0,vX,fun(p:Val (tyL vX.cs)) (v:Val (.pair tI aH)) a b=>Υ p.2.2.2.2.2.2.2.1 v.1 v.2.1 v.2.2 (fun c d e=>a (c,d,e)) (b 0)⟩
def ND:List (Nat×ã):=[(72,pj),(92,Ņ)]
def KU (ρ:Type):List (à ρ):=[wd ρ,vY ρ,vW ρ]
def lh (ρ:Type):Env ρ:=ê ND (KU ρ)
def Ob:ã:=⟨[É],[É],fun(x:Val É)=>yV x⟩
def P3:List (Nat×ã):=[(74,Jf)]
def MQ (ρ:Type):List (à ρ):=[]
def GS (ρ:Type):Env ρ:=ê P3 (MQ ρ)
def Yd:ã:=⟨[Â,Ī],[Â,tI],fun(x:Val (.pair Â Ī))=>Iw x.1 x.2⟩
def P7:Å:=Ls 0 [tI,tI,tI,tI,tI,ae,aa,af,ac,aa,ai] [tI,ai] ⟨51,aN 4 (.box 0 0::aN 2 (.box 1 0::aN 18 [.own 2,.con tI,.var tI])),[bR,bY,.rowc Ī,.rowv Ī]⟩ [(.exit 0,⟨51,aN 4 (.box 0 0::aN 2 (.box 1 0::aN 18 [.own 2,.con tI])),[bR,bY,.rowc Ī,.rowv Ī]⟩,[ai])]
def C0 (ρ:Type):à ρ:=⟨[],47,0,P7,fun(p:Val aX) (v:Val (.pair tI ai)) a b=>uF p.1 p.2.2.2.2.2.2.2.2.2.2 v.1 v.2 (fun c d=>a (c,d)) (b 0)⟩
def Wc:List (Nat×ã):=[(80,iB),(113,Ob)]
def TB (ρ:Type):List (à ρ):=[C0 ρ]
def Fp (ρ:Type):Env ρ:=ê Wc (TB ρ)
def mI:ã:=⟨[Â,tI,tI],[.bool],fun(x:Val ba)=>sj x.1 x.2.1 x.2.2⟩
def Bh:Å:=Ls 0 [tI,tI,tI,tI,tI,ae,aa,af,ac,aa,ai,tI,ab] [tI] ⟨196,[.any,.con tI,.con tI,.box 0 0,.any,.any,.any,.box 1 0,.con tI,.var tI],cF⟩ [(.ret,⟨196,[.any,.con tI,.con tI,.box 0 0,.any,.any,.var .bool,.box 1 0,.con tI],cF⟩,[.bool]),(.exit 0,⟨196,[.any,.con tI,.con tI,.box 0 0,.any,.any,.any,.box 1 0,.con tI],cF⟩,[])]
def pp (ρ:Type):à ρ:=⟨[],7,0,Bh,fun(p:Val aw) (v:Val tI) b a=>ji p.2.2.1 p.2.2.2.2.2.2.1 v (fun c=>b c) (a 0) (a 1)⟩
def Bg:Å:=Ls 0 [tI,tI,tI,tI,tI,ae,aa,af,ac,aa,ai,tI,ab] [tI] ⟨196,[.any,.con tI,.con tI,.box 0 0,.any,.any,.any,.box 1 0,.con tI,.any,.var tI],cF⟩ [(.ret,⟨196,[.any,.con tI,.con tI,.box 0 0,.any,.any,.var .bool,.box 1 0,.con tI],cF⟩,[.bool]),(.exit 2,⟨196,[.any,.con tI,.con tI,.box 0 0,.any,.any,.any,.box 1 0,.con tI],cF⟩,[])]
def po (ρ:Type):à ρ:=⟨[],7,2,Bg,fun(p:Val aw) (v:Val tI) b a=>jh p.2.2.1 p.2.2.2.2.2.2.2.2.1 v (fun c=>b c) (a 0) (a 1)⟩
def Bf:Å:=Ls 0 [tI,tI,tI,tI,tI,ae,aa,af,ac,aa,ai,tI,ab] [tI] ⟨196,[.any,.con tI,.con tI,.box 0 0,.any,.any,.any,.box 1 0,.con tI,.any,.any,.var tI],cF⟩ [(.ret,⟨196,[.any,.con tI,.con tI,.box 0 0,.any,.any,.var .bool,.box 1 0,.con tI],cF⟩,[.bool]),(.exit 4,⟨196,[.any,.con tI,.con tI,.box 0 0,.any,.any,.any,.box 1 0,.con tI],cF⟩,[])]
def pn (ρ:Type):à ρ:=⟨[],7,4,Bf,fun(p:Val aw) (v:Val tI) b a=>jg p.2.2.1 p.2.2.2.2.2.2.2.2.2.1 v (fun c=>b c) (a 0) (a 1)⟩
def Be:Å:=Ls 0 [tI,tI,tI,tI,tI,ae,aa,af,ac,aa,ai,tI,ab] [tI] ⟨196,[.any,.con tI,.con tI,.box 0 0,.any,.any,.any,.box 1 0,.con tI,.any,.any,.any,.var tI],cF⟩ [(.ret,⟨196,[.any,.con tI,.con tI,.box 0 0,.any,.any,.var .bool,.box 1 0,.con tI],cF⟩,[.bool]),(.exit 6,⟨196,[.any,.con tI,.con tI,.box 0 0,.any,.any,.any,.box 1 0,.con tI],cF⟩,[])]
def pm (ρ:Type):à ρ:=⟨[],7,6,Be,fun(p:Val aw) (v:Val tI) b a=>jf p.2.2.1 p.2.2.2.2.2.2.2.1 v (fun c=>b c) (a 0) (a 1)⟩
def Bc:Å:=Ls 0 [ak,ak] [tI] ⟨196,aN 19 [.con ak,.any,.con ak,.any,.var tI],[]⟩ [(.ret,⟨196,aN 6 (.var .bool::aN 12 [.con ak,.any,.con ak]),[]⟩,[.bool]),(.exit 8,⟨196,aN 19 [.con ak,.any,.con ak],[]⟩,[])]
def pl (ρ:Type):à ρ:=⟨[],7,8,Bc,fun(p:Val (.pair ak ak)) (v:Val tI) b a=>je p.1 p.2 v (fun c=>b c) (a 0) (a 1)⟩
def E7:List (Nat×ã):=[(15,N8),(17,I9),(20,Jb),(42,EY),(47,Yd)]
def CF (ρ:Type):List (à ρ):=[pp ρ,po ρ,pn ρ,pm ρ,pl ρ]
def Ŝ (ρ:Type):Env ρ:=ê E7 (CF ρ)
end Go.Proofs.ZzM
end
