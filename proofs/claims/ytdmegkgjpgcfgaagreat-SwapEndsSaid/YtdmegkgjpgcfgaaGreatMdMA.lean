/- lemmas -/
import Derived.Test.YtdmegkgjpgcfgaaGreatAmC
import Derived.Test.YtdmegkgjpgcfgaaGreatAmE
import Derived.KernelRfl
import Derived.Test.YtdmegkgjpgcfgaaGreatMdTA
import Derived.Test.YtdmegkgjpgcfgaaGreatProg
set_option linter.all false
set_option linter.unusedSectionVars false
set_option linter.unusedVariables false
set_option linter.unusedSimpArgs false
noncomputable section
set_option maxRecDepth 100000
namespace Go.Proofs.ZzM
open Go Go.Am
def LA:Nat→Bool
  |114=>true
  |115=>true
  |140=>true
  |170=>true
  |182=>true
  |250=>true
  |251=>true
  |252=>true
  |_=>false
def Vl:Nat→Bool
  |184=>true
  |_=>false
def yj:Nat→Bool
  |249=>true
  |_=>false
def isInl:Nat→Bool
  |2=>true
  |89=>true
  |90=>true
  |94=>true
  |95=>true
  |96=>true
  |97=>true
  |99=>true
  |100=>true
  |101=>true
  |107=>true
  |108=>true
  |129=>true
  |130=>true
  |137=>true
  |138=>true
  |144=>true
  |150=>true
  |151=>true
  |152=>true
  |157=>true
  |158=>true
  |159=>true
  |167=>true
  |168=>true
  |169=>true
  |171=>true
  |174=>true
  |175=>true
  |176=>true
  |177=>true
  |178=>true
  |186=>true
  |197=>true
  |198=>true
  |200=>true
  |202=>true
  |207=>true
  |210=>true
  |211=>true
  |213=>true
  |214=>true
  |221=>true
  |222=>true
  |223=>true
  |224=>true
  |225=>true
  |229=>true
  |230=>true
  |232=>true
  |235=>true
  |237=>true
  |238=>true
  |244=>true
  |245=>true
  |246=>true
  |254=>true
  |255=>true
  |256=>true
  |257=>true
  |258=>true
  |260=>true
  |266=>true
  |267=>true
  |275=>true
  |276=>true
  |277=>true
  |278=>true
  |279=>true
  |280=>true
  |282=>true
  |283=>true
  |293=>true
  |294=>true
  |295=>true
  |298=>true
  |299=>true
  |301=>true
  |302=>true
  |304=>true
  |305=>true
  |310=>true
  |311=>true
  |314=>true
  |315=>true
  |317=>true
  |318=>true
  |321=>true
  |322=>true
  |_=>false
def isFz:Nat→Bool
  |74=>true
  |93=>true
  |_=>false
def isEat:Nat→Nat→Bool
  |104,2=>true
  |104,3=>true
  |174,25=>true
  |245,0=>true
  |_,_=>false
def ag0:List Nat→Nat→Bool
  |_,_=>false
abbrev š {ρ:Type} (E:Env ρ) (f:Nat) (ts rs:List Ty) (x:Val (tyL ts)) (k:Val (tyL rs)→Option ρ):Option ρ:=topK E f (X4 ts x) (fun h v=>Ä (ahE rs h v) k)
abbrev Ls (p:Nat) (c v:List Ty) (h:Tpl) (e:List (Exit×Tpl×List Ty)):Ç:=⟨p,c,v,h,e,false⟩
def å {ρ:Type} (pt:List (Nat×à)) (tab:List (Þ ρ)):Env ρ :=
  {P:=Tryz.prog,eat:=isEat,clone:=LA,sort:=Vl,compact:=yj,inl:=isInl,fz:=isFz,stop:=ag0,pure:=abc pt,loops:=jY tab}
def Zl {ρ:Type} (pt:List (Nat×à)) (tab:List (Þ ρ)) (xt:List (Nat×aaf)):Env ρ:={å pt tab with ext:=extT xt}
def mkEnvU {ρ:Type} (pt:List (Nat×à)) (tab:List (Þ ρ)) (us:List agC):Env ρ :=
  {P:=Tryz.prog,eat:=isEat,clone:=LA,sort:=Vl,compact:=yj,inl:=isInl,fz:=isFz,stop:=ag0,pure:=abc pt,loops:=Zo (å pt tab) us}
abbrev bo:kD:=.cells [.con aa]
abbrev bp:kD:=.cells [.con tI,.con tI,.con ag,.con ab,.con ah,.con ae,.con ab]
abbrev bq:kD:=.cells [.con tI,.con tI,.con tI,.con tI,.con tI,.con tI,.con tI,.con tI]
abbrev br:kD:=.cells [.con tI,.con tI,.con tI,.con tI]
abbrev bt:kD:=.cells [.con tI]
abbrev bu:kD:=.cells [.con tI,.con tI,.con aa,.con aa,.con tI,.con tI,.con tI,.con tI]
abbrev bv:kD:=.cells [.con tI,.con tI,.con ag,.con ab,.con ah,.con ae,.con ab,.con ai]
abbrev bw:kD:=.cells [.con tI,.con aa]
abbrev bz:kD:=.cells [.omp 3]
abbrev bB:kD:=.cells [.con tI,.con tI]
abbrev bC:kD:=.cells [.con tI,.con tI,.con ag,.con ab,.con ah,.con ae,.con ab,.con ab,.con tI,.own 3,.own 4]
abbrev bD:kD:=.cells [.con tI,.con tI,.con ag,.con ab,.con ah,.con ae,.con ab,.con ab,.con tI,.own 2,.own 3]
abbrev bE:kD:=.cells [.con tI,.con tI,.nils,.nils,.nils,.nils,.nils]
abbrev bG:kD:=.cells [.con tI,.con tI,.own 3,.own 4,.nils,.nils,.nils]
abbrev bH:kD:=.cells [.con tI,.con tI,.own 3,.own 4,.own 5,.nils,.nils]
abbrev bI:kD:=.cells [.con tI,.con tI,.own 3,.own 4,.own 5,.own 6,.nils]
abbrev bJ:kD:=.cells [.con tI,.con tI,.own 2,.own 3,.own 4,.own 5,.own 6]
abbrev bK:kD:=.cells [.con tI,.con ak]
abbrev bL:kD:=.cells [.own 6]
abbrev bM:kD:=.cells [.var tI,.var tI,.var ag,.var ab,.var ah,.var ae,.var ab,.var ai]
abbrev bN:kD:=.cells [.con ai]
abbrev bO:kD:=.cells [.own 4]
abbrev bP:kD:=.cells [.fn 90 [(1,0)]]
abbrev bQ:kD:=.cells [.con tI,.con tI,.nils,.nils,.nils,.nils,.nils,.nils]
abbrev bR:kD:=.cells [.fn 167 [(1,0)]]
abbrev bS:kD:=.cells [.fn 97 [(0,0),(1,0)]]
abbrev bT:kD:=.cells [.fn 97 [(3,0),(0,0)]]
abbrev bU:kD:=.cells [.con tI,.con tI,.own 9,.own 10,.own 11,.con ae,.own 12]
abbrev bV:kD:=.cells [.con tI,.con tI,.con tI]
abbrev bW:List kD:=[.rowv tI]
abbrev bX:List kD:=[bp,bu,.rowc tI]
abbrev bY:List kD:=[bp,bw,bz,.mapc tI tI]
abbrev bZ:List kD:=[bp,bD,.rowv ŕ,.rowv Ã]
abbrev b7:List kD:=[bE,bp,bH,.rowc Õ,.rowc Ã,.rowv iJ]
abbrev b8:List kD:=[bE,bp,bI,.rowc Õ,.rowc Ã,.rowc iJ,.rowv â]
abbrev b9:List kD:=[bE,bJ,.rowc Õ,.rowc Ã,.rowc iJ,.rowc â,.rowv Ã]
abbrev ca:List kD:=[bK,.rowc tI,bK,bL,.rowv .bool,.rowc tI,.rowv tI]
abbrev cd:List kD:=[bK,.rowv tI,bK,bL,.rowv .bool,.rowc tI,.rowv tI]
abbrev ce:List kD:=[bK,.rowv tI,bK,bL,.rowv .bool,.rowv tI,.rowv tI]
abbrev cf:List kD:=[.rowv aj,bv]
abbrev cg:List kD:=[.rowc aj,bv]
abbrev ci:List kD:=[.rowv aj,bM]
abbrev cj:List kD:=[bv,bt,bv,bP,bQ,.rowc â]
abbrev cm:List kD:=[bv,bo,bQ,bv,bR,bQ,.rowc â]
abbrev cn:List kD:=[bo,bT,.rowc tI,bv]
abbrev cp:List kD:=[bo,bT,.rowv tI,bv]
abbrev cq:List kD:=[bp,bB,bE,bp,bE,.dead,bU,bE,.rowv â,.rowc Õ,.rowc Ã,.rowc iJ,.rowc Ã]
abbrev cr:List kD:=[.rowc aa,bK,.dead,.dead,.rowv tI]
abbrev cu:List kD:=[bK,.rowc aj,bV,bK,.rowv tI]
def iL:à:=⟨[aj],[aa],fun(x:Val aj)=>ĥ x⟩
def kY:Ç:=Ls 0 [aj,aj,tI] [tI,tI] ⟨36,.con aj::aN 2 (.var tI::aN 5 [.con aj,.con tI,.var tI]),[]⟩ [(.exit 0,⟨36,.con aj::aN 2 (.var tI::aN 5 [.con aj,.con tI]),[]⟩,[tI])]
def kX (ρ:Type):Þ ρ:=⟨[],93,0,kY,fun(p:Val (tyL kY.cs)) (v:Val Ã) a b=>Ο p.2.1 p.2.2 v.1 v.2 (fun c d=>a (c,d)) (b 0)⟩
def uU:Ç:=Ls 0 [aj,tI] [tI,aa] ⟨36,aN 6 (.own 0::aN 18 [.con aj,.con tI,.var tI]),bW⟩ [(.exit 2,⟨36,aN 6 (.own 0::aN 18 [.con aj,.con tI]),bW⟩,[aa])]
def kT (ρ:Type):Þ ρ:=⟨[],93,2,uU,fun(p:Val (.pair aj tI)) (v:Val œ) a b=>Ğ p.1 p.2 v.1 v.2 (fun c d=>a (c,d)) (b 0)⟩
def xH:List (Nat×à):=[]
def wy (ρ:Type):List (Þ ρ):=[kX ρ,kT ρ]
def κ (ρ:Type):Env ρ:=å xH (wy ρ)
def Lx:ahe:=⟨272,aa,aa,yY⟩
def υ:Tpl:=⟨37,.any::.box 1 0::.box 2 0::.any::.box 3 0::aN 6 [.con aa,.con tI,.con tI],[.acc aa,.cells [.con aa],.cells [.yld],.cells [.con tI]]⟩
def jf (al:Val aj) (rec:Val aa→Option ((Val aj))) (ρ:Type):EU ρ:=⟨[],272,2,4,[aa,tI,tI,aa,tI],[aj],υ,⟨272,aa,aa,rec⟩,fun(p:Val aS) (v:Val aj) y a=>pu al rec p.2.2.2.2 v y (fun b=>a b)⟩
def Ů:Ç:=Ls 2 [aa,tI,aa] [tI,aj] ⟨37,.any::.box 1 0::.box 2 0::aN 8 [.con aa,.con tI,.var tI],[.acc aa,bo,.cells [.yld]]⟩ [(.exit 0,⟨37,.any::.box 1 0::.box 2 0::aN 8 [.con aa,.con tI],[.acc aa,bo,.cells [.yld]]⟩,[aj])]
def mf (al:Val aj) (rec:Val aa→Option ((Val aj))) (ρ:Type):Þ ρ:=⟨[],272,0,Ů,fun(p:Val aV) (v:Val bf) a b=>pv al rec p.1 p.2.1 p.2.2 v.1 v.2 (fun c d=>a (c,d)) (b 0)⟩
def xm (al:Val aj) (rec:Val aa→Option ((Val aj))) (ρ:Type):List (EU ρ):=[jf al rec ρ]
def JS:List (Nat×à):=[(93,iL)]
def wg (al:Val aj) (rec:Val aa→Option ((Val aj))) (ρ:Type):List (Þ ρ):=[mf al rec ρ]
def ý (al:Val aj) (rec:Val aa→Option ((Val aj))) (ρ:Type):Env ρ:={å JS (wg al rec ρ) with ranges:=Λ (xm al rec ρ),yld:=some ⟨aa,al⟩}
def pT:ahe:=⟨231,ai,aj,mC⟩
def Ŵ:Tpl:=⟨27,.any::.box 1 0::.box 2 0::.box 3 0::aN 11 [.con aa],[.acc aj,.cells [.con ai],.cells [.yld],.cells [.con aa]]⟩
def iq (al:Val af) (rec:Val ai→Option ((Val af))) (ρ:Type):EU ρ:=⟨[],231,2,4,[aa,ai,aa],[af],Ŵ,⟨231,ai,aj,rec⟩,fun(p:Val bh) (v:Val af) y a=>mi al rec p.2.2 v y (fun b=>a b)⟩
def ŵ:Tpl:=⟨27,[.any,.box 1 0,.box 2 0],[.acc aj,.cells [.con ai],.cells [.yld]]⟩
def ir (al:Val af) (rec:Val ai→Option ((Val af))) (ρ:Type):EU ρ:=⟨[],231,0,3,[ai],[af],ŵ,Lx,fun(p:Val ai) (v:Val af) y a=>mj al rec p v y (fun b=>a b)⟩
def sQ (al:Val af) (rec:Val ai→Option ((Val af))) (ρ:Type):List (EU ρ):=[iq al rec ρ,ir al rec ρ]
def Fx:List (Nat×à):=[]
def qR (al:Val af) (rec:Val ai→Option ((Val af))) (ρ:Type):List (Þ ρ):=[]
def è (al:Val af) (rec:Val ai→Option ((Val af))) (ρ:Type):Env ρ:={å Fx (qR al rec ρ) with ranges:=Λ (sQ al rec ρ),yld:=some ⟨aj,al⟩}
def Eb:ahe:=⟨268,aa,tI,yX⟩
def Ĕ:Ç:=Ls 2 [aa,tI,aa] [tI,aa] ⟨16,.yld::aN 4 [.con aa,.con tI,.var tI],[.acc tI,bo]⟩ [(.exit 0,⟨16,.yld::aN 4 [.con aa,.con tI],[.acc tI,bo]⟩,[aa])]
def Χ (al:Val aa) (rec:Val aa→Option ((Val aa))) (ρ:Type):Þ ρ:=⟨[],268,0,Ĕ,fun(p:Val aV) (v:Val œ) a b=>iu al rec p.1 p.2.1 v.1 v.2 (fun c d=>a (c,d)) (b 0)⟩
def uR:List (Nat×à):=[]
def tv (al:Val aa) (rec:Val aa→Option ((Val aa))) (ρ:Type):List (Þ ρ):=[Χ al rec ρ]
def ć (al:Val aa) (rec:Val aa→Option ((Val aa))) (ρ:Type):Env ρ:={å uR (tv al rec ρ) with yld:=some ⟨tI,al⟩}
def mb:à:=⟨[aa,tI],[tI],fun(x:Val aw)=>gZ x.1 x.2⟩
def wx:Ç:=Ls 0 [aa,tI,tI] [tI] ⟨19,.con aa::.con tI::aN 5 [.con tI,.var tI],[]⟩ [(.ret,⟨19,[.con aa,.con tI,.any,.any,.var tI,.any,.any,.con tI],[]⟩,[tI]),(.exit 0,⟨19,.con aa::.con tI::aN 5 [.con tI],[]⟩,[])]
def lQ (ρ:Type):Þ ρ:=⟨[],173,0,wx,fun(p:Val (.pair aa Ã)) (v:Val tI) b a=>ι p.1 p.2.1 p.2.2 v (fun c=>b c) (a 0) (a 1)⟩
def zJ:List (Nat×à):=[]
def xF (ρ:Type):List (Þ ρ):=[lQ ρ]
def j8 (ρ:Type):Env ρ:=å zJ (xF ρ)
def Ţ:à:=⟨[aa,tI],[.bool],fun(x:Val aw)=>á x.1 x.2⟩
def uT:List (Nat×à):=[(173,mb)]
def tz (ρ:Type):List (Þ ρ):=[]
def lR (ρ:Type):Env ρ:=å uT (tz ρ)
def P6:à:=⟨[Ê,Õ],[aa],fun(x:Val (.pair Ê Õ))=>oN x.1 x.2⟩
def Rw:Ç:=Ls 0 [ae,tI,tI,tI,ag,ab,ah,ae,ab,tI,tI,tI,tI,tI,tI,tI,tI] [tI,aa] ⟨59,aN 2 (.box 0 0::.box 1 0::.any::.own 2::aN 8 [.con ae,.con tI,.var tI]),[bp,bq,.rowv tI]⟩ [(.exit 0,⟨59,aN 2 (.box 0 0::.box 1 0::.any::.own 2::aN 8 [.con ae,.con tI]),[bp,bq,.rowv tI]⟩,[aa])]
def D2 (ρ:Type):Þ ρ:=⟨[],201,0,Rw,fun(p:Val (.pair ae aJ)) (v:Val œ) a b=>vx p.1 p.2.1 p.2.2.2.2.2.2.2.2.2.1 v.1 v.2 (fun c d=>a (c,d)) (b 0)⟩
def D0:Ç:=Ls 0 [ab,tI,tI,tI,tI,tI,tI,tI,tI,tI] [tI,aa] ⟨59,aN 3 (.box 0 0::.any::.own 1::aN 32 [.con ab,.con tI,.var tI]),[bq,.rowv tI]⟩ [(.exit 2,⟨59,aN 3 (.box 0 0::.any::.own 1::aN 32 [.con ab,.con tI]),[bq,.rowv tI]⟩,[aa])]
def DZ (ρ:Type):Þ ρ:=⟨[],201,2,D0,fun(p:Val (tyL D0.cs)) (v:Val œ) a b=>vw p.1 p.2.1 p.2.2.1 v.1 v.2 (fun c d=>a (c,d)) (b 0)⟩
def XG:List (Nat×à):=[(92,Ţ)]
def UU (ρ:Type):List (Þ ρ):=[D2 ρ,DZ ρ]
def yU (ρ:Type):Env ρ:=å XG (UU ρ)
def CD:à:=⟨[Ê],[ab],fun(x:Val Ê)=>pX x⟩
def AP:Ç:=Ls 0 [ag,tI,tI,aa,tI,tI,tI,ag,ab,ah,ae,ab,tI,tI,tI,tI,tI,tI,tI,tI] [tI,ab] ⟨33,.any::.box 0 0::.any::.own 1::.any::.box 2 0::aN 3 (.con ag::.con tI::.con tI::aN 5 [.con aa,.con tI,.var tI]),[bp,.rowv Ã,bq]⟩ [(.exit 2,⟨33,.any::.box 0 0::.any::.own 1::.any::.box 2 0::aN 3 (.con ag::.con tI::.con tI::aN 5 [.con aa,.con tI]),[bp,.rowv Ã,bq]⟩,[ab])]
def AO (ρ:Type):Þ ρ:=⟨[],136,2,AP,fun(p:Val (tyL AP.cs)) (v:Val ba) a b=>ro p.2.2.2.1 p.2.2.2.2.1 p.2.2.2.2.2.2.2.2.2.2.2.2.1 v.1 v.2 (fun c d=>a (c,d)) (b 0)⟩
def AR:Ç:=Ls 0 [ag,tI,tI,tI,ag,ab,ah,ae,ab] [tI,ab] ⟨33,.any::.box 0 0::.any::.own 1::aN 5 [.con ag,.con tI,.var tI],[bp,.rowv Ã]⟩ [(.exit 0,⟨33,.any::.box 0 0::.any::.own 1::aN 5 [.con ag,.con tI],[bp,.rowv Ã]⟩,[ab])]
def AQ (ρ:Type):Þ ρ:=⟨[],136,0,AR,fun(p:Val (tyL AR.cs)) (v:Val ba) a b=>let A:=p.2.2.2.2;rq p.1 p.2.1 p.2.2.1 p.2.2.2.1 A.1 A.2.1 A.2.2.1 A.2.2.2.1 A.2.2.2.2 v.1 v.2 (fun c d=>a (c,d)) (b 0)⟩
def UL:List (Nat×à):=[(201,P6)]
def Rj (ρ:Type):List (Þ ρ):=[AO ρ,AQ ρ]
def vm (ρ:Type):Env ρ:=å UL (Rj ρ)
def sL:à:=⟨[Ã,tI,tI],[.bool],fun(x:Val Ė)=>Ι x.1 x.2.1 x.2.2⟩
def Rs:List (Nat×à):=[]
def NU (ρ:Type):List (Þ ρ):=[]
def Hd (ρ:Type):Env ρ:=å Rs (NU ρ)
def jc:à:=⟨[tI,tI,tI],[.bool],fun(x:Val ŕ)=>ĕ x.1 x.2.1 x.2.2⟩
def Rh:List (Nat×à):=[]
def NF (ρ:Type):List (Þ ρ):=[]
def Hc (ρ:Type):Env ρ:=å Rh (NF ρ)
def wY:à:=⟨[tI],[.bool],fun(x:Val tI)=>lr x⟩
def US:List (Nat×à):=[(212,jc)]
def Rq (ρ:Type):List (Þ ρ):=[]
def Ld (ρ:Type):Env ρ:=å US (Rq ρ)
def P4:à:=⟨[tI],[(.int .u64)],fun(x:Val tI)=>rO x⟩
def Xo:List (Nat×à):=[]
def Ux (ρ:Type):List (Þ ρ):=[]
def O6 (ρ:Type):Env ρ:=å Xo (Ux ρ)
def WO:à:=⟨[(.int .u64),(.int .u64)],[(.int .u64)],fun(x:Val bj)=>LY x.1 x.2⟩
def Uz:Ç:=Ls 0 [] [(.int .u64),(.int .u64)] ⟨12,[.var (.int .u64),.var (.int .u64)],[]⟩ [(.exit 0,⟨12,[.var (.int .u64)],[]⟩,[(.int .u64)])]
def G9 (ρ:Type):Þ ρ:=⟨[],292,0,Uz,fun(p:Unit) (v:Val bj) a b=>yR v.1 v.2 (fun c d=>a (c,d)) (b 0)⟩
def aaV:List (Nat×à):=[]
def Xp (ρ:Type):List (Þ ρ):=[G9 ρ]
def KR (ρ:Type):Env ρ:=å aaV (Xp ρ)
def CA:à:=⟨[Ã],[.bool],fun(x:Val Ã)=>ue x⟩
def UC:List (Nat×à):=[(291,P4),(292,WO)]
def Ra (ρ:Type):List (Þ ρ):=[]
def KU (ρ:Type):Env ρ:=å UC (Ra ρ)
def Ju:à:=⟨[Õ],[.bool],fun(x:Val Õ)=>vL x⟩
def NT:List (Nat×à):=[(141,sL),(205,wY),(212,jc),(253,CA)]
def Lb (ρ:Type):List (Þ ρ):=[]
def DY (ρ:Type):Env ρ:=å NT (Lb ρ)
def wZ:à:=⟨[Ê],[tI],fun(x:Val Ê)=>Ż x⟩
def oo:Ç:=Ls 0 [ag,tI,tI,tI,ag,ab,ah,ae,ab] [tI] ⟨31,.any::.box 0 0::aN 4 [.con ag,.con tI,.var tI],[bp]⟩ [(.ret,⟨31,[.any,.box 0 0,.var tI,.any,.any,.any,.con ag,.con tI],[bp]⟩,[tI]),(.exit 0,⟨31,.any::.box 0 0::aN 4 [.con ag,.con tI],[bp]⟩,[])]
def om (ρ:Type):Þ ρ:=⟨[],142,0,oo,fun(p:Val (tyL oo.cs)) (v:Val tI) b a=>iN p.1 p.2.1 p.2.2.2.2.1 v (fun c=>b c) (a 0) (a 1)⟩
def D3:List (Nat×à):=[(203,Ju)]
def BU (ρ:Type):List (Þ ρ):=[om ρ]
def mz (ρ:Type):Env ρ:=å D3 (BU ρ)
def uD:à:=⟨[Ê],[am],fun(x:Val Ê)=>ļ x⟩
def Ih:Ç:=Ls 0 [ag,tI] [tI,am] ⟨20,aN 3 (.omp 0::aN 4 [.con ag,.con tI,.var tI]),[.mapv tI Õ]⟩ [(.exit 0,⟨20,aN 3 (.omp 0::aN 4 [.con ag,.con tI]),[.mapv tI Õ]⟩,[am])]
def wo (ρ:Type):Þ ρ:=⟨[],143,0,Ih,fun(p:Val (.pair ag tI)) (v:Val (.pair tI am)) a b=>mO p.1 p.2 v.1 v.2 (fun c d=>a (c,d)) (b 0)⟩
def NH:List (Nat×à):=[]
def KZ (ρ:Type):List (Þ ρ):=[wo ρ]
def vh (ρ:Type):Env ρ:=å NH (KZ ρ)
def mK:à:=⟨[am,tI,tI],[tI],fun(x:Val (.pair am Ã))=>iF x.1 x.2.1 x.2.2⟩
def FT:List (Nat×à):=[]
def DE (ρ:Type):List (Þ ρ):=[]
def wp (ρ:Type):Env ρ:=å FT (DE ρ)
def WQ:à:=⟨[tI,tI,(.ptr am)],[tI],fun(x:Val (.pair tI (.pair tI (.ptr am))))=>Ľ x.1 x.2.1 x.2.2⟩
def NI:List (Nat×à):=[(205,wY),(206,mK)]
def K4 (ρ:Type):List (Þ ρ):=[]
def DG (ρ:Type):Env ρ:=å NI (K4 ρ)
def P7:à:=⟨[Ê,am,tI],[tI],fun(x:Val bm)=>Υ x.1 x.2.1 x.2.2⟩
def rz:Ç:=Ls 2 [ah,tI,tI,tI,ag,ab,ah,ae,ab,tI,tI,tI,tI] [tI] ⟨19,.con ah::.fn 254 [(1,0)]::aN 5 [.con tI,.var tI],[bp,br]⟩ [(.ret,⟨19,[.con ah,.fn 254 [(1,0)],.any,.any,.var tI,.any,.any,.con tI],[bp,br]⟩,[tI]),(.exit 0,⟨19,.con ah::.fn 254 [(1,0)]::aN 5 [.con tI],[bp,br]⟩,[])]
def ru (ρ:Type):Þ ρ:=⟨[9,5,1,2],293,0,rz,fun(p:Val (tyL rz.cs)) (v:Val tI) b a=>let A:=p.2.2.2.2.2.2.2.2.2;jX p.1 p.2.1 A.1 A.2.1 A.2.2.1 v (fun c=>b c) (a 0) (a 1)⟩
def rt:Ç:=Ls 2 [ab,tI,tI,tI,ag,ab,ah,ae,ab,tI,tI,tI,tI] [tI] ⟨19,.con ab::.fn 255 [(1,0)]::aN 5 [.con tI,.var tI],[bp,br]⟩ [(.ret,⟨19,[.con ab,.fn 255 [(1,0)],.any,.any,.var tI,.any,.any,.con tI],[bp,br]⟩,[tI]),(.exit 0,⟨19,.con ab::.fn 255 [(1,0)]::aN 5 [.con tI],[bp,br]⟩,[])]
def rr (ρ:Type):Þ ρ:=⟨[9,10,1,2],294,0,rt,fun(p:Val (tyL rt.cs)) (v:Val tI) b a=>let A:=p.2.2.2.2.2.2.2.2.2;Θ p.1 p.2.1 A.1 A.2.1 A.2.2.1 v (fun c=>b c) (a 0) (a 1)⟩
def Io:List (Nat×à):=[(141,sL),(206,mK),(212,jc)]
def F4 (ρ:Type):List (Þ ρ):=[ru ρ,rr ρ]
def lf (ρ:Type):Env ρ:=å Io (F4 ρ)
def CE:à:=⟨[aa,aa],[aa],fun(x:Val (.pair aa aa))=>Τ x.1 x.2⟩
def DX:Ç:=Ls 2 [tI,aa,aa] [tI] ⟨19,.own 1::.fn 214 [(0,0)]::aN 5 [.con tI,.var tI],[bo,.rowc tI]⟩ [(.ret,⟨19,[.own 1,.fn 214 [(0,0)],.any,.any,.var tI,.any,.any,.con tI],[bo,.rowc tI]⟩,[tI]),(.exit 0,⟨19,.own 1::.fn 214 [(0,0)]::aN 5 [.con tI],[bo,.rowc tI]⟩,[])]
def DW (ρ:Type):Þ ρ:=⟨[1,3,1,2],260,0,DX,fun(p:Val (tyL DX.cs)) (v:Val tI) b a=>vv p.1 p.2.1 p.2.2 v (fun c=>b c) (a 0) (a 1)⟩
def Rn:Ç:=Ls 2 [aa] [tI,tI,aa] ⟨42,[.own 1,.fn 214 [(0,0)],.any,.any,.any,.var tI,.var tI],[bo,.rowv tI]⟩ [(.exit 0,⟨42,[.own 1,.fn 214 [(0,0)],.any,.any,.any,.var tI],[bo,.rowv tI]⟩,[tI,aa])]
def DU (ρ:Type):Þ ρ:=⟨[1,3],213,0,Rn,fun(p:Val aa) (v:Val aQ) a b=>kd p v.1 v.2.1 v.2.2 (fun c d e=>a (c,d,e)) (b 0)⟩
def XF:List (Nat×à):=[(92,Ţ)]
def UQ (ρ:Type):List (Þ ρ):=[DW ρ,DU ρ]
def yT (ρ:Type):Env ρ:=å XF (UQ ρ)
def Fh:à:=⟨[aa],[.bool],fun(x:Val aa)=>mG x⟩
def La:Ç:=Ls 0 [aa,aa,tI] [tI] ⟨32,.con aa::aN 4 [.con aa,.con tI,.var tI],[]⟩ [(.ret,⟨32,[.con aa,.any,.var .bool,.any,.any,.con aa,.con tI],[]⟩,[.bool]),(.exit 0,⟨32,.con aa::aN 4 [.con aa,.con tI],[]⟩,[])]
def yc (ρ:Type):Þ ρ:=⟨[],172,0,La,fun(p:Val (.pair aa aw)) (v:Val tI) b a=>oG p.1 p.2.1 p.2.2 v (fun c=>b c) (a 0) (a 1)⟩
def Rp:List (Nat×à):=[(212,jc)]
def NR (ρ:Type):List (Þ ρ):=[yc ρ]
def yd (ρ:Type):Env ρ:=å Rp (NR ρ)
def P8:à:=⟨[Ê,tI,tI],[iJ,.bool],fun(x:Val aK)=>vM x.1 x.2.1 x.2.2⟩
def D5:Ç:=Ls 4 [ah,tI,tI,tI,ag,ab,ah,ae,ab,tI,tI,tI,tI,tI,tI] [tI] ⟨19,.con ah::.fn 295 [(1,0),(2,0)]::aN 5 [.con tI,.var tI],[bp,bt,bt,br]⟩ [(.ret,⟨19,[.con ah,.fn 295 [(1,0),(2,0)],.any,.any,.var tI,.any,.any,.con tI],[bp,bt,bt,br]⟩,[tI]),(.exit 0,⟨19,.con ah::.fn 295 [(1,0),(2,0)]::aN 5 [.con tI],[bp,bt,bt,br]⟩,[])]
def D4 (ρ:Type):Þ ρ:=⟨[1,3],293,0,D5,fun(p:Val (tyL D5.cs)) (v:Val tI) b a=>vz p.1 p.2.1 p.2.2.2.2.2.2.2.2.2.1 p.2.2.2.2.2.2.2.2.2.2.1 v (fun c=>b c) (a 0) (a 1)⟩
def XH:List (Nat×à):=[(212,jc)]
def UW (ρ:Type):List (Þ ρ):=[D4 ρ]
def F6 (ρ:Type):Env ρ:=å XH (UW ρ)
def HB:à:=⟨[Ê,am,tI],[tI],fun(x:Val bm)=>ņ x.1 x.2.1 x.2.2⟩
def nJ:Ç:=Ls 2 [ae,tI,tI,tI,ag,ab,ah,ae,ab,tI,tI,aa,aa,tI,tI,tI,tI] [tI] ⟨19,.con ae::.fn 258 [(1,0)]::aN 5 [.con tI,.var tI],[bp,bu]⟩ [(.ret,⟨19,[.con ae,.fn 258 [(1,0)],.any,.any,.var tI,.any,.any,.con tI],[bp,bu]⟩,[tI]),(.exit 0,⟨19,.con ae::.fn 258 [(1,0)]::aN 5 [.con tI],[bp,bu]⟩,[])]
def nI (ρ:Type):Þ ρ:=⟨[4,5,1,2],175,0,nJ,fun(p:Val (tyL nJ.cs)) (v:Val tI) b a=>iw p.1 p.2.1 p.2.2.2.2.2.2.2.2.2.1 v (fun c=>b c) (a 0) (a 1)⟩
def nE:Ç:=Ls 0 [am,aa,tI,tI,tI,aa,tI,tI,tI,ag,ab,ah,ae,ab,tI,tI,aa,aa,tI,tI,tI,tI,aa] [tI] ⟨140,.any::.con am::.any::.box 0 0::aN 3 (.box 1 0::.con aa::.any::.con tI::aN 65 [.own 2,.con tI,.con tI,.any,.any,.any,.con aa,.con tI,.var tI]),bX⟩ [(.ret,⟨140,.any::.con am::.any::.box 0 0::aN 2 (.var tI::.box 1 0::.con aa::.any::.con tI::aN 65 [.own 2,.con tI,.con tI,.any,.any,.any,.con aa,.con tI]),bX⟩,[tI]),(.exit 2,⟨140,.any::.con am::.any::.box 0 0::aN 3 (.box 1 0::.con aa::.any::.con tI::aN 65 [.own 2,.con tI,.con tI,.any,.any,.any,.con aa,.con tI]),bX⟩,[])]
def nD (ρ:Type):Þ ρ:=⟨[],209,2,nE,fun(p:Val (tyL nE.cs)) (v:Val tI) b a=>let A:=p.2.2.2.2.2;iv p.1 p.2.2.1 A.1 A.2.1 A.2.2.2.2.2.2.2.2.2.2.1 v (fun c=>b c) (a 0) (a 1)⟩
def nH:Ç:=Ls 0 [am,aa,tI,tI,tI,ag,ab,ah,ae,ab,tI,tI,aa,aa,tI,tI,tI,tI,aa] [tI] ⟨140,.any::.con am::.any::.box 0 0::aN 3 (.box 1 0::.con aa::aN 67 [.own 2,.con tI,.var tI]),bX⟩ [(.ret,⟨140,.any::.con am::.any::.box 0 0::aN 2 (.var tI::.box 1 0::.con aa::aN 67 [.own 2,.con tI]),bX⟩,[tI]),(.exit 0,⟨140,.any::.con am::.any::.box 0 0::aN 3 (.box 1 0::.con aa::aN 67 [.own 2,.con tI]),bX⟩,[])]
def nF (ρ:Type):Þ ρ:=⟨[],209,0,nH,fun(p:Val (tyL nH.cs)) (v:Val tI) b a=>ō p.1 p.2.1 p.2.2.1 p.2.2.2.2.2.2.2.2.2.2.2.1 p.2.2.2.2.2.2.2.2.2.2.2.2.2.2.2.2.2.2 v (fun c=>b c) (a 0) (a 1)⟩
def nB:Ç:=Ls 0 [aa,tI,tI,tI,ag,ab,ah,ae,ab,tI,tI,aa,aa,tI,tI,tI,tI] [tI] ⟨140,aN 3 (.box 0 0::aN 3 (.box 1 0::aN 90 [.con aa,.con tI,.var tI])),[bp,bu]⟩ [(.ret,⟨140,aN 3 (.box 0 0::aN 2 (.var tI::.box 1 0::aN 90 [.con aa,.con tI])),[bp,bu]⟩,[tI]),(.exit 4,⟨140,aN 3 (.box 0 0::aN 3 (.box 1 0::aN 90 [.con aa,.con tI])),[bp,bu]⟩,[])]
def nA (ρ:Type):Þ ρ:=⟨[],209,4,nB,fun(p:Val (tyL nB.cs)) (v:Val tI) b a=>let A:=p.2.2.2.2;Ō p.1 p.2.1 p.2.2.1 p.2.2.2.1 A.1 A.2.1 A.2.2.1 A.2.2.2.1 A.2.2.2.2.1 A.2.2.2.2.2.2.1 v (fun c=>b c) (a 0) (a 1)⟩
def BW:List (Nat×à):=[(93,iL),(141,sL),(148,CE),(172,Fh),(205,wY),(206,mK),(212,jc),(259,P8)]
def zO (ρ:Type):List (Þ ρ):=[nI ρ,nD ρ,nF ρ,nA ρ]
def Ŝ (ρ:Type):Env ρ:=å BW (zO ρ)
def pp:à:=⟨[Ê],[tI],fun(x:Val Ê)=>ż x⟩
def Tx:à:=⟨[aa],[(.pair tI (.pair tI ŕ))],fun(x:Val aa)=>Eo x⟩
def OD:à:=⟨[Â],[.bool],fun(x:Val Â)=>zc x⟩
def xg:Ç:=Ls 0 [tI,tI,ag,ab,ah,ae,ab,ai,tI,tI,ag,ab,ah,ae,ab] [tI] ⟨90,[.any,.box 0 0,.any,.box 1 0,.var tI],[bv,bp]⟩ [(.ret,⟨90,[.any,.box 0 0,.var .bool,.box 1 0],[bv,bp]⟩,[.bool]),(.exit 0,⟨90,[.any,.box 0 0,.any,.box 1 0],[bv,bp]⟩,[])]
def xf (ρ:Type):Þ ρ:=⟨[],15,0,xg,fun(p:Val (tyL xg.cs)) (v:Val tI) b a=>ox p.2.2.2.2.2.2.2.2.2.2.2.2.2.1 v (fun c=>b c) (a 0) (a 1)⟩
def xe:Ç:=Ls 0 [tI,tI,ag,ab,ah,ae,ab,ai,tI,tI,ag,ab,ah,ae,ab] [tI] ⟨90,[.any,.box 0 0,.any,.box 1 0,.any,.var tI],[bv,bp]⟩ [(.ret,⟨90,[.any,.box 0 0,.var .bool,.box 1 0],[bv,bp]⟩,[.bool]),(.exit 2,⟨90,[.any,.box 0 0,.any,.box 1 0],[bv,bp]⟩,[])]
def xd (ρ:Type):Þ ρ:=⟨[],15,2,xe,fun(p:Val (tyL xe.cs)) (v:Val tI) b a=>kJ p.2.2.2.2.2.2.2.1 v (fun c=>b c) (a 0) (a 1)⟩
def Qj:List (Nat×à):=[]
def MP (ρ:Type):List (Þ ρ):=[xf ρ,xd ρ]
def qA (ρ:Type):Env ρ:=å Qj (MP ρ)
def TL:à:=⟨[Ê,tI,aa],[tI],fun(x:Val (.pair Ê œ))=>EA x.1 x.2.1 x.2.2⟩
def AX:Ç:=Ls 1 [aa,tI,tI,tI,ag,ab,ah,ae,ab] [tI] ⟨19,.con aa::.fn 299 []::aN 5 [.con tI,.var tI],[bp]⟩ [(.ret,⟨19,[.con aa,.fn 299 [],.any,.any,.var tI,.any,.any,.con tI],[bp]⟩,[tI]),(.exit 0,⟨19,.con aa::.fn 299 []::aN 5 [.con tI],[bp]⟩,[])]
def AW (ρ:Type):Þ ρ:=⟨[4,1,1,2],260,0,AX,fun(p:Val (tyL AX.cs)) (v:Val tI) b a=>rA p.1 p.2.1 v (fun c=>b c) (a 0) (a 1)⟩
def UY:List (Nat×à):=[(72,pp),(143,uD),(205,wY)]
def Rz (ρ:Type):List (Þ ρ):=[AW ρ]
def BX (ρ:Type):Env ρ:=å UY (Rz ρ)
def Zf:à:=⟨[Ê,tI,tI],[.bool,tI],fun(x:Val aK)=>zk x.1 x.2.1 x.2.2⟩
def XK:List (Nat×à):=[(259,P8),(269,TL)]
def U6 (ρ:Type):List (Þ ρ):=[]
def Pa (ρ:Type):Env ρ:=å XK (U6 ρ)
def TA:à:=⟨[Ê,ai,tI],[tI],fun(x:Val (.pair Ê (.pair ai tI)))=>Er x.1 x.2.1 x.2.2⟩
def Aq:Ç:=Ls 0 [ai,tI,tI,tI,ag,ab,ah,ae,ab,tI,aa] [tI] ⟨104,[.any,.con ai,.con tI,.box 0 0,.any,.any,.any,.box 1 0,.var tI],[bp,bw]⟩ [(.ret,⟨104,[.any,.con ai,.con tI,.box 0 0,.any,.any,.var tI,.box 1 0],[bp,bw]⟩,[tI]),(.exit 0,⟨104,[.any,.con ai,.con tI,.box 0 0,.any,.any,.any,.box 1 0],[bp,bw]⟩,[])]
def Ap (ρ:Type):Þ ρ:=⟨[],156,0,Aq,fun(p:Val (tyL Aq.cs)) (v:Val tI) b a=>m9 p.2.2.2.2.2.2.2.2.2.2 v (fun c=>b c) (a 0) (a 1)⟩
def Ao:Ç:=Ls 0 [ai,tI,ag,tI,tI,tI,ag,ab,ah,ae,ab,tI,aa] [tI,aW] ⟨104,.any::.con ai::.con tI::.box 0 0::aN 3 (.box 1 0::.any::.box 2 0::aN 50 [.con ag,.con tI,.var tI]),[bp,bw,bz,.mapv tI tI]⟩ [(.exit 2,⟨104,.any::.con ai::.con tI::.box 0 0::aN 3 (.box 1 0::.any::.box 2 0::aN 50 [.con ag,.con tI]),[bp,bw,bz,.mapv tI tI]⟩,[aW])]
def Al (ρ:Type):Þ ρ:=⟨[],156,2,Ao,fun(p:Val (tyL Ao.cs)) (v:Val (.pair tI aW)) a b=>m8 p.2.2.1 p.2.2.2.1 v.1 v.2 (fun c d=>a (c,d)) (b 0)⟩
def Na:Ç:=Ls 4 [aa,tI,tI,tI,ag,ab,ah,ae,ab,tI,aa,aW] [tI] ⟨19,.con aa::.fn 223 [(2,0)]::aN 5 [.con tI,.var tI],bY⟩ [(.ret,⟨19,[.con aa,.fn 223 [(2,0)],.any,.any,.var tI,.any,.any,.con tI],bY⟩,[tI]),(.exit 0,⟨19,.con aa::.fn 223 [(2,0)]::aN 5 [.con tI],bY⟩,[])]
def Ak (ρ:Type):Þ ρ:=⟨[18,3,1,2],260,0,Na,fun(p:Val aF) (v:Val tI) b a=>mZ p.1 p.2.1 p.2.2.2.2.2.2.2.2.2.2.2 v (fun c=>b c) (a 0) (a 1)⟩
def M9:Ç:=Ls 4 [aa,tI,tI,tI,ag,ab,ah,ae,ab,tI,aa,aW] [tI] ⟨19,.con aa::.fn 224 [(1,0),(2,0)]::aN 5 [.con tI,.var tI],bY⟩ [(.ret,⟨19,[.con aa,.fn 224 [(1,0),(2,0)],.any,.any,.var tI,.any,.any,.con tI],bY⟩,[tI]),(.exit 0,⟨19,.con aa::.fn 224 [(1,0),(2,0)]::aN 5 [.con tI],bY⟩,[])]
def Aj (ρ:Type):Þ ρ:=⟨[20,3,1,2],260,0,M9,fun(p:Val aF) (v:Val tI) b a=>kr p.1 p.2.1 p.2.2.2.2.2.2.2.2.2.1 p.2.2.2.2.2.2.2.2.2.2.2 v (fun c=>b c) (a 0) (a 1)⟩
def M8:Ç:=Ls 4 [aa,tI,tI,tI,ag,ab,ah,ae,ab,tI,aa,aW] [tI] ⟨19,.con aa::.fn 225 [(0,0),(1,0)]::aN 5 [.con tI,.var tI],bY⟩ [(.ret,⟨19,[.con aa,.fn 225 [(0,0),(1,0)],.any,.any,.var tI,.any,.any,.con tI],bY⟩,[tI]),(.exit 0,⟨19,.con aa::.fn 225 [(0,0),(1,0)]::aN 5 [.con tI],bY⟩,[])]
def Ai (ρ:Type):Þ ρ:=⟨[24,3,1,2],260,0,M8,fun(p:Val aF) (v:Val tI) b a=>let A:=p.2.2.2.2;Ń p.1 p.2.1 p.2.2.1 p.2.2.2.1 A.1 A.2.1 A.2.2.1 A.2.2.2.1 A.2.2.2.2.1 A.2.2.2.2.2.1 v (fun c=>b c) (a 0) (a 1)⟩
def T8:List (Nat×à):=[(226,Zf)]
def Qt (ρ:Type):List (Þ ρ):=[Ap ρ,Al ρ,Ak ρ,Aj ρ,Ai ρ]
def j7 (ρ:Type):Env ρ:=å T8 (Qt ρ)
def iP:à:=⟨[Â],[tI],fun(x:Val Â)=>gY x⟩
def Nq:Ç:=Ls 0 [ai,tI,tI,tI,tI,tI,ag,ab,ah,ae,ab,ai] [tI,tI] ⟨50,.any::.box 0 0::aN 2 (.var tI::aN 15 (.con ai::.con tI::.con tI::aN 15 [.con tI,.var tI])),[bv]⟩ [(.exit 2,⟨50,.any::.box 0 0::aN 2 (.var tI::aN 15 (.con ai::.con tI::.con tI::aN 15 [.con tI])),[bv]⟩,[tI])]
def Au (ρ:Type):Þ ρ:=⟨[],80,2,Nq,fun(p:Val (.pair ai bi)) (v:Val Ã) a b=>nc p.2.2.2.1 v.1 v.2 (fun c d=>a (c,d)) (b 0)⟩
def Nr:Ç:=Ls 0 [ai,tI,tI,tI,ag,ab,ah,ae,ab,ai] [tI,tI] ⟨50,.any::.box 0 0::aN 2 (.var tI::aN 15 [.con ai,.con tI,.var tI]),[bv]⟩ [(.ret,⟨50,.any::.box 0 0::.var tI::aN 17 [.con ai,.con tI],[bv]⟩,[tI]),(.exit 0,⟨50,.any::.box 0 0::aN 2 (.var tI::aN 15 [.con ai,.con tI]),[bv]⟩,[tI])]
def Aw (ρ:Type):Þ ρ:=⟨[],80,0,Nr,fun(p:Val (.pair ai aB)) (v:Val Ã) b a=>let A:=p.2.2.2.2;qY p.1 p.2.1 p.2.2.1 p.2.2.2.1 A.1 A.2.1 A.2.2.1 A.2.2.2.1 A.2.2.2.2.1 A.2.2.2.2.2 v.1 v.2 (fun c d=>b (c,d)) (a 0) (a 1)⟩
def Ui:List (Nat×à):=[(72,pp),(156,TA)]
def QI (ρ:Type):List (Þ ρ):=[Au ρ,Aw ρ]
def uQ (ρ:Type):Env ρ:=å Ui (QI ρ)
def ű:à:=⟨[ab,Ã],[tI],fun(x:Val (.pair ab Ã))=>ð x.1 x.2⟩
def lH:Ç:=Ls 0 [ab,tI,tI,tI] [tI] ⟨19,[.con ab,.any,.any,.box 0 0,.any,.any,.any,.con tI,.var tI],[bB]⟩ [(.ret,⟨19,[.con ab,.any,.any,.box 0 0,.var tI,.any,.any,.con tI],[bB]⟩,[tI]),(.exit 0,⟨19,[.con ab,.any,.any,.box 0 0,.any,.any,.any,.con tI],[bB]⟩,[])]
def η (ρ:Type):Þ ρ:=⟨[],135,0,lH,fun(p:Val (.pair ab ŕ)) (v:Val tI) b a=>Ĥ p.1 p.2.1 p.2.2.1 p.2.2.2 v (fun c=>b c) (a 0) (a 1)⟩
def nw:List (Nat×à):=[]
def mo (ρ:Type):List (Þ ρ):=[η ρ]
def ŝ (ρ:Type):Env ρ:=å nw (mo ρ)
def GW:à:=⟨[aD,aa,tI],[tI],fun(x:Val (.pair aD aw))=>ku x.1 x.2.1 x.2.2⟩
def K9:List (Nat×à):=[(135,ű)]
def Ik (ρ:Type):List (Þ ρ):=[]
def AU (ρ:Type):Env ρ:=å K9 (Ik ρ)
def Zd:à:=⟨[Ê,Õ,tI,tI],[tI],fun(x:Val (.pair Ê (.pair Õ Ã)))=>zj x.1 x.2.1 x.2.2.1 x.2.2.2⟩
def DT:Ç:=Ls 0 [tI,tI,ah,tI,tI,tI,ag,ab,ah,ae,ab,tI,tI,tI,tI,tI,tI,tI,tI] [tI,tI] ⟨88,aN 2 (.con tI::.con tI::.box 0 0::.box 1 0::aN 3 (.var tI::aN 7 [.con ah,.con tI,.var tI])),[bp,bq]⟩ [(.exit 0,⟨88,aN 2 (.con tI::.con tI::.box 0 0::.box 1 0::aN 3 (.var tI::aN 7 [.con ah,.con tI])),[bp,bq]⟩,[tI])]
def DS (ρ:Type):Þ ρ:=⟨[],247,0,DT,fun(p:Val (tyL DT.cs)) (v:Val Ã) a b=>vu p.1 p.2.1 p.2.2.1 p.2.2.2.1 p.2.2.2.2.2.2.2.2.2.2.2.1 v.1 v.2 (fun c d=>a (c,d)) (b 0)⟩
def DR:Ç:=Ls 0 [tI,tI,tI,ab,tI,tI,tI,tI,tI,tI,tI,tI,tI] [tI,aa] ⟨88,aN 2 (.con tI::.con tI::.any::.box 0 0::aN 3 (.con tI::aN 3 (.own 1::aN 39 [.con ab,.con tI,.var tI]))),[bq,.rowv tI]⟩ [(.exit 2,⟨88,aN 2 (.con tI::.con tI::.any::.box 0 0::aN 3 (.con tI::aN 3 (.own 1::aN 39 [.con ab,.con tI]))),[bq,.rowv tI]⟩,[aa])]
def DQ (ρ:Type):Þ ρ:=⟨[],247,2,DR,fun(p:Val (tyL DR.cs)) (v:Val œ) a b=>vt p.1 p.2.1 p.2.2.2.1 p.2.2.2.2.1 p.2.2.2.2.2.1 v.1 v.2 (fun c d=>a (c,d)) (b 0)⟩
def XE:List (Nat×à):=[(212,jc)]
def UO (ρ:Type):List (Þ ρ):=[DS ρ,DQ ρ]
def yS (ρ:Type):Env ρ:=å XE (UO ρ)
def we:à:=⟨[am,aa],[Ã],fun(x:Val (.pair am aa))=>iC x.1 x.2⟩
def BO:List (Nat×à):=[]
def zL (ρ:Type):List (Þ ρ):=[]
def rl (ρ:Type):Env ρ:=å BO (zL ρ)
def sJ:à:=⟨[ab],[tI],fun(x:Val ab)=>jJ x⟩
def ND:Ç:=Ls 0 [ab,tI] [tI] ⟨15,aN 5 [.con ab,.con tI,.var tI],[]⟩ [(.ret,⟨15,[.any,.any,.var tI,.any,.any,.con ab,.con tI],[]⟩,[tI]),(.exit 0,⟨15,aN 5 [.con ab,.con tI],[]⟩,[])]
def AM (ρ:Type):Þ ρ:=⟨[],264,0,ND,fun(p:Val bg) (v:Val tI) b a=>rk p.1 p.2 v (fun c=>b c) (a 0) (a 1)⟩
def Uw:List (Nat×à):=[(253,CA)]
def Q4 (ρ:Type):List (Þ ρ):=[AM ρ]
def BI (ρ:Type):Env ρ:=å Uw (Q4 ρ)
def Bf:à:=⟨[tI,tI],[Ã,tI],fun(x:Val Ã)=>pW x.1 x.2⟩
def NE:List (Nat×à):=[(291,P4),(292,WO)]
def KP (ρ:Type):List (Þ ρ):=[]
def DA (ρ:Type):Env ρ:=å NE (KP ρ)
def acG:à:=⟨[Ã,Ã],[Ã,tI],fun(x:Val Ė)=>Sa x.1 x.2⟩
def aaX:List (Nat×à):=[(264,sJ),(312,Bf)]
def Xv (ρ:Type):List (Þ ρ):=[]
def UD (ρ:Type):Env ρ:=å aaX (Xv ρ)
def CC:à:=⟨[Ã,Ã],[Ã],fun(x:Val Ė)=>vK x.1 x.2⟩
def Ij:List (Nat×à):=[(296,acG)]
def FW (ρ:Type):List (Þ ρ):=[]
def xY (ρ:Type):Env ρ:=å Ij (FW ρ)
def WP:à:=⟨[Ã,Ã],[tI],fun(x:Val Ė)=>LZ x.1 x.2⟩
def aaW:List (Nat×à):=[]
def Xs (ρ:Type):List (Þ ρ):=[]
def UB (ρ:Type):Env ρ:=å aaW (Xs ρ)
def Ab:à:=⟨[Ė],[.bool],fun(x:Val Ė)=>sv x⟩
def FQ:List (Nat×à):=[(264,sJ),(320,WP)]
def DB (ρ:Type):List (Þ ρ):=[]
def wn (ρ:Type):Env ρ:=å FQ (DB ρ)
def acH:à:=⟨[Ã,Ã],[Ã,tI],fun(x:Val Ė)=>L2 x.1 x.2⟩
def aaY:List (Nat×à):=[(264,sJ),(312,Bf)]
def Xy (ρ:Type):List (Þ ρ):=[]
def UF (ρ:Type):Env ρ:=å aaY (Xy ρ)
def TI:à:=⟨[Ė,Ã],[Ė,tI],fun(x:Val (.pair Ė Ã))=>L1 x.1 x.2⟩
def Hb:List (Nat×à):=[(253,CA),(313,Ab),(316,acH),(320,WP)]
def vg (ρ:Type):List (Þ ρ):=[]
def Ha:List agC:=[⟨[3,2],314,0,4⟩]
def UE (ρ:Type):Env ρ:=å Hb (vg ρ)
def BK (ρ:Type):Env ρ:=mkEnvU Hb (vg ρ) Ha
def CB:à:=⟨[Ã,Ã],[Ė],fun(x:Val Ė)=>oM x.1 x.2⟩
def Ii:List (Nat×à):=[(297,TI)]
def FU (ρ:Type):List (Þ ρ):=[]
def xX (ρ:Type):Env ρ:=å Ii (FU ρ)
def OI:à:=⟨[Ê,â],[Ė],fun(x:Val aX)=>ug x.1 x.2⟩
def Rt:List (Nat×à):=[(143,uD),(148,CE),(261,we),(262,CC),(263,CB)]
def NW (ρ:Type):List (Þ ρ):=[]
def He (ρ:Type):Env ρ:=å Rt (NW ρ)
def TK:à:=⟨[Ê,â],[Ã],fun(x:Val aX)=>yq x.1 x.2⟩
def UT:List (Nat×à):=[]
def Ru (ρ:Type):List (Þ ρ):=[]
def Lf (ρ:Type):Env ρ:=å UT (Ru ρ)
def Jt:à:=⟨[tI,tI],[tI],fun(x:Val Ã)=>yp x.1 x.2⟩
def UA:List (Nat×à):=[]
def Q8 (ρ:Type):List (Þ ρ):=[]
def KS (ρ:Type):Env ρ:=å UA (Q8 ρ)
def Zb:à:=⟨[Ã],[tI,tI],fun(x:Val Ã)=>IY x⟩
def XB:List (Nat×à):=[(264,sJ),(265,Jt)]
def UH (ρ:Type):List (Þ ρ):=[]
def O7 (ρ:Type):Env ρ:=å XB (UH ρ)
def TJ:à:=⟨[Ã],[tI,tI],fun(x:Val Ã)=>Ey x⟩
def UG:List (Nat×à):=[(264,sJ),(265,Jt)]
def Re (ρ:Type):List (Þ ρ):=[]
def KX (ρ:Type):Env ρ:=å UG (Re ρ)
def Zc:à:=⟨[Ê,â],[Ã],fun(x:Val aX)=>zi x.1 x.2⟩
def XC:List (Nat×à):=[(215,OI),(216,TK),(217,Zb),(218,TJ)]
def UJ (ρ:Type):List (Þ ρ):=[]
def O8 (ρ:Type):Env ρ:=å XC (UJ ρ)
def P5:à:=⟨[Ê],[aD],fun(x:Val Ê)=>Ez x⟩
def DM:Ç:=Ls 2 [tI,aa,tI,ag,tI,tI,tI,tI,ag,ab,ah,ae,ab,tI,tI,ag,ab,ah,ae,ab,ab,tI,tI,tI,tI,tI,tI,tI,tI,tI] [tI,ak,ab] ⟨144,.box 1 0::.any::.con tI::.box 2 0::.con aa::.con tI::.var tI::aN 24 [.con ag,.con tI,.con tI],[bp,bC,bq,.rowv ŕ,.rowv Ã]⟩ [(.exit 2,⟨144,.box 1 0::.any::.con tI::.box 2 0::.con aa::.con tI::aN 25 [.con ag,.con tI,.con tI],[bp,bC,bq,.rowv ŕ,.rowv Ã]⟩,[ak,ab])]
def DL (ρ:Type):Þ ρ:=⟨[2,1],200,2,DM,fun(p:Val (tyL DM.cs)) (v:Val (.pair tI Ck)) a b=>let A:=p.2.2.2.2.2.2.2.2.2.2.2.2.2;let B:=A.2.2.2.2;let C:=B.2.2.2.2.2;let D:=C.2.2.2.2;vq p.1 p.2.1 p.2.2.1 A.1 A.2.1 A.2.2.1 A.2.2.2.1 B.1 B.2.1 B.2.2.1 C.1 C.2.1 C.2.2.1 C.2.2.2.1 D.1 D.2.1 D.2.2.1 D.2.2.2 v.1 v.2.1 v.2.2 (fun c d e=>a (c,d,e)) (b 0)⟩
def DP:Ç:=Ls 2 [ag,tI,tI,tI,ag,ab,ah,ae,ab,tI,tI,ag,ab,ah,ae,ab,ab,tI] [tI,ak,ab] ⟨144,.box 1 0::aN 30 [.con ag,.con tI,.var tI],bZ⟩ [(.exit 0,⟨144,.box 1 0::aN 30 [.con ag,.con tI],bZ⟩,[ak,ab])]
def DN (ρ:Type):Þ ρ:=⟨[2,1],200,0,DP,fun(p:Val (tyL DP.cs)) (v:Val (.pair tI Ck)) a b=>let A:=p.2.2.2.2.2.2.2.2.2;let B:=A.2.2.2.2;vr p.1 p.2.1 A.1 A.2.1 A.2.2.1 A.2.2.2.1 B.1 B.2.1 B.2.2.1 B.2.2.2.1 B.2.2.2.2 v.1 v.2.1 v.2.2 (fun c d e=>a (c,d,e)) (b 0)⟩
def DK:Ç:=Ls 2 [ae,tI,tI,tI,ag,ab,ah,ae,ab,tI,tI,ag,ab,ah,ae,ab,ab,tI] [tI,ak,ab] ⟨144,.box 1 0::aN 107 [.con ae,.con tI,.var tI],bZ⟩ [(.exit 4,⟨144,.box 1 0::aN 107 [.con ae,.con tI],bZ⟩,[ak,ab])]
def DJ (ρ:Type):Þ ρ:=⟨[2,1],200,4,DK,fun(p:Val (tyL DK.cs)) (v:Val (.pair tI Ck)) a b=>let A:=p.2.2.2.2.2.2.2.2.2;let B:=A.2.2.2.2;vp p.1 p.2.1 A.1 A.2.1 A.2.2.1 A.2.2.2.1 B.1 B.2.1 B.2.2.1 B.2.2.2.1 B.2.2.2.2 v.1 v.2.1 v.2.2 (fun c d e=>a (c,d,e)) (b 0)⟩
def XD:List (Nat×à):=[(136,CD),(147,GW),(148,CE),(201,P6),(247,Zd),(248,Zc)]
def UM (ρ:Type):List (Þ ρ):=[DL ρ,DN ρ,DJ ρ]
def tR (ρ:Type):Env ρ:=å XD (UM ρ)
def oZ:à:=⟨[Ê],[Ì,ab,tI],fun(x:Val Ê)=>g9 x⟩
def RB:List (Nat×à):=[(72,pp),(132,P5)]
def N1 (ρ:Type):List (Þ ρ):=[]
def Hf (ρ:Type):Env ρ:=å RB (N1 ρ)
def Jq:à:=⟨[Â,aj,tI,tI],[tI],fun(x:Val bc)=>su x.1 x.2.1 x.2.2.1 x.2.2.2⟩
def T2:Ç:=Ls 0 [aj,tI,tI,tI,ag,ab,ah,ae,ab,ai] [tI,tI] ⟨47,.any::.con aj::.var tI::.con tI::.box 0 0::aN 4 [.var tI],[bv]⟩ [(.exit 0,⟨47,[.any,.con aj,.var tI,.con tI,.box 0 0],[bv]⟩,[tI])]
def G0 (ρ:Type):Þ ρ:=⟨[],105,0,T2,fun(p:Val (.pair aj aB)) (v:Val Ã) a b=>yM p.1 p.2.1 p.2.2.2.2.2.2.2.2.2 v.1 v.2 (fun c d=>a (c,d)) (b 0)⟩
def aaR:List (Nat×à):=[(173,mb)]
def WX (ρ:Type):List (Þ ρ):=[G0 ρ]
def JN (ρ:Type):Env ρ:=å aaR (WX ρ)
def wW:à:=⟨[aa,tI,ar,aG],[aa],fun(x:Val (.pair aa (.pair tI (.pair ar aG))))=>i6 x.1 x.2.1 x.2.2.1 x.2.2.2⟩
def ol:Ç:=Ls 0 [tI,ar,aG,aa,tI] [tI,aa] ⟨28,[.any,.con tI,.con ar,.con aG,.any,.any,.any,.own 0,.any,.any,.con aa,.con tI,.var tI],bW⟩ [(.exit 0,⟨28,[.any,.con tI,.con ar,.con aG,.any,.any,.any,.own 0,.any,.any,.con aa,.con tI],bW⟩,[aa])]
def oj (ρ:Type):Þ ρ:=⟨[],183,0,ol,fun(p:Val (tyL ol.cs)) (v:Val œ) a b=>iM p.1 p.2.1 p.2.2.1 p.2.2.2.1 p.2.2.2.2 v.1 v.2 (fun c d=>a (c,d)) (b 0)⟩
def CM:List (Nat×à):=[(105,Jq)]
def Br (ρ:Type):List (Þ ρ):=[oj ρ]
def me (ρ:Type):Env ρ:=å CM (Br ρ)
def ik:à:=⟨[Â,aj],[Ê],fun(x:Val aI)=>Ū x.1 x.2⟩
def qN:Ç:=Ls 0 [ar,aG,ar,aG,ab,tI,tI,tI,tI,tI,ag,ab,ah,ae,ab,tI,tI,ag] [tI,ab] ⟨123,aN 2 (.con ar::.con aG::.box 0 0::.box 1 0::.box 2 0::.fnd 183 [Â,aj]::aN 18 [.con ab,.con tI,.var tI]),[bE,bp,bG,.rowc Õ,.rowv Ã]⟩ [(.exit 0,⟨123,aN 2 (.con ar::.con aG::.box 0 0::.box 1 0::.box 2 0::.fnd 183 [Â,aj]::aN 18 [.con ab,.con tI]),[bE,bp,bG,.rowc Õ,.rowv Ã]⟩,[ab])]
def qM (ρ:Type):Þ ρ:=⟨[],104,0,qN,fun(p:Val (tyL qN.cs)) (v:Val ba) a b=>jT p.1 p.2.1 p.2.2.2.2.1 p.2.2.2.2.2.1 v.1 v.2 (fun c d=>a (c,d)) (b 0)⟩
def qL:Ç:=Ls 0 [ar,aG,ar,aG,ah,tI,tI,tI,tI,tI,ag,ab,ah,ae,ab,tI,tI,ag,ab] [tI,ah] ⟨123,aN 2 (.con ar::.con aG::.box 0 0::.box 1 0::.box 2 0::.fnd 183 [Â,aj]::aN 41 [.con ah,.con tI,.var tI]),b7⟩ [(.exit 2,⟨123,aN 2 (.con ar::.con aG::.box 0 0::.box 1 0::.box 2 0::.fnd 183 [Â,aj]::aN 41 [.con ah,.con tI]),b7⟩,[ah])]
def qK (ρ:Type):Þ ρ:=⟨[],104,2,qL,fun(p:Val (tyL qL.cs)) (v:Val (.pair tI ah)) a b=>jS p.1 p.2.1 p.2.2.2.2.1 p.2.2.2.2.2.1 v.1 v.2 (fun c d=>a (c,d)) (b 0)⟩
def qJ:Ç:=Ls 0 [ar,aG,ar,aG,ae,tI,tI,tI,tI,tI,ag,ab,ah,ae,ab,tI,tI,ag,ab,ah] [tI,ae] ⟨123,aN 2 (.con ar::.con aG::.box 0 0::.box 1 0::.box 2 0::.fnd 183 [Â,aj]::aN 64 [.con ae,.con tI,.var tI]),b8⟩ [(.exit 4,⟨123,aN 2 (.con ar::.con aG::.box 0 0::.box 1 0::.box 2 0::.fnd 183 [Â,aj]::aN 64 [.con ae,.con tI]),b8⟩,[ae])]
def qI (ρ:Type):Þ ρ:=⟨[],104,4,qJ,fun(p:Val (tyL qJ.cs)) (v:Val aT) a b=>jR p.2.2.1 p.2.2.2.1 p.2.2.2.2.1 p.2.2.2.2.2.1 v.1 v.2 (fun c d=>a (c,d)) (b 0)⟩
def qH:Ç:=Ls 0 [ar,aG,ab,tI,tI,tI,tI,tI,ag,ab,ah,ae] [tI,ab] ⟨123,aN 2 (.con ar::.con aG::.box 0 0::.any::.box 1 0::aN 93 [.con ab,.con tI,.var tI]),b9⟩ [(.exit 6,⟨123,aN 2 (.con ar::.con aG::.box 0 0::.any::.box 1 0::aN 93 [.con ab,.con tI]),b9⟩,[ab])]
def qG (ρ:Type):Þ ρ:=⟨[],104,6,qH,fun(p:Val (tyL qH.cs)) (v:Val ba) a b=>jQ p.1 p.2.1 p.2.2.1 p.2.2.2.1 v.1 v.2 (fun c d=>a (c,d)) (b 0)⟩
def HK:List (Nat×à):=[(105,Jq),(183,wW)]
def sP (ρ:Type):List (Þ ρ):=[qM ρ,qK ρ,qI ρ,qG ρ]
def ų (ρ:Type):Env ρ:={å HK (sP ρ) with hint:=RU [(78,183),(84,183)]}
def P3:à:=⟨[Ì,tI],[.bool],fun(x:Val (.pair Ì tI))=>zh x.1 x.2⟩
def Xi:List (Nat×à):=[]
def Um (ρ:Type):List (Þ ρ):=[]
def OY (ρ:Type):Env ρ:=å Xi (Um ρ)
def sI:à:=⟨[Ì],[tI,tI],fun(x:Val Ì)=>nS x⟩
def NC:Ç:=Ls 0 [ak,tI,tI,ak] [tI] ⟨57,.any::.box 0 0::aN 17 [.con ak,.con tI,.var tI],[bK]⟩ [(.ret,⟨57,.any::.box 0 0::.var tI::.var tI::aN 15 [.con ak,.con tI],[bK]⟩,[tI,tI]),(.exit 0,⟨57,.any::.box 0 0::aN 17 [.con ak,.con tI],[bK]⟩,[])]
def AK (ρ:Type):Þ ρ:=⟨[],126,0,NC,fun(p:Val (.pair ak aL)) (v:Val tI) b a=>rj p.1 p.2.1 p.2.2.1 p.2.2.2 v (fun c=>b c) (a 0) (a 1)⟩
def Uu:List (Nat×à):=[(196,P3)]
def QZ (ρ:Type):List (Þ ρ):=[AK ρ]
def BH (ρ:Type):Env ρ:=å Uu (QZ ρ)
def mV:à:=⟨[Ì,ao],[aa,.bool],fun(x:Val (.pair Ì ao))=>i7 x.1 x.2⟩
def tP:Ç:=Ls 2 [ao,ak,tI,tI,ak,aa,tI,ak,aq,aa] [tI,tI] ⟨140,.any::.con ao::.own 1::.box 2 0::aN 3 (.box 3 0::.own 4::.own 5::.var tI::aN 14 [.con ak,.con tI,.var tI]),[bK,.rowc tI,bK,.cells [.nils],.rowc .bool,.rowc tI]⟩ [(.exit 0,⟨140,.any::.con ao::.own 1::.box 2 0::aN 3 (.box 3 0::.own 4::.own 5::.var tI::aN 14 [.con ak,.con tI]),[bK,.rowc tI,bK,.cells [.nils],.rowc .bool,.rowc tI]⟩,[tI])]
def tO (ρ:Type):Þ ρ:=⟨[2,3],197,0,tP,fun(p:Val (tyL tP.cs)) (v:Val Ã) a b=>gX p.2.1 p.2.2.1 v.1 v.2 (fun c d=>a (c,d)) (b 0)⟩
def tN:Ç:=Ls 2 [ao,tI,tI,tI,ak,aa,tI,ak,aa] [tI,aq,aa] ⟨140,.any::.con ao::.own 1::.box 2 0::aN 3 (.box 3 0::.own 4::.own 5::.con tI::aN 27 [.con tI,.var tI]),ca⟩ [(.exit 2,⟨140,.any::.con ao::.own 1::.box 2 0::aN 3 (.box 3 0::.own 4::.own 5::.con tI::aN 27 [.con tI]),ca⟩,[aq,aa])]
def tM (ρ:Type):Þ ρ:=⟨[2,3],197,2,tN,fun(p:Val (tyL tN.cs)) (v:Val (.pair tI aM)) a b=>Ř p.2.2.1 p.2.2.2.2.2.1 v.1 v.2.1 v.2.2 (fun c d e=>a (c,d,e)) (b 0)⟩
def tJ:Ç:=Ls 2 [ao,tI,tI,ak,tI,tI,ak,tI,ak,aa] [tI,aa,aq,aa] ⟨140,.any::.con ao::.own 1::.box 2 0::aN 3 (.box 3 0::.own 4::.own 5::.con tI::aN 3 (.con tI::aN 62 [.con ak,.con tI,.var tI])),cd⟩ [(.ret,⟨140,.any::.con ao::.own 1::.box 2 0::aN 2 (.var .bool::.box 3 0::.own 4::.own 5::.con tI::aN 3 (.con tI::aN 62 [.con ak,.con tI])),cd⟩,[.bool,aa,aq,aa]),(.exit 6,⟨140,.any::.con ao::.own 1::.box 2 0::aN 3 (.box 3 0::.own 4::.own 5::.con tI::aN 3 (.con tI::aN 62 [.con ak,.con tI])),cd⟩,[aa,aq,aa])]
def tG (ρ:Type):Þ ρ:=⟨[2,3],197,6,tJ,fun(p:Val (tyL tJ.cs)) (v:Val (.pair tI (.pair aa aM))) b a=>iX p.1 p.2.1 p.2.2.1 p.2.2.2.1 p.2.2.2.2.1 v.1 v.2.1 v.2.2.1 v.2.2.2 (fun c d e f=>b (c,d,e,f)) (a 0) (a 1)⟩
def FK:Ç:=Ls 2 [ao,tI,tI,ak,tI,ak] [aa,aq,aa,aa] ⟨140,[.any,.con ao,.own 1,.box 2 0,.any,.any,.any,.box 3 0,.own 4,.own 5,.con tI],ce⟩ [(.ret,⟨140,[.any,.con ao,.own 1,.box 2 0,.any,.any,.var .bool,.box 3 0,.own 4,.own 5,.con tI],ce⟩,[.bool,aa,aq,aa,aa])]
def tK (ρ:Type):Þ ρ:=⟨[2,3],197,4,FK,fun(p:Val (.pair ao bn)) (v:Val aO) a b=>Ħ p.1 p.2.1 p.2.2.2.2.1 p.2.2.2.2.2 v.1 v.2.1 v.2.2.1 v.2.2.2 (fun c d e f=>a (c,d,e,f)) (b 0)⟩
def FJ:Ç:=Ls 0 [tI,tI] [tI,aa] ⟨34,aN 6 (.own 0::.con tI::aN 13 [.con tI,.var tI]),bW⟩ [(.exit 0,⟨34,aN 6 (.own 0::.con tI::aN 13 [.con tI]),bW⟩,[aa])]
def tF (ρ:Type):Þ ρ:=⟨[],127,0,FJ,fun(p:Val Ã) (v:Val œ) a b=>iW p.1 p.2 v.1 v.2 (fun c d=>a (c,d)) (b 0)⟩
def Kq:List (Nat×à):=[]
def H8 (ρ:Type):List (Þ ρ):=[tO ρ,tM ρ,tG ρ,tK ρ,tF ρ]
def Ω (ρ:Type):Env ρ:=å Kq (H8 ρ)
def zZ:à:=⟨[Ì],[.bool,tI],fun(x:Val Ì)=>mP x⟩
def FO:List (Nat×à):=[(126,sI),(127,mV)]
def Dv (ρ:Type):List (Þ ρ):=[]
def wj (ρ:Type):Env ρ:=å FO (Dv ρ)
def qu:à:=⟨[Â,aj],[.bool],fun(x:Val aI)=>Ρ x.1 x.2⟩
def Ka:List (Nat×à):=[(66,oZ),(104,ik),(155,zZ)]
def HO (ρ:Type):List (Þ ρ):=[]
def Ar (ρ:Type):Env ρ:=å Ka (HO ρ)
def OE:à:=⟨[Â,aj],[tI],fun(x:Val aI)=>ĭ x.1 x.2⟩
def xi:Ç:=Ls 0 [tI,aj,tI,tI,aa,tI,tI,tI,ag,ab,ah,ae,ab,ai] [tI,tI] ⟨40,aN 2 (.box 0 0::aN 2 (.var tI::.con tI::aN 3 (.con aj::.con tI::.con tI::aN 4 [.con aa,.con tI,.var tI]))),[bv]⟩ [(.exit 2,⟨40,aN 2 (.box 0 0::aN 2 (.var tI::.con tI::aN 3 (.con aj::.con tI::.con tI::aN 4 [.con aa,.con tI]))),[bv]⟩,[tI])]
def xh (ρ:Type):Þ ρ:=⟨[],116,2,xi,fun(p:Val (tyL xi.cs)) (v:Val Ã) a b=>let A:=p.2.2.2.2;oy p.1 A.1 A.2.1 A.2.2.2.2.2.2.2.2.2 v.1 v.2 (fun c d=>a (c,d)) (b 0)⟩
def JO:Ç:=Ls 0 [aj,tI,tI,tI,ag,ab,ah,ae,ab,ai] [tI,tI] ⟨40,aN 2 (.box 0 0::aN 2 (.var tI::aN 4 [.con aj,.con tI,.var tI])),[bv]⟩ [(.exit 0,⟨40,aN 2 (.box 0 0::aN 2 (.var tI::aN 4 [.con aj,.con tI])),[bv]⟩,[tI])]
def xj (ρ:Type):Þ ρ:=⟨[],116,0,JO,fun(p:Val (.pair aj aB)) (v:Val Ã) a b=>oz p.1 p.2.1 p.2.2.2.2.2.2.2.2.2 v.1 v.2 (fun c d=>a (c,d)) (b 0)⟩
def Ql:List (Nat×à):=[]
def MS (ρ:Type):List (Þ ρ):=[xh ρ,xj ρ]
def qF (ρ:Type):Env ρ:=å Ql (MS ρ)
def wX:à:=⟨[tI],[.bool],fun(x:Val tI)=>lq x⟩
def DD:List (Nat×à):=[]
def BL (ρ:Type):List (Þ ρ):=[]
def tQ (ρ:Type):Env ρ:=å DD (BL ρ)
def mc:à:=⟨[tI,tI],[tI],fun(x:Val Ã)=>g8 x.1 x.2⟩
def zK:List (Nat×à):=[(234,wX)]
def xV (ρ:Type):List (Þ ρ):=[]
def pO (ρ:Type):Env ρ:=å zK (xV ρ)
def Fe:à:=⟨[aj,aj,ar],[tI],fun(x:Val (.pair aj (.pair aj ar)))=>ji x.1 x.2.1 x.2.2⟩
def Qm:List (Nat×à):=[(116,OE),(180,mc)]
def MY (ρ:Type):List (Þ ρ):=[]
def G4 (ρ:Type):Env ρ:=å Qm (MY ρ)
def Ā:abM:=⟨aj,[tI,tI],179,Â,fun(xs:Val af) (x:Val Ã) (m:Val Â)=>ä xs x.1 x.2 m⟩
def kQ:Ç:=Ls 2 [tI,tI,tI,tI,tI,ag,ab,ah,ae,ab,ai] [tI,af] ⟨53,.own 0::.con tI::.con tI::.fn 179 [(1,0)]::aN 4 [.con tI,.var tI],cf⟩ [(.exit 2,⟨53,.own 0::.con tI::.con tI::.fn 179 [(1,0)]::aN 4 [.con tI],cf⟩,[af])]
def Ν (ρ:Type):Þ ρ:=⟨[],273,2,kQ,fun(p:Val bi) (v:Val az) a b=>let A:=p.2.2.2.2;let B:=A.2.2.2.2;æ p.1 p.2.2.2.1 A.1 A.2.1 A.2.2.1 A.2.2.2.1 B.1 B.2.1 B.2.2 v.1 v.2 (fun c d=>a (c,d)) (b 0)⟩
def kR:Ç:=Ls 2 [tI,tI,tI,tI,ag,ab,ah,ae,ab,ai] [tI,af] ⟨53,.own 0::.con tI::.con tI::.fn 179 [(1,0)]::aN 4 [.var tI],cf⟩ [(.exit 0,⟨53,[.own 0,.con tI,.con tI,.fn 179 [(1,0)]],cf⟩,[af])]
def Ξ (ρ:Type):Þ ρ:=⟨[],273,0,kR,fun(p:Val (.pair tI aB)) (v:Val az) a b=>let A:=p.2.2.2.2;ĉ p.1 p.2.1 p.2.2.1 p.2.2.2.1 A.1 A.2.1 A.2.2.1 A.2.2.2.1 A.2.2.2.2.1 A.2.2.2.2.2 v.1 v.2 (fun c d=>a (c,d)) (b 0)⟩
def ml:List (Nat×à):=[(179,Fe)]
def ζ (ρ:Type):List (Þ ρ):=[Ν ρ,Ξ ρ]
def ò (ρ:Type):Env ρ:={å ml (ζ ρ) with hint:=RU [(22,179)]}
def ī:abM:=⟨aj,[tI,tI,tI],179,Â,fun(xs:Val af) (x:Val ŕ) (m:Val Â)=>į xs x.1 x.2.1 x.2.2 m⟩
def qm:Ç:=Ls 2 [tI,tI,tI,tI,tI,ag,ab,ah,ae,ab,ai] [tI,af] ⟨38,.own 0::.con tI::.con tI::.con tI::aN 6 [.var tI],cf⟩ [(.exit 0,⟨38,[.own 0,.con tI,.con tI,.con tI],cf⟩,[af])]
def ju (ρ:Type):Þ ρ:=⟨[4,7],317,0,qm,fun(p:Val bi) (v:Val az) a b=>Ĉ p.1 p.2.1 p.2.2.1 v.1 v.2 (fun c d=>a (c,d)) (b 0)⟩
def ql:Ç:=Ls 2 [tI,tI,tI,tI,tI,ag,ab,ah,ae,ab,ai] [tI,af] ⟨38,.own 0::.con tI::.con tI::.con tI::aN 6 [.var tI],cf⟩ [(.exit 0,⟨38,[.own 0,.con tI,.con tI,.con tI],cf⟩,[af])]
def jt (ρ:Type):Þ ρ:=⟨[6,11],317,0,ql,fun(p:Val bi) (v:Val az) a b=>gW p.1 p.2.1 p.2.2.1 v.1 v.2 (fun c d=>a (c,d)) (b 0)⟩
def qn:Ç:=Ls 2 [tI,tI,tI,ag,ab,ah,ae,ab,ai] [tI,tI,af] ⟨58,.own 0::.any::.con tI::.any::.fn 179 [(1,0)]::aN 5 [.var tI,.var tI],cf⟩ [(.exit 0,⟨58,.own 0::.any::.con tI::.any::.fn 179 [(1,0)]::aN 5 [.var tI],cf⟩,[tI,af])]
def jv (ρ:Type):Þ ρ:=⟨[],300,0,qn,fun(p:Val aB) (v:Val (.pair tI az)) a b=>Ĭ p.1 v.1 v.2.1 v.2.2 (fun c d e=>a (c,d,e)) (b 0)⟩
def qk:Ç:=Ls 2 [tI,tI,tI,tI,tI,ag,ab,ah,ae,ab,ai] [tI,af] ⟨38,.own 0::.con tI::.con tI::.con tI::aN 6 [.var tI],cf⟩ [(.exit 0,⟨38,[.own 0,.con tI,.con tI,.con tI],cf⟩,[af])]
def jr (ρ:Type):Þ ρ:=⟨[8,7],317,0,qk,fun(p:Val bi) (v:Val az) a b=>gT p.1 p.2.1 p.2.2.1 v.1 v.2 (fun c d=>a (c,d)) (b 0)⟩
def tr:List (Nat×à):=[]
def jE (ρ:Type):List (Þ ρ):=[ju ρ,jt ρ,jv ρ,jr ρ]
def û (ρ:Type):Env ρ:=å tr (jE ρ)
def kG:abM:=⟨aj,[tI,tI,tI],179,Â,fun(xs:Val af) (x:Val ŕ) (m:Val Â)=>Đ xs x.1 x.2.1 x.2.2 m⟩
def ą:Ç:=Ls 2 [tI,af,tI,tI,ag,ab,ah,ae,ab,ai] [tI,tI] ⟨220,.own 0::.con tI::aN 2 (.fn 179 [(1,0)]::aN 5 [.var tI,.var tI]),cg⟩ [(.exit 0,⟨220,.own 0::.con tI::aN 2 (.fn 179 [(1,0)]::aN 5 [.var tI]),cg⟩,[tI])]
def ŧ (rec:Val af→Int→Int→Int→Val Â→Option ((Val af)×(Val Â))) (ρ:Type):Þ ρ:=⟨[],274,0,ą,fun(p:Val au) (v:Val Ã) a b=>ô rec p.1 p.2.1 p.2.2.1 p.2.2.2.1 p.2.2.2.2.1 p.2.2.2.2.2.1 p.2.2.2.2.2.2.1 p.2.2.2.2.2.2.2.1 p.2.2.2.2.2.2.2.2.1 p.2.2.2.2.2.2.2.2.2 v.1 v.2 (fun c d=>a (c,d)) (b 0)⟩
def Ą:Ç:=Ls 2 [tI,tI,tI,ag,ab,ah,ae,ab,ai] [tI,af] ⟨220,.own 0::aN 9 [.con tI,.any,.any,.var tI],cf⟩ [(.exit 2,⟨220,.own 0::aN 9 [.con tI],cf⟩,[af])]
def Ŧ (rec:Val af→Int→Int→Int→Val Â→Option ((Val af)×(Val Â))) (ρ:Type):Þ ρ:=⟨[],274,2,Ą,fun(p:Val aB) (v:Val az) a b=>ë rec p.1 v.1 v.2 (fun c d=>a (c,d)) (b 0)⟩
def ă:Ç:=Ls 2 [tI,af,tI,tI,ag,ab,ah,ae,ab,ai] [tI,tI] ⟨220,.own 0::.any::.con tI::.any::.fn 179 [(1,0)]::aN 9 [.var tI,.var tI],cg⟩ [(.exit 4,⟨220,.own 0::.any::.con tI::.any::.fn 179 [(1,0)]::aN 9 [.var tI],cg⟩,[tI])]
def ť (rec:Val af→Int→Int→Int→Val Â→Option ((Val af)×(Val Â))) (ρ:Type):Þ ρ:=⟨[],274,4,ă,fun(p:Val au) (v:Val Ã) a b=>ó rec p.1 p.2.1 p.2.2.1 p.2.2.2.1 p.2.2.2.2.1 p.2.2.2.2.2.1 p.2.2.2.2.2.2.1 p.2.2.2.2.2.2.2.1 p.2.2.2.2.2.2.2.2.1 p.2.2.2.2.2.2.2.2.2 v.1 v.2 (fun c d=>a (c,d)) (b 0)⟩
def Ă:Ç:=Ls 2 [tI,tI,tI,ag,ab,ah,ae,ab,ai] [tI,af] ⟨220,.own 0::aN 13 [.con tI,.any,.any,.var tI],cf⟩ [(.exit 6,⟨220,.own 0::aN 13 [.con tI],cf⟩,[af])]
def Ť (rec:Val af→Int→Int→Int→Val Â→Option ((Val af)×(Val Â))) (ρ:Type):Þ ρ:=⟨[],274,6,Ă,fun(p:Val aB) (v:Val az) a b=>ê rec p.1 v.1 v.2 (fun c d=>a (c,d)) (b 0)⟩
def ā:Ç:=Ls 2 [tI,tI,tI,tI,tI,tI,af,tI,tI,ag,ab,ah,ae,ab,ai] [tI,tI] ⟨220,.own 0::.con tI::.con tI::.con tI::.fn 179 [(1,0)]::aN 13 [.con tI,.con tI,.var tI,.var tI,.con tI],cg⟩ [(.exit 8,⟨220,.own 0::.con tI::.con tI::.con tI::.fn 179 [(1,0)]::aN 13 [.con tI,.con tI,.var tI,.any,.con tI],cg⟩,[tI])]
def ţ (rec:Val af→Int→Int→Int→Val Â→Option ((Val af)×(Val Â))) (ρ:Type):Þ ρ:=⟨[],274,8,ā,fun(p:Val aP) (v:Val Ã) a b=>Ü rec p.2.2.2.2.2.1 p.2.2.2.2.2.2.1 p.2.2.2.2.2.2.2.1 p.2.2.2.2.2.2.2.2.1 p.2.2.2.2.2.2.2.2.2.1 p.2.2.2.2.2.2.2.2.2.2.1 p.2.2.2.2.2.2.2.2.2.2.2.1 p.2.2.2.2.2.2.2.2.2.2.2.2.1 p.2.2.2.2.2.2.2.2.2.2.2.2.2.1 p.2.2.2.2.2.2.2.2.2.2.2.2.2.2 v.1 v.2 (fun c d=>a (c,d)) (b 0)⟩
def qf (rec:Val af→Int→Int→Int→Val Â→Option ((Val af)×(Val Â))):List (Nat×à):=[(179,Fe)]
def qe (rec:Val af→Int→Int→Int→Val Â→Option ((Val af)×(Val Â))):List (Nat×aaf):=[(274,.row ⟨aj,[tI,tI,tI],179,Â,fun(xs:Val af) (x:Val ŕ) (m:Val Â)=>rec xs x.1 x.2.1 x.2.2 m⟩),(300,.row ī)]
def iT (rec:Val af→Int→Int→Int→Val Â→Option ((Val af)×(Val Â))) (ρ:Type):List (Þ ρ):=[ŧ rec ρ,Ŧ rec ρ,ť rec ρ,Ť rec ρ,ţ rec ρ]
def Æ (rec:Val af→Int→Int→Int→Val Â→Option ((Val af)×(Val Â))) (ρ:Type):Env ρ:={Zl (qf rec) (iT rec ρ) (qe rec) with hint:=RU [(40,179),(92,179),(158,179)]}
def ĝ:abM:=⟨aj,[tI],179,Â,fun(xs:Val af) (x:Val tI) (m:Val Â)=>Į xs x m⟩
def qj:Ç:=Ls 2 [tI,tI] [tI,tI,af,tI,tI,ag,ab,ah,ae,ab,ai] ⟨63,[.own 0,.con tI,.fn 179 [(1,0)],.any,.any,.any,.con tI,.var tI,.var tI],ci⟩ [(.exit 0,⟨63,[.own 0,.con tI,.fn 179 [(1,0)],.any,.any,.any,.con tI,.var tI],ci⟩,[tI,af,tI,tI,ag,ab,ah,ae,ab,ai])]
def jq (ρ:Type):Þ ρ:=⟨[],233,0,qj,fun(p:Val Ã) (v:Val (.pair tI au)) a b=>gS p.1 p.2 v.1 v.2.1 v.2.2.1 v.2.2.2.1 v.2.2.2.2.1 v.2.2.2.2.2.1 v.2.2.2.2.2.2.1 v.2.2.2.2.2.2.2.1 v.2.2.2.2.2.2.2.2.1 v.2.2.2.2.2.2.2.2.2.1 v.2.2.2.2.2.2.2.2.2.2 (fun c d e f g h i j k l m=>a (c,d,e,f,g,h,i,j,k,l,m)) (b 0)⟩
def qg:Ç:=Ls 2 [tI,tI] [tI,tI,af,tI,tI,ag,ab,ah,ae,ab,ai] ⟨63,[.own 0,.con tI,.fn 179 [(1,0)],.any,.any,.any,.con tI,.var tI,.var tI],ci⟩ [(.exit 4,⟨63,[.own 0,.con tI,.fn 179 [(1,0)],.any,.any,.any,.con tI,.var tI],ci⟩,[tI,af,tI,tI,ag,ab,ah,ae,ab,ai])]
def jo (ρ:Type):Þ ρ:=⟨[],233,4,qg,fun(p:Val Ã) (v:Val (.pair tI au)) a b=>ω p.1 p.2 v.1 v.2.1 v.2.2.1 v.2.2.2.1 v.2.2.2.2.1 v.2.2.2.2.2.1 v.2.2.2.2.2.2.1 v.2.2.2.2.2.2.2.1 v.2.2.2.2.2.2.2.2.1 v.2.2.2.2.2.2.2.2.2.1 v.2.2.2.2.2.2.2.2.2.2 (fun c d e f g h i j k l m=>a (c,d,e,f,g,h,i,j,k,l,m)) (b 0)⟩
def qi:Ç:=Ls 2 [tI] [tI,af,tI,tI,ag,ab,ah,ae,ab,ai] ⟨63,[.own 0,.con tI,.fn 179 [(1,0)],.any,.any,.any,.var tI],ci⟩ [(.exit 2,⟨63,[.own 0,.con tI,.fn 179 [(1,0)]],ci⟩,[af,tI,tI,ag,ab,ah,ae,ab,ai])]
def jp (ρ:Type):Þ ρ:=⟨[],233,2,qi,fun(p:Val tI) (v:Val au) a b=>gR p v.1 v.2.1 v.2.2.1 v.2.2.2.1 v.2.2.2.2.1 v.2.2.2.2.2.1 v.2.2.2.2.2.2.1 v.2.2.2.2.2.2.2.1 v.2.2.2.2.2.2.2.2.1 v.2.2.2.2.2.2.2.2.2 (fun c d e f g h i j k l=>a (c,d,e,f,g,h,i,j,k,l)) (b 0)⟩
def tq:List (Nat×à):=[]
def tp:List (Nat×aaf):=[(273,.row Ā),(274,.row kG)]
def jD (ρ:Type):List (Þ ρ):=[jq ρ,jo ρ,jp ρ]
def ď (ρ:Type):Env ρ:=Zl tq (jD ρ) tp
def P2:à:=⟨[Â],[af],fun(x:Val Â)=>Es x⟩
def kM:Tpl:=⟨13,[.any,.any,.box 3 0],[.cells [.con tI,.con tI,.con ag,.con ab,.con ah,.con ae,.con ab,.con ai],.cells [.con tI,.con tI,.con ag,.con ab,.con ah,.con ae,.con ab,.con ai],.dead,.cells [.own 4],.rowv aj]⟩
def oB (ρ:Type):EU ρ:=⟨[1,1,1,3,1,1],230,0,4,[tI,tI,ag,ab,ah,ae,ab,ai,tI,tI,ag,ab,ah,ae,ab,ai],[af],kM,pT,fun(p:Val ax) (v:Val af) y a=>By v y (fun b=>a b)⟩
def C1:Ç:=Ls 5 [tI,tI,tI,ag,ab,ah,ae,ab,ai,tI,tI,ag,ab,ah,ae,ab,ai,ai,af] [tI] ⟨19,.own 4::.fn 158 [(0,0)]::aN 5 [.con tI,.var tI],[bv,bv,bN,bO,.rowc aj]⟩ [(.ret,⟨19,[.own 4,.fn 158 [(0,0)],.any,.any,.var tI,.any,.any,.con tI],[bv,bv,bN,bO,.rowc aj]⟩,[tI]),(.exit 0,⟨19,.own 4::.fn 158 [(0,0)]::aN 5 [.con tI],[bv,bv,bN,bO,.rowc aj]⟩,[])]
def C0 (ρ:Type):Þ ρ:=⟨[1,3,1,2],186,0,C1,fun(p:Val (tyL C1.cs)) (v:Val tI) b a=>let A:=p.2.2.2.2;uL p.1 p.2.1 p.2.2.1 p.2.2.2.1 A.1 A.2.1 A.2.2.1 A.2.2.2.1 A.2.2.2.2.1 A.2.2.2.2.2.2.2.2.2.2.2.2.2.2 v (fun c=>b c) (a 0) (a 1)⟩
def CZ:Ç:=Ls 5 [tI,tI,ag,ab,ah,ae,ab,ai,tI,tI,ag,ab,ah,ae,ab,ai,ai] [tI,tI,af] ⟨42,[.own 4,.fn 158 [(0,0)],.any,.any,.any,.var tI,.var tI],[bv,bv,bN,bO,.rowv aj]⟩ [(.exit 0,⟨42,[.own 4,.fn 158 [(0,0)],.any,.any,.any,.var tI],[bv,bv,bN,bO,.rowv aj]⟩,[tI,af])]
def CY (ρ:Type):Þ ρ:=⟨[1,3],157,0,CZ,fun(p:Val (tyL CZ.cs)) (v:Val (.pair tI az)) a b=>let A:=p.2.2.2.2;mh p.1 p.2.1 p.2.2.1 p.2.2.2.1 A.1 A.2.1 A.2.2.1 A.2.2.2.1 v.1 v.2.1 v.2.2 (fun c d e=>a (c,d,e)) (b 0)⟩
def J7 (ρ:Type):List (EU ρ):=[oB ρ]
def W8:List (Nat×à):=[(79,qu)]
def W7:List (Nat×aaf):=[(233,.row ĝ)]
def G7 (ρ:Type):List (Þ ρ):=[C0 ρ,CY ρ]
def χ (ρ:Type):Env ρ:={Zl W8 (G7 ρ) W7 with ranges:=Λ (J7 ρ)}
def WN:à:=⟨[Â],[af,tI],fun(x:Val Â)=>Gj x⟩
def aaT:List (Nat×à):=[(80,iP),(81,P2)]
def Xe (ρ:Type):List (Þ ρ):=[]
def Uj (ρ:Type):Env ρ:=å aaT (Xe ρ)
def yK:à:=⟨[Â],[af],fun(x:Val Â)=>rL x⟩
def kL:Tpl:=⟨13,[.any,.any,.box 2 0],[.cells [.con tI,.con tI,.con ag,.con ab,.con ah,.con ae,.con ab,.con ai],.dead,.cells [.own 3],.rowv aj]⟩
def oA (ρ:Type):EU ρ:=⟨[1,3,1,1],230,0,3,[tI,tI,ag,ab,ah,ae,ab,ai],[af],kL,pT,fun(p:Val ac) (v:Val af) y a=>Bm v y (fun b=>a b)⟩
def JP (ρ:Type):List (EU ρ):=[oA ρ]
def W5:List (Nat×à):=[]
def W0:List (Nat×aaf):=[(233,.row ĝ)]
def G3 (ρ:Type):List (Þ ρ):=[]
def je (ρ:Type):Env ρ:={Zl W5 (G3 ρ) W0 with ranges:=Λ (JP ρ)}
def ow:à:=⟨[Â],[aj,.bool],fun(x:Val Â)=>ü x⟩
def C2:Ç:=Ls 1 [af,tI,tI,tI,ag,ab,ah,ae,ab,ai] [tI] ⟨21,.any::.fn 159 [(0,0)]::aN 7 [.con af,.con tI,.var tI],[bv]⟩ [(.ret,⟨21,[.any,.fn 159 [(0,0)],.any,.any,.var aj,.var .bool,.any,.any,.any,.con af,.con tI],[bv]⟩,[aj,.bool]),(.exit 0,⟨21,.any::.fn 159 [(0,0)]::aN 7 [.con af,.con tI],[bv]⟩,[])]
def qQ (ρ:Type):Þ ρ:=⟨[1,3],99,0,C2,fun(p:Val (.pair af aB)) (v:Val tI) b a=>let A:=p.2.2.2.2;jU p.1 p.2.1 p.2.2.1 p.2.2.2.1 A.1 A.2.1 A.2.2.1 A.2.2.2.1 A.2.2.2.2.1 A.2.2.2.2.2 v (fun c=>b c) (a 0) (a 1)⟩
def HQ:List (Nat×à):=[(79,qu),(96,yK)]
def Fv (ρ:Type):List (Þ ρ):=[qQ ρ]
def pw (ρ:Type):Env ρ:=å HQ (Fv ρ)
def TC:à:=⟨[Â],[aj,tI],fun(x:Val Â)=>Eu x⟩
def Uf:List (Nat×à):=[(80,iP),(82,ow)]
def QC (ρ:Type):List (Þ ρ):=[]
def Ki (ρ:Type):Env ρ:=å Uf (QC ρ)
def uC:à:=⟨[aa,aa],[.bool],fun(x:Val (.pair aa aa))=>jj x.1 x.2⟩
def Di:Ç:=Ls 0 [aa,aa] [tI] ⟨26,[.con aa,.con aa,.any,.any,.any,.var tI],[]⟩ [(.ret,⟨26,[.con aa,.con aa,.any,.any,.var .bool],[]⟩,[.bool]),(.exit 0,⟨26,[.con aa,.con aa],[]⟩,[])]
def qZ (ρ:Type):Þ ρ:=⟨[],35,0,Di,fun(p:Val (.pair aa aa)) (v:Val tI) b a=>jW p.1 p.2 v (fun c=>b c) (a 0) (a 1)⟩
def H7:List (Nat×à):=[]
def FG (ρ:Type):List (Þ ρ):=[qZ ρ]
def pM (ρ:Type):Env ρ:=å H7 (FG ρ)
def GV:à:=⟨[aj,aj],[.bool],fun(x:Val (.pair aj aj))=>rN x.1 x.2⟩
def FF:Ç:=Ls 0 [aj,aj] [tI] ⟨29,[.con aj,.con aj,.any,.any,.any,.var tI],[]⟩ [(.ret,⟨29,[.con aj,.con aj,.any,.any,.var .bool],[]⟩,[.bool]),(.exit 0,⟨29,[.con aj,.con aj],[]⟩,[])]
def tE (ρ:Type):Þ ρ:=⟨[],26,0,FF,fun(p:Val (.pair aj aj)) (v:Val tI) b a=>la p.1 p.2 v (fun c=>b c) (a 0) (a 1)⟩
def Ko:List (Nat×à):=[(35,uC)]
def H5 (ρ:Type):List (Þ ρ):=[tE ρ]
def sg (ρ:Type):Env ρ:=å Ko (H5 ρ)
def Cw:à:=⟨[Â,tI,tI],[tI],fun(x:Val aZ)=>tZ x.1 x.2.1 x.2.2⟩
def Ag:Ç:=Ls 2 [ag,tI,tI,tI,ag,ab,ah,ae,ab,ai,tI] [tI] ⟨19,.con ag::.fn 169 [(1,0)]::aN 5 [.con tI,.var tI],[bv,bt]⟩ [(.ret,⟨19,[.con ag,.fn 169 [(1,0)],.any,.any,.var tI,.any,.any,.con tI],[bv,bt]⟩,[tI]),(.exit 0,⟨19,.con ag::.fn 169 [(1,0)]::aN 5 [.con tI],[bv,bt]⟩,[])]
def Af (ρ:Type):Þ ρ:=⟨[3,4,1,2],229,0,Ag,fun(p:Val (tyL Ag.cs)) (v:Val tI) b a=>qO p.1 p.2.1 p.2.2.2.2.2.2.2.2.2.2 v (fun c=>b c) (a 0) (a 1)⟩
def T6:List (Nat×à):=[]
def Qq (ρ:Type):List (Þ ρ):=[Af ρ]
def Bx (ρ:Type):Env ρ:=å T6 (Qq ρ)
def OJ:à:=⟨[aa,aa],[aa,aa,tI],fun(x:Val (.pair aa aa))=>pf x.1 x.2⟩
def RG:List (Nat×à):=[(148,CE),(172,Fh)]
def N4 (ρ:Type):List (Þ ρ):=[]
def Hg (ρ:Type):Env ρ:=å RG (N4 ρ)
def Cy:à:=⟨[Â,tI],[.bool,tI],fun(x:Val (.pair Â tI))=>oK x.1 x.2⟩
def qV:Ç:=Ls 6 [tI,tI,tI,ag,ab,ah,ae,ab,ai,tI,tI,tI,ag,ab,ah,ae,ab,ai,tI,tI,ae] [tI] ⟨19,.own 5::.fn 171 [(3,0)]::aN 5 [.con tI,.var tI],cj⟩ [(.ret,⟨19,[.own 5,.fn 171 [(3,0)],.any,.any,.var tI,.any,.any,.con tI],cj⟩,[tI]),(.exit 0,⟨19,.own 5::.fn 171 [(3,0)]::aN 5 [.con tI],cj⟩,[])]
def qU (ρ:Type):Þ ρ:=⟨[7,2,1,5,1,2],175,0,qV,fun(p:Val (tyL qV.cs)) (v:Val tI) b a=>jV p.1 p.2.2.2.2.2.2.2.2.2.1 p.2.2.2.2.2.2.2.2.2.2.2.2.2.2.2.2.2.2.2.2 v (fun c=>b c) (a 0) (a 1)⟩
def qT:Ç:=Ls 6 [tI,tI,ag,ab,ah,ae,ab,ai,tI,tI,tI,ag,ab,ah,ae,ab,ai,tI,tI] [tI,tI,ae] ⟨42,[.own 5,.fn 171 [(3,0)],.any,.any,.any,.var tI,.var tI],[bv,bt,bv,bP,bQ,.rowv â]⟩ [(.exit 0,⟨42,[.own 5,.fn 171 [(3,0)],.any,.any,.any,.var tI],[bv,bt,bv,bP,bQ,.rowv â]⟩,[tI,ae])]
def qS (ρ:Type):Þ ρ:=⟨[7,2,1,5],151,0,qT,fun(p:Val (tyL qT.cs)) (v:Val (.pair tI aT)) a b=>Η p.2.2.2.2.2.2.2.2.1 v.1 v.2.1 v.2.2 (fun c d e=>a (c,d,e)) (b 0)⟩
def HT:List (Nat×à):=[(80,iP),(82,ow),(88,Cw),(91,OJ),(92,Ţ)]
def Fz (ρ:Type):List (Þ ρ):=[qU ρ,qS ρ]
def kO (ρ:Type):Env ρ:=å HT (Fz ρ)
def P1:à:=⟨[Â,aa],[Â],fun(x:Val (.pair Â aa))=>zd x.1 x.2⟩
def CW:Ç:=Ls 7 [tI,tI,tI,ag,ab,ah,ae,ab,ai,aa,tI,tI,tI,tI,ag,ab,ah,ae,ab,ai,tI,tI,ae] [tI] ⟨19,.own 6::.fn 171 [(4,0)]::aN 5 [.con tI,.var tI],cm⟩ [(.ret,⟨19,[.own 6,.fn 171 [(4,0)],.any,.any,.var tI,.any,.any,.con tI],cm⟩,[tI]),(.exit 0,⟨19,.own 6::.fn 171 [(4,0)]::aN 5 [.con tI],cm⟩,[])]
def CV (ρ:Type):Þ ρ:=⟨[1,2,1,5,1,2],175,0,CW,fun(p:Val (tyL CW.cs)) (v:Val tI) b a=>uK p.1 p.2.2.2.2.2.2.2.2.2.1 p.2.2.2.2.2.2.2.2.2.2.2.2.2.2.2.2.2.2.2.2.2.2 v (fun c=>b c) (a 0) (a 1)⟩
def CU:Ç:=Ls 7 [tI,tI,ag,ab,ah,ae,ab,ai,aa,tI,tI,tI,tI,ag,ab,ah,ae,ab,ai,tI,tI] [tI,tI,ae] ⟨42,[.own 6,.fn 171 [(4,0)],.any,.any,.any,.var tI,.var tI],[bv,bo,bQ,bv,bR,bQ,.rowv â]⟩ [(.exit 0,⟨42,[.own 6,.fn 171 [(4,0)],.any,.any,.any,.var tI],[bv,bo,bQ,bv,bR,bQ,.rowv â]⟩,[tI,ae])]
def CT (ρ:Type):Þ ρ:=⟨[1,2,1,5],151,0,CU,fun(p:Val (tyL CU.cs)) (v:Val (.pair tI aT)) a b=>mg p.2.2.2.2.2.2.2.2.1 v.1 v.2.1 v.2.2 (fun c d e=>a (c,d,e)) (b 0)⟩
def W6:List (Nat×à):=[(92,Ţ)]
def T4 (ρ:Type):List (Þ ρ):=[CV ρ,CT ρ]
def yN (ρ:Type):Env ρ:=å W6 (T4 ρ)
def Y8:à:=⟨[Â],[aa,tI],fun(x:Val Â)=>IV x⟩
def QG:Ç:=Ls 0 [ae,tI,tI,tI,ag,ab,ah,ae,ab,ai] [tI,aa] ⟨66,.any::.box 0 0::aN 5 (.own 1::aN 19 [.con ae,.con tI,.var tI]),[bv,.rowv tI]⟩ [(.exit 0,⟨66,.any::.box 0 0::aN 5 (.own 1::aN 19 [.con ae,.con tI]),[bv,.rowv tI]⟩,[aa])]
def De (ρ:Type):Þ ρ:=⟨[],29,0,QG,fun(p:Val (.pair ae aB)) (v:Val œ) a b=>uP p.1 p.2.1 v.1 v.2 (fun c d=>a (c,d)) (b 0)⟩
def QF:Ç:=Ls 0 [tI,tI,ag,ab,ah,ae,ab,ai] [aa,tI] ⟨66,.any::.box 0 0::aN 5 [.var aa,.any,.any,.var tI],[bv]⟩ [(.exit 2,⟨66,.any::.box 0 0::aN 5 [.var aa],[bv]⟩,[aa])]
def Dc (ρ:Type):Þ ρ:=⟨[],29,2,QF,fun(p:Val ac) (v:Val aw) a b=>let A:=p.2.2.2.2;pz p.1 p.2.1 p.2.2.1 p.2.2.2.1 A.1 A.2.1 A.2.2.1 A.2.2.2 v.1 v.2 (fun c d=>a (c,d)) (b 0)⟩
def Xd:List (Nat×à):=[(80,iP),(82,ow),(87,P1),(93,iL)]
def Ug (ρ:Type):List (Þ ρ):=[De ρ,Dc ρ]
def yO (ρ:Type):Env ρ:=å Xd (Ug ρ)
def OH:à:=⟨[aa,tI],[aa],fun(x:Val aw)=>iE x.1 x.2⟩
def Kb:Ç:=Ls 0 [tI,aa,tI] [tI,aa] ⟨26,[.any,.con tI,.any,.any,.any,.own 0,.any,.any,.con aa,.con tI,.var tI],bW⟩ [(.exit 0,⟨26,[.any,.con tI,.any,.any,.any,.own 0,.any,.any,.con aa,.con tI],bW⟩,[aa])]
def xw (ρ:Type):Þ ρ:=⟨[],98,0,Kb,fun(p:Val (.pair tI aw)) (v:Val œ) a b=>oC p.1 p.2.1 p.2.2 v.1 v.2 (fun c d=>a (c,d)) (b 0)⟩
def Qw:List (Nat×à):=[]
def Ni (ρ:Type):List (Þ ρ):=[xw ρ]
def xx (ρ:Type):Env ρ:=å Qw (Ni ρ)
def GS:à:=⟨[Â,aa],[aa,tI],fun(x:Val (.pair Â aa))=>rM x.1 x.2⟩
def tg:Ç:=Ls 3 [ae,tI,tI,tI,ag,ab,ah,ae,ab,ai,aa,tI] [tI] ⟨19,.con ae::.fn 95 [(2,0)]::aN 5 [.con tI,.var tI],[bv,bo,bt]⟩ [(.ret,⟨19,[.con ae,.fn 95 [(2,0)],.any,.any,.var tI,.any,.any,.con tI],[bv,bo,bt]⟩,[tI]),(.exit 0,⟨19,.con ae::.fn 95 [(2,0)]::aN 5 [.con tI],[bv,bo,bt]⟩,[])]
def tf (ρ:Type):Þ ρ:=⟨[9,4,1,2],175,0,tg,fun(p:Val (tyL tg.cs)) (v:Val tI) b a=>kP p.1 p.2.1 p.2.2.2.2.2.2.2.2.2.2.2 v (fun c=>b c) (a 0) (a 1)⟩
def tk:Ç:=Ls 0 [aa,tI,tI,tI,ag,ab,ah,ae,ab,ai,aa] [tI] ⟨135,aN 2 (.box 0 0::.box 1 0::aN 28 [.con aa,.con tI,.var tI]),[bv,bo]⟩ [(.ret,⟨135,aN 2 (.box 0 0::.box 1 0::.nils::.var tI::aN 26 [.con aa,.con tI]),[bv,bo]⟩,[tI]),(.exit 0,⟨135,aN 2 (.box 0 0::.box 1 0::aN 28 [.con aa,.con tI]),[bv,bo]⟩,[])]
def tj (ρ:Type):Þ ρ:=⟨[],30,0,tk,fun(p:Val (tyL tk.cs)) (v:Val tI) b a=>ψ p.1 p.2.1 p.2.2.2.2.2.2.2.1 v (fun c=>b c) (a 0) (a 1)⟩
def td:Ç:=Ls 0 [tI,tI,ag,ab,ah,ae,ab,ai,aa] [tI] ⟨135,aN 2 (.box 0 0::.box 1 0::aN 5 [.var tI]),[bv,bo]⟩ [(.ret,⟨135,[.any,.any,.box 0 0,.box 1 0,.nils,.var tI],[bv,bo]⟩,[tI]),(.exit 2,⟨135,[.any,.any,.box 0 0,.box 1 0],[bv,bo]⟩,[])]
def tc (ρ:Type):Þ ρ:=⟨[],30,2,td,fun(p:Val (tyL td.cs)) (v:Val tI) b a=>iS p.2.2.2.2.2.2.2.2 v (fun c=>b c) (a 0) (a 1)⟩
def ta:Ç:=Ls 4 [af,tI,tI,tI,ag,ab,ah,ae,ab,ai,aa,tI] [tI] ⟨21,.any::.fn 100 [(3,0),(2,0)]::aN 7 [.con af,.con tI,.var tI],[bv,bo,bt,bS]⟩ [(.ret,⟨21,[.any,.fn 100 [(3,0),(2,0)],.any,.any,.var aj,.var .bool,.any,.any,.any,.con af,.con tI],[bv,bo,bt,bS]⟩,[aj,.bool]),(.exit 0,⟨21,.any::.fn 100 [(3,0),(2,0)]::aN 7 [.con af,.con tI],[bv,bo,bt,bS]⟩,[])]
def s9 (ρ:Type):Þ ρ:=⟨[21,2],99,0,ta,fun(p:Val (tyL ta.cs)) (v:Val tI) b a=>let A:=p.2.2.2.2;let B:=A.2.2.2.2;iR p.1 p.2.1 p.2.2.1 p.2.2.2.1 A.1 A.2.1 A.2.2.1 A.2.2.2.1 B.1 B.2.1 B.2.2.1 B.2.2.2 v (fun c=>b c) (a 0) (a 1)⟩
def sZ:Ç:=Ls 4 [aa,aa,aa,tI,aa,aa,tI,tI,ag,ab,ah,ae,ab,ai] [tI] ⟨36,.con aa::.con aa::aN 7 [.con aa,.con tI,.var tI],cn⟩ [(.ret,⟨36,.con aa::.con aa::aN 2 (.var tI::aN 4 [.con aa,.con tI]),cn⟩,[tI]),(.exit 0,⟨36,.con aa::.con aa::aN 7 [.con aa,.con tI],cn⟩,[])]
def sY (ρ:Type):Þ ρ:=⟨[29,14],101,0,sZ,fun(p:Val (tyL sZ.cs)) (v:Val tI) b a=>Ŷ p.2.1 p.2.2.1 p.2.2.2.1 v (fun c=>b c) (a 0) (a 1)⟩
def sX:Ç:=Ls 0 [af,aa,tI,tI,aa,tI,tI,tI,aa,aa,tI,tI,ag,ab,ah,ae,ab,ai] [tI] ⟨135,aN 3 (.box 0 0::aN 6 (.con af::.any::.box 1 0::.own 2::aN 2 (.con aa::.con tI::.con tI::.con aa::aN 57 (.con tI::.con tI::aN 23 [.own 2,.con tI,.var tI])))),cn⟩ [(.exit 5,⟨135,aN 3 (.box 0 0::aN 6 (.con af::.any::.box 1 0::.own 2::aN 2 (.con aa::.con tI::.con tI::.con aa::aN 57 (.con tI::.con tI::aN 23 [.own 2,.con tI])))),cn⟩,[]),(.exit 6,⟨135,aN 3 (.box 0 0::aN 6 (.con af::.any::.box 1 0::.own 2::aN 2 (.con aa::.con tI::.con tI::.con aa::aN 57 (.con tI::.con tI::aN 23 [.own 2,.con tI])))),cn⟩,[])]
def sW (ρ:Type):Þ ρ:=⟨[],30,6,sX,fun(p:Val (tyL sX.cs)) (v:Val tI) b a=>ŗ p.2.2.2.1 p.2.2.2.2.2.2.2.1 p.2.2.2.2.2.2.2.2.2.1 v (fun c=>b c) (a 0) (a 1)⟩
def sS:Ç:=Ls 0 [af,aa,tI,tI,aa,tI,tI,af,tI,aa,tI,tI,ag,ab,ah,ae,ab,ai] [tI,aa] ⟨135,aN 3 (.box 0 0::aN 6 (.con af::.any::.box 1 0::.own 2::aN 2 (.con aa::.con tI::.con tI::.con aa::aN 57 (.con tI::.con tI::aN 34 [.con af,.con tI,.var tI])))),cp⟩ [(.exit 5,⟨135,aN 3 (.box 0 0::aN 6 (.con af::.any::.box 1 0::.own 2::aN 2 (.con aa::.con tI::.con tI::.con aa::aN 57 (.con tI::.con tI::aN 34 [.con af,.con tI])))),cp⟩,[aa]),(.exit 8,⟨135,aN 3 (.box 0 0::aN 6 (.con af::.any::.box 1 0::.own 2::aN 2 (.con aa::.con tI::.con tI::.con aa::aN 57 (.con tI::.con tI::aN 34 [.con af,.con tI])))),cp⟩,[aa])]
def sR (ρ:Type):Þ ρ:=⟨[],30,8,sS,fun(p:Val (tyL sS.cs)) (v:Val œ) b a=>let A:=p.2.2.2.2.2.2.2;let B:=A.2.2.2.2;let C:=B.2.2.2.2;Ŗ p.2.2.2.1 A.1 A.2.1 A.2.2.1 A.2.2.2.1 B.1 B.2.1 B.2.2.1 B.2.2.2.1 C.1 C.2.1 C.2.2 v.1 v.2 (fun c d=>b (c,d)) (a 0) (a 1)⟩
def s8:Ç:=Ls 0 [af,tI,aa,tI,tI,ag,ab,ah,ae,ab,ai] [aa,tI,tI,aa] ⟨135,aN 3 (.box 0 0::aN 6 (.con af::.any::.box 1 0::.own 2::aN 2 (.var aa::.var tI::aN 59 [.con tI,.var tI]))),cp⟩ [(.exit 4,⟨135,aN 3 (.box 0 0::aN 6 (.con af::.any::.box 1 0::.own 2::aN 3 (.var tI::aN 59 [.con tI]))),cp⟩,[tI,aa])]
def s7 (ρ:Type):Þ ρ:=⟨[],30,4,s8,fun(p:Val (tyL s8.cs)) (v:Val (.pair aa aQ)) a b=>let A:=p.2.2.2.2;let B:=A.2.2.2.2;ŷ p.1 p.2.1 p.2.2.1 p.2.2.2.1 A.1 A.2.1 A.2.2.1 A.2.2.2.1 B.1 B.2.1 B.2.2 v.1 v.2.1 v.2.2.1 v.2.2.2 (fun c d e f=>a (c,d,e,f)) (b 0)⟩
def Ke:List (Nat×à):=[(79,qu),(80,iP),(87,P1),(96,yK),(98,OH),(180,mc)]
def HV (ρ:Type):List (Þ ρ):=[tf ρ,tj ρ,tc ρ,s9 ρ,sY ρ,sW ρ,sR ρ,s7 ρ]
def ĺ (ρ:Type):Env ρ:=å Ke (HV ρ)
def Y7:à:=⟨[Â],[af,tI],fun(x:Val Â)=>IU x⟩
def Xc:List (Nat×à):=[(80,iP),(96,yK)]
def Uc (ρ:Type):List (Þ ρ):=[]
def OX (ρ:Type):Env ρ:=å Xc (Uc ρ)
def Jv:à:=⟨[Ê,Ã],[tI,tI],fun(x:Val aK)=>lz x.1 x.2⟩
def U3:List (Nat×à):=[(72,pp),(135,ű),(136,CD)]
def RD (ρ:Type):List (Þ ρ):=[]
def Lj (ρ:Type):Env ρ:=å U3 (RD ρ)
def P9:à:=⟨[Ê,Ã],[Ê,tI],fun(x:Val aK)=>EB x.1 x.2⟩
def D7:Ç:=Ls 6 [tI,tI,tI,ag,ab,ah,ae,ab,tI,tI,tI,tI,tI,tI,ag,ab,ah,ae,ab,tI,tI,tI,tI,ae,tI,tI,ag,ab,ah,ab] [tI,ae] ⟨50,.any::.box 6 0::.box 7 0::.own 8::aN 21 [.own 8,.con tI,.var tI],cq⟩ [(.exit 0,⟨50,.any::.box 6 0::.box 7 0::.own 8::aN 21 [.own 8,.con tI],cq⟩,[ae])]
def D6 (ρ:Type):Þ ρ:=⟨[1,2,4,1],202,0,D7,fun(p:Val (tyL D7.cs)) (v:Val aT) a b=>vA p.1 v.1 v.2 (fun c d=>a (c,d)) (b 0)⟩
def XI:List (Nat×à):=[(72,pp)]
def UZ (ρ:Type):List (Þ ρ):=[D6 ρ]
def F8 (ρ:Type):Env ρ:=å XI (UZ ρ)
def Js:à:=⟨[Ì,aa],[tI],fun(x:Val aU)=>yo x.1 x.2⟩
def Nw:Ç:=Ls 0 [aa,tI,tI,ak] [tI] ⟨37,aN 2 (.box 0 0::aN 16 [.con aa,.con tI,.var tI]),[bK]⟩ [(.ret,⟨37,aN 2 (.box 0 0::.any::.var tI::aN 14 [.con aa,.con tI]),[bK]⟩,[tI]),(.exit 0,⟨37,aN 2 (.box 0 0::aN 16 [.con aa,.con tI]),[bK]⟩,[])]
def Ay (ρ:Type):Þ ρ:=⟨[],133,0,Nw,fun(p:Val (.pair aa aL)) (v:Val tI) b a=>rc p.1 p.2.1 p.2.2.1 p.2.2.2 v (fun c=>b c) (a 0) (a 1)⟩
def Uo:List (Nat×à):=[(126,sI),(127,mV),(196,P3)]
def QP (ρ:Type):List (Þ ρ):=[Ay ρ]
def BG (ρ:Type):Env ρ:=å Uo (QP ρ)
def Fg:à:=⟨[Ì,ao,tI],[aa],fun(x:Val (.pair Ì (.pair ao tI)))=>pe x.1 x.2.1 x.2.2⟩
def xT:Ç:=Ls 0 [ao,tI,tI,tI,ak] [tI,aa] ⟨29,.any::.con ao::.con tI::.box 0 0::aN 3 (.own 1::aN 5 [.con tI,.var tI]),[bK,.rowv tI]⟩ [(.exit 0,⟨29,.any::.con ao::.con tI::.box 0 0::aN 3 (.own 1::aN 5 [.con tI]),[bK,.rowv tI]⟩,[aa])]
def xS (ρ:Type):Þ ρ:=⟨[],134,0,xT,fun(p:Val (tyL xT.cs)) (v:Val œ) a b=>oF p.2.2.1 v.1 v.2 (fun c d=>a (c,d)) (b 0)⟩
def xR:Ç:=Ls 2 [ao,ak,tI,tI,ak,aa,tI,ak,aq,aa] [tI,tI] ⟨140,.any::.con ao::.own 1::.box 2 0::aN 3 (.box 3 0::.own 4::.own 5::.var tI::aN 14 [.con ak,.con tI,.var tI]),[bK,.rowc tI,bK,.cells [.nils],.rowc .bool,.rowc tI]⟩ [(.exit 0,⟨140,.any::.con ao::.own 1::.box 2 0::aN 3 (.box 3 0::.own 4::.own 5::.var tI::aN 14 [.con ak,.con tI]),[bK,.rowc tI,bK,.cells [.nils],.rowc .bool,.rowc tI]⟩,[tI])]
def xQ (ρ:Type):Þ ρ:=⟨[8,3],197,0,xR,fun(p:Val (tyL xR.cs)) (v:Val Ã) a b=>vc p.2.1 p.2.2.1 v.1 v.2 (fun c d=>a (c,d)) (b 0)⟩
def xP:Ç:=Ls 2 [ao,tI,tI,tI,ak,aa,tI,ak,aa] [tI,aq,aa] ⟨140,.any::.con ao::.own 1::.box 2 0::aN 3 (.box 3 0::.own 4::.own 5::.con tI::aN 27 [.con tI,.var tI]),ca⟩ [(.exit 2,⟨140,.any::.con ao::.own 1::.box 2 0::aN 3 (.box 3 0::.own 4::.own 5::.con tI::aN 27 [.con tI]),ca⟩,[aq,aa])]
def xO (ρ:Type):Þ ρ:=⟨[8,3],197,2,xP,fun(p:Val (tyL xP.cs)) (v:Val (.pair tI aM)) a b=>uZ p.2.2.1 p.2.2.2.2.2.1 v.1 v.2.1 v.2.2 (fun c d e=>a (c,d,e)) (b 0)⟩
def xM:Ç:=Ls 2 [ao,tI,tI,ak,tI,tI,ak,tI,ak,aa] [tI,aa,aq,aa] ⟨140,.any::.con ao::.own 1::.box 2 0::aN 3 (.box 3 0::.own 4::.own 5::.con tI::aN 3 (.con tI::aN 62 [.con ak,.con tI,.var tI])),cd⟩ [(.ret,⟨140,.any::.con ao::.own 1::.box 2 0::aN 2 (.var .bool::.box 3 0::.own 4::.own 5::.con tI::aN 3 (.con tI::aN 62 [.con ak,.con tI])),cd⟩,[.bool,aa,aq,aa]),(.exit 6,⟨140,.any::.con ao::.own 1::.box 2 0::aN 3 (.box 3 0::.own 4::.own 5::.con tI::aN 3 (.con tI::aN 62 [.con ak,.con tI])),cd⟩,[aa,aq,aa])]
def xL (ρ:Type):Þ ρ:=⟨[8,3],197,6,xM,fun(p:Val (tyL xM.cs)) (v:Val (.pair tI (.pair aa aM))) b a=>Dr p.1 p.2.1 p.2.2.1 p.2.2.2.1 p.2.2.2.2.1 v.1 v.2.1 v.2.2.1 v.2.2.2 (fun c d e f=>b (c,d,e,f)) (a 0) (a 1)⟩
def Ku:Ç:=Ls 2 [ao,tI,tI,ak,tI,ak] [aa,aq,aa,aa] ⟨140,[.any,.con ao,.own 1,.box 2 0,.any,.any,.any,.box 3 0,.own 4,.own 5,.con tI],ce⟩ [(.ret,⟨140,[.any,.con ao,.own 1,.box 2 0,.any,.any,.var .bool,.box 3 0,.own 4,.own 5,.con tI],ce⟩,[.bool,aa,aq,aa,aa])]
def xN (ρ:Type):Þ ρ:=⟨[8,3],197,4,Ku,fun(p:Val (.pair ao bn)) (v:Val aO) a b=>uY p.1 p.2.1 p.2.2.2.2.1 p.2.2.2.2.2 v.1 v.2.1 v.2.2.1 v.2.2.2 (fun c d e f=>a (c,d,e,f)) (b 0)⟩
def QO:List (Nat×à):=[]
def Nu (ρ:Type):List (Þ ρ):=[xS ρ,xQ ρ,xO ρ,xL ρ,xN ρ]
def iY (ρ:Type):Env ρ:=å QO (Nu ρ)
def TE:à:=⟨[Ì],[ab,tI],fun(x:Val Ì)=>ud x⟩
def Ny:Ç:=Ls 1 [aa,tI,tI,ak,tI,ak] [tI,aa] ⟨28,.any::.box 1 0::aN 2 (.con aa::.own 2::aN 7 [.con tI,.var tI]),[bK,bK,.rowv tI]⟩ [(.exit 0,⟨28,.any::.box 1 0::aN 2 (.con aa::.own 2::aN 7 [.con tI]),[bK,bK,.rowv tI]⟩,[aa])]
def AA (ρ:Type):Þ ρ:=⟨[4,1],237,0,Ny,fun(p:Val (.pair aa bn)) (v:Val œ) a b=>rh p.2.1 p.2.2.2.2.1 p.2.2.2.2.2 v.1 v.2 (fun c d=>a (c,d)) (b 0)⟩
def Nx:Ç:=Ls 0 [aa,tI,aa] [tI,ab] ⟨39,aN 5 (.con aa::.own 0::.own 1::aN 12 [.con tI,.var tI]),[.rowc tI,.rowv Ã]⟩ [(.exit 0,⟨39,aN 5 (.con aa::.own 0::.own 1::aN 12 [.con tI]),[.rowc tI,.rowv Ã]⟩,[ab])]
def Az (ρ:Type):Þ ρ:=⟨[],185,0,Nx,fun(p:Val aV) (v:Val ba) a b=>rg p.1 p.2.1 p.2.2 v.1 v.2 (fun c d=>a (c,d)) (b 0)⟩
def Up:List (Nat×à):=[(133,Js),(134,Fg)]
def QR (ρ:Type):List (Þ ρ):=[AA ρ,Az ρ]
def vd (ρ:Type):Env ρ:=å Up (QR ρ)
def OG:à:=⟨[Ê,Ã],[Ã,tI],fun(x:Val aK)=>ze x.1 x.2⟩
def Qp:List (Nat×à):=[(66,oZ),(68,Jv),(69,P9),(185,TE)]
def M5 (ρ:Type):List (Þ ρ):=[]
def G5 (ρ:Type):Env ρ:=å Qp (M5 ρ)
def Ff:à:=⟨[Â,tI,tI],[ak,tI],fun(x:Val aZ)=>t8 x.1 x.2.1 x.2.2⟩
def xD:Ç:=Ls 0 [tI,tI,af,tI,tI,tI,ag,ab,ah,ae,ab,ai] [tI,aR] ⟨113,.any::.con tI::.con tI::.box 0 0::aN 7 (.omp 1::aN 30 [.con af,.con tI,.var tI]),[bv,.mapv tI Ã]⟩ [(.ret,⟨113,.any::.con tI::.con tI::.box 0 0::aN 2 (.nils::.var tI::aN 3 (.omp 1::aN 30 [.con af,.con tI])),[bv,.mapv tI Ã]⟩,[tI,aR]),(.exit 0,⟨113,.any::.con tI::.con tI::.box 0 0::aN 7 (.omp 1::aN 30 [.con af,.con tI]),[bv,.mapv tI Ã]⟩,[aR])]
def xC (ρ:Type):Þ ρ:=⟨[],42,0,xD,fun(p:Val (tyL xD.cs)) (v:Val (.pair tI aR)) b a=>let A:=p.2.2.2.2;let B:=A.2.2.2.2;oE p.1 p.2.1 p.2.2.1 p.2.2.2.1 A.1 A.2.1 A.2.2.1 A.2.2.2.1 B.1 B.2.1 B.2.2.1 B.2.2.2 v.1 v.2 (fun c d=>b (c,d)) (a 0) (a 1)⟩
def xB:Ç:=Ls 0 [ag,tI,aR] [tI,ak] ⟨113,aN 11 (.omp 0::aN 7 (.own 1::aN 70 [.con ag,.con tI,.var tI])),[.mapc tI Ã,.rowv ŕ]⟩ [(.exit 2,⟨113,aN 11 (.omp 0::aN 7 (.own 1::aN 70 [.con ag,.con tI])),[.mapc tI Ã,.rowv ŕ]⟩,[ak])]
def xA (ρ:Type):Þ ρ:=⟨[],42,2,xB,fun(p:Val (tyL xB.cs)) (v:Val Ì) a b=>oD p.1 p.2.1 p.2.2 v.1 v.2 (fun c d=>a (c,d)) (b 0)⟩
def QE:List (Nat×à):=[(80,iP),(81,P2),(88,Cw),(104,ik),(105,Jq),(106,OG)]
def Nl (ρ:Type):List (Þ ρ):=[xC ρ,xA ρ]
def qX (ρ:Type):Env ρ:=å QE (Nl ρ)
def Tz:à:=⟨[Â,aj],[.bool],fun(x:Val aI)=>Ep x.1 x.2⟩
def jC:Tpl:=⟨13,[.any,.any,.box 2 0],[.cells [.con tI,.con tI,.con ag,.con ab,.con ah,.con ae,.con ab,.con ai],.dead,.cells [.own 3],.rowv tI]⟩
def mM (ρ:Type):EU ρ:=⟨[7,8,1,1,1,1],298,0,3,[tI,tI,ag,ab,ah,ae,ab,ai],[aa],jC,Eb,fun(p:Val ac) (v:Val aa) y a=>xo v y (fun b=>a b)⟩
def M7:Ç:=Ls 0 [aj,tI,tI,tI,ag,ab,ah,ae,ab,ai] [tI] ⟨42,aN 2 (.box 0 0::aN 11 [.con aj,.con tI,.var tI]),[bv]⟩ [(.ret,⟨42,aN 2 (.box 0 0::.any::.var .bool::aN 9 [.con aj,.con tI]),[bv]⟩,[.bool]),(.exit 0,⟨42,aN 2 (.box 0 0::aN 11 [.con aj,.con tI]),[bv]⟩,[])]
def Ah (ρ:Type):Þ ρ:=⟨[],154,0,M7,fun(p:Val (.pair aj aB)) (v:Val tI) b a=>qP p.1 p.2.1 p.2.2.2.2.2.2.2.2.2 v (fun c=>b c) (a 0) (a 1)⟩
def G6 (ρ:Type):List (EU ρ):=[mM ρ]
def T7:List (Nat×à):=[(220,Tx)]
def CX (ρ:Type):List (Þ ρ):=[Ah ρ]
def Φ (ρ:Type):Env ρ:={å T7 (CX ρ) with ranges:=Λ (G6 ρ)}
def Cx:à:=⟨[Â,aj],[tI],fun(x:Val aI)=>t7 x.1 x.2⟩
def Ua:List (Nat×à):=[(80,iP),(154,Tz)]
def Qx (ρ:Type):List (Þ ρ):=[]
def Kc (ρ:Type):Env ρ:=å Ua (Qx ρ)
def WM:à:=⟨[Â,aj,tI,tI],[tI,tI],fun(x:Val bc)=>LX x.1 x.2.1 x.2.2.1 x.2.2.2⟩
def aaS:List (Nat×à):=[(78,Cx),(88,Cw),(105,Jq)]
def W9 (ρ:Type):List (Þ ρ):=[]
def Ub (ρ:Type):Env ρ:=å aaS (W9 ρ)
def TD:à:=⟨[Ì,tI,tI],[aj],fun(x:Val aY)=>Ew x.1 x.2.1 x.2.2⟩
def O5:Ç:=Ls 0 [tI,tI,tI,tI,ak] [tI,aa] ⟨45,.any::.con tI::.con tI::.box 0 0::aN 3 (.own 1::aN 7 [.con tI,.var tI]),[bK,.rowv tI]⟩ [(.exit 0,⟨45,.any::.con tI::.con tI::.box 0 0::aN 3 (.own 1::aN 7 [.con tI]),[bK,.rowv tI]⟩,[aa])]
def O4 (ρ:Type):Þ ρ:=⟨[],128,0,O5,fun(p:Val (tyL O5.cs)) (v:Val œ) a b=>yP p.2.2.1 v.1 v.2 (fun c d=>a (c,d)) (b 0)⟩
def O2:Ç:=Ls 4 [aa,tI,aj,tI,ak] [tI,aa] ⟨53,.con aa::.box 1 0::aN 2 (.own 4::aN 7 [.con tI,.var tI]),cr⟩ [(.exit 0,⟨53,.con aa::.box 1 0::aN 2 (.own 4::aN 7 [.con tI]),cr⟩,[aa])]
def O1 (ρ:Type):Þ ρ:=⟨[12,8],198,0,O2,fun(p:Val (tyL O2.cs)) (v:Val œ) a b=>QN p.2.1 v.1 v.2 (fun c d=>a (c,d)) (b 0)⟩
def O0:Ç:=Ls 4 [aa,ak,tI,aj,tI,ak] [tI,aa] ⟨53,.con aa::aN 3 (.own 4::aN 16 [.con ak,.con tI,.var tI]),cr⟩ [(.exit 2,⟨53,.con aa::aN 3 (.own 4::aN 16 [.con ak,.con tI]),cr⟩,[aa])]
def OZ (ρ:Type):Þ ρ:=⟨[12,8],198,2,O0,fun(p:Val (tyL O0.cs)) (v:Val œ) a b=>Dq p.1 p.2.1 p.2.2.1 v.1 v.2 (fun c d=>a (c,d)) (b 0)⟩
def aaU:Ç:=Ls 0 [tI,tI,ak] [tI,aj] ⟨45,aN 9 (.own 0::.fn 198 [(1,0)]::aN 18 [.con tI,.var tI]),[.rowv aa,bK]⟩ [(.exit 2,⟨45,aN 9 (.own 0::.fn 198 [(1,0)]::aN 18 [.con tI]),[.rowv aa,bK]⟩,[aj])]
def O3 (ρ:Type):Þ ρ:=⟨[],128,2,aaU,fun(p:Val aL) (v:Val bf) a b=>II p.1 p.2.1 p.2.2 v.1 v.2 (fun c d=>a (c,d)) (b 0)⟩
def afH:List (Nat×à):=[]
def ac4 (ρ:Type):List (Þ ρ):=[O4 ρ,O1 ρ,OZ ρ,O3 ρ]
def FM (ρ:Type):Env ρ:=å afH (ac4 ρ)
def TG:à:=⟨[Ì],[aa,tI],fun(x:Val Ì)=>nR x⟩
def NB:Ç:=Ls 0 [tI,tI,ak] [tI,af] ⟨93,.any::.box 0 0::aN 6 (.own 1::aN 24 [.con tI,.var tI]),[bK,.rowv aj]⟩ [(.exit 0,⟨93,.any::.box 0 0::aN 6 (.own 1::aN 24 [.con tI]),[bK,.rowv aj]⟩,[af])]
def AJ (ρ:Type):Þ ρ:=⟨[],64,0,NB,fun(p:Val aL) (v:Val az) a b=>nz p.1 p.2.1 p.2.2 v.1 v.2 (fun c d=>a (c,d)) (b 0)⟩
def AC:Ç:=Ls 3 [tI,aj,ak,tI,tI,ak,af,tI,tI,tI,tI,ak] [tI,tI,tI,aa] ⟨73,.any::.var tI::.con tI::.con aj::.fn 129 []::.box 3 0::aN 5 (.own 4::.var tI::aN 7 [.con ak,.con tI,.var tI]),cu⟩ [(.exit 2,⟨73,.any::.var tI::.con tI::.con aj::.fn 129 []::.box 3 0::aN 5 (.own 4::.var tI::aN 7 [.con ak,.con tI]),cu⟩,[tI,tI,aa])]
def AB (ρ:Type):Þ ρ:=⟨[22,10],130,2,AC,fun(p:Val (tyL AC.cs)) (v:Val (.pair tI aQ)) a b=>G8 p.1 p.2.1 p.2.2.1 p.2.2.2.1 v.1 v.2.1 v.2.2.1 v.2.2.2 (fun c d e f=>a (c,d,e,f)) (b 0)⟩
def AE:Ç:=Ls 3 [aj,tI,ak,af,tI,tI,tI,tI,ak] [tI,tI,tI,aa] ⟨73,.any::.var tI::.var tI::.con aj::.fn 129 []::.box 3 0::aN 5 [.own 4,.var tI],cu⟩ [(.exit 0,⟨73,aN 3 (.con aj::.fn 129 []::.box 3 0::aN 5 [.own 4]),cu⟩,[aa])]
def AD (ρ:Type):Þ ρ:=⟨[22,10],130,0,AE,fun(p:Val (tyL AE.cs)) (v:Val (.pair tI aQ)) a b=>xU p.1 p.2.2.2.2.2.2.2.2 v.1 v.2.1 v.2.2.1 v.2.2.2 (fun c d e f=>a (c,d,e,f)) (b 0)⟩
def AG:Ç:=Ls 0 [tI,ak,tI,tI,ak,af] [tI] ⟨93,.any::.box 0 0::aN 6 (.own 1::.any::.fn 129 []::.con tI::aN 37 [.con ak,.con tI,.var tI]),[bK,.rowc aj]⟩ [(.exit 2,⟨93,.any::.box 0 0::aN 6 (.own 1::.any::.fn 129 []::.con tI::aN 37 [.con ak,.con tI]),[bK,.rowc aj]⟩,[]),(.ret,⟨93,.any::.box 0 0::.own 2::.var tI::aN 4 (.own 1::.any::.fn 129 []::.con tI::aN 37 [.con ak,.con tI]),[bK,.rowc aj,.rowv tI]⟩,[tI,aa]),(.exit 4,⟨93,.any::.box 0 0::aN 6 (.own 1::.any::.fn 129 []::.con tI::aN 37 [.con ak,.con tI]),[bK,.rowc aj]⟩,[])]
def AF (ρ:Type):Þ ρ:=⟨[],64,4,AG,fun(p:Val (tyL AG.cs)) (v:Val tI) b a=>ny p.1 p.2.1 p.2.2.1 p.2.2.2.1 p.2.2.2.2.1 p.2.2.2.2.2 v (fun c=>b c) (a 0) (a 1) (a 2)⟩
def AI:Ç:=Ls 0 [tI,ak,af] [tI] ⟨93,.any::.box 0 0::aN 6 [.own 1,.any,.fn 129 [],.var tI],[bK,.rowc aj]⟩ [(.exit 2,⟨93,.any::.box 0 0::aN 6 [.own 1,.any,.fn 129 []],[bK,.rowc aj]⟩,[]),(.ret,⟨93,.any::.box 0 0::.own 2::.var tI::aN 4 [.own 1,.any,.fn 129 []],[bK,.rowc aj,.rowv tI]⟩,[tI,aa])]
def AH (ρ:Type):Þ ρ:=⟨[],64,2,AI,fun(p:Val (tyL AI.cs)) (v:Val tI) b a=>ri p.1 p.2.1 p.2.2 v (fun c=>b c) (a 0) (a 1)⟩
def Ut:List (Nat×à):=[(126,sI),(127,mV),(128,TD)]
def QX (ρ:Type):List (Þ ρ):=[AJ ρ,AB ρ,AD ρ,AF ρ,AH ρ]
def j9 (ρ:Type):Env ρ:=å Ut (QX ρ)
def TB:à:=⟨[Â],[aj,tI],fun(x:Val Â)=>Et x⟩
def Nk:Ç:=Ls 0 [af,tI,tI,tI,ag,ab,ah,ae,ab,ai] [tI,aj] ⟨46,.any::.box 0 0::aN 3 (.own 1::aN 13 [.con af,.con tI,.var tI]),[bv,.rowv aa]⟩ [(.ret,⟨46,.any::.box 0 0::.nils::.var tI::.any::.own 1::aN 13 [.con af,.con tI],[bv,.rowv aa]⟩,[tI,aj]),(.exit 0,⟨46,.any::.box 0 0::aN 3 (.own 1::aN 13 [.con af,.con tI]),[bv,.rowv aa]⟩,[aj])]
def As (ρ:Type):Þ ρ:=⟨[],59,0,Nk,fun(p:Val (.pair af aB)) (v:Val bf) b a=>let A:=p.2.2.2.2;qW p.1 p.2.1 p.2.2.1 p.2.2.2.1 A.1 A.2.1 A.2.2.1 A.2.2.2.1 A.2.2.2.2.1 A.2.2.2.2.2 v.1 v.2 (fun c d=>b (c,d)) (a 0) (a 1)⟩
def Ue:List (Nat×à):=[(64,TG),(66,oZ),(80,iP),(96,yK),(104,ik)]
def QA (ρ:Type):List (Þ ρ):=[As ρ]
def BC (ρ:Type):Env ρ:=å Ue (QA ρ)
def Jr:à:=⟨[Ì,aa],[tI],fun(x:Val aU)=>vJ x.1 x.2⟩
def Ia:Ç:=Ls 1 [aa,tI,tI,ak] [tI] ⟨19,.con aa::.fn 238 [(0,0)]::aN 5 [.con tI,.var tI],[bK]⟩ [(.ret,⟨19,[.con aa,.fn 238 [(0,0)],.any,.any,.var tI,.any,.any,.con tI],[bK]⟩,[tI]),(.exit 0,⟨19,.con aa::.fn 238 [(0,0)]::aN 5 [.con tI],[bK]⟩,[])]
def wi (ρ:Type):Þ ρ:=⟨[3,2,1,2],260,0,Ia,fun(p:Val (.pair aa aL)) (v:Val tI) b a=>mN p.1 p.2.1 p.2.2.2 v (fun c=>b c) (a 0) (a 1)⟩
def Nt:List (Nat×à):=[]
def Kr (ρ:Type):List (Þ ρ):=[wi ρ]
def uX (ρ:Type):Env ρ:=å Nt (Kr ρ)
def Y9:à:=⟨[Ì,tI,aa],[tI,tI,.bool],fun(x:Val (.pair Ì œ))=>IW x.1 x.2.1 x.2.2⟩
def QK:Ç:=Ls 0 [aa,tI,tI,ak] [tI,tI,tI] ⟨37,.any::.var tI::.any::.box 0 0::aN 5 [.var tI,.any,.any,.any,.con aa,.con tI,.var tI],[bK]⟩ [(.ret,⟨37,aN 3 (.box 0 0::aN 2 (.var tI::.var tI::.var .bool::aN 4 [.con aa,.con tI])),[bK]⟩,[tI,tI,.bool]),(.exit 0,⟨37,.any::.var tI::.any::.box 0 0::aN 5 [.var tI,.any,.any,.any,.con aa,.con tI],[bK]⟩,[tI,tI])]
def Dj (ρ:Type):Þ ρ:=⟨[],189,0,QK,fun(p:Val (.pair aa aL)) (v:Val ŕ) b a=>uW p.1 p.2.1 p.2.2.2 v.1 v.2.1 v.2.2 (fun c d e=>b (c,d,e)) (a 0) (a 1)⟩
def Xh:List (Nat×à):=[]
def Uk (ρ:Type):List (Þ ρ):=[Dj ρ]
def FI (ρ:Type):Env ρ:=å Xh (Uk ρ)
def Aa:à:=⟨[Ì,aa],[tI],fun(x:Val aU)=>mQ x.1 x.2⟩
def FP:List (Nat×à):=[(126,sI),(188,Jr),(189,Y9)]
def Dy (ρ:Type):List (Þ ρ):=[]
def wm (ρ:Type):Env ρ:=å FP (Dy ρ)
def zY:à:=⟨[Â,aj],[tI],fun(x:Val aI)=>jI x.1 x.2⟩
def pB:Ç:=Ls 0 [aj,af,tI,tI,tI,ag,ab,ah,ae,ab,ai] [tI] ⟨47,.any::.con aj::.box 0 0::aN 21 [.con af,.con tI,.var tI],[bv]⟩ [(.ret,⟨47,.any::.con aj::.box 0 0::.any::.var tI::aN 19 [.con af,.con tI],[bv]⟩,[tI]),(.exit 0,⟨47,.any::.con aj::.box 0 0::aN 21 [.con af,.con tI],[bv]⟩,[])]
def pA (ρ:Type):Þ ρ:=⟨[],60,0,pB,fun(p:Val (tyL pB.cs)) (v:Val tI) b a=>let A:=p.2.2.2.2;let B:=A.2.2.2.2;jg p.1 p.2.1 p.2.2.1 p.2.2.2.1 A.1 A.2.1 A.2.2.1 A.2.2.2.1 B.1 B.2.1 B.2.2 v (fun c=>b c) (a 0) (a 1)⟩
def FE:List (Nat×à):=[(66,oZ),(80,iP),(96,yK),(104,ik),(122,Aa)]
def Df (ρ:Type):List (Þ ρ):=[pA ρ]
def nY (ρ:Type):Env ρ:=å FE (Df ρ)
def GR:à:=⟨[ae],[Â],fun(x:Val ae)=>ŭ x⟩
def JM:List (Nat×à):=[]
def HF (ρ:Type):List (Þ ρ):=[]
def Ae (ρ:Type):Env ρ:=å JM (HF ρ)
def Jp:à:=⟨[],[.bool],fun(_:Unit)=>i5⟩
def MR:List (Nat×à):=[(19,WN),(20,TC),(26,GV),(28,Cy),(29,Y8),(30,GS),(35,uC),(40,Y7),(42,Ff),(49,WM),(59,TB),(60,zY),(77,GR)]
def JK (ρ:Type):List (Þ ρ):=[]
def CL (ρ:Type):Env ρ:=å MR (JK ρ)
def Cz:à:=⟨[Â,aj],[Ê,tI],fun(x:Val aI)=>oL x.1 x.2⟩
def HU:List (Nat×à):=[(78,Cx),(104,ik)]
def FB (ρ:Type):List (Þ ρ):=[]
def xy (ρ:Type):Env ρ:=å HU (FB ρ)
def sK:à:=⟨[aD,aa],[tI],fun(x:Val (.pair aD aa))=>jk x.1 x.2⟩
def wA:Ç:=Ls 0 [aa,tI] [tI] ⟨19,.con aa::.fn 211 []::aN 5 [.con tI,.var tI],[]⟩ [(.ret,⟨19,[.con aa,.fn 211 [],.any,.any,.var tI,.any,.any,.con tI],[]⟩,[tI]),(.exit 0,⟨19,.con aa::.fn 211 []::aN 5 [.con tI],[]⟩,[])]
def lS (ρ:Type):Þ ρ:=⟨[1,10,1,2],260,0,wA,fun(p:Val aw) (v:Val tI) b a=>ξ p.1 p.2 v (fun c=>b c) (a 0) (a 1)⟩
def zN:List (Nat×à):=[(212,jc)]
def xZ (ρ:Type):List (Þ ρ):=[lS ρ]
def ka (ρ:Type):Env ρ:=å zN (xZ ρ)
def Za:à:=⟨[Ì,aa],[.bool,tI],fun(x:Val aU)=>IX x.1 x.2⟩
def QV:Ç:=Ls 1 [aa,tI,tI,ak] [tI] ⟨19,.con aa::.fn 266 []::aN 5 [.con tI,.var tI],[bK]⟩ [(.ret,⟨19,[.con aa,.fn 266 [],.any,.any,.var tI,.any,.any,.con tI],[bK]⟩,[tI]),(.exit 0,⟨19,.con aa::.fn 266 []::aN 5 [.con tI],[bK]⟩,[])]
def Du (ρ:Type):Þ ρ:=⟨[4,7,1,2],260,0,QV,fun(p:Val (.pair aa aL)) (v:Val tI) b a=>vf p.1 p.2.1 v (fun c=>b c) (a 0) (a 1)⟩
def Dt:Ç:=Ls 0 [aa,ak,tI] [tI] ⟨53,.any::.con aa::aN 26 [.con ak,.con tI,.var tI],[]⟩ [(.ret,⟨53,.any::.con aa::aN 2 (.var .bool::.var tI::aN 22 [.con ak,.con tI]),[]⟩,[.bool,tI]),(.exit 0,⟨53,.any::.con aa::aN 26 [.con ak,.con tI],[]⟩,[])]
def Ds (ρ:Type):Þ ρ:=⟨[],219,0,Dt,fun(p:Val (tyL Dt.cs)) (v:Val tI) b a=>mr p.1 p.2.1 p.2.2 v (fun c=>b c) (a 0) (a 1)⟩
def Xn:List (Nat×à):=[(126,sI)]
def Ur (ρ:Type):List (Þ ρ):=[Du ρ,Ds ρ]
def yQ (ρ:Type):Env ρ:=å Xn (Ur ρ)
def Ac:à:=⟨[aD,aa],[.bool],fun(x:Val (.pair aD aa))=>mR x.1 x.2⟩
def FY:List (Nat×à):=[(219,Za)]
def DH (ρ:Type):List (Þ ρ):=[]
def wq (ρ:Type):Env ρ:=å FY (DH ρ)
def Ze:à:=⟨[Ê,aa],[.bool,tI],fun(x:Val (.pair Ê aa))=>IZ x.1 x.2⟩
def XJ:List (Nat×à):=[(72,pp),(132,P5),(146,sK),(153,Ac)]
def U4 (ρ:Type):List (Þ ρ):=[]
def O9 (ρ:Type):Env ρ:=å XJ (U4 ρ)
def GU:à:=⟨[Â,aj,aa],[tI],fun(x:Val (.pair Â (.pair aj aa)))=>nQ x.1 x.2.1 x.2.2⟩
def Km:List (Nat×à):=[(76,Ze),(78,Cx),(104,ik)]
def HZ (ρ:Type):List (Þ ρ):=[]
def Ax (ρ:Type):Env ρ:=å Km (HZ ρ)
def TH:à:=⟨[Ì,tI,tI],[tI,tI],fun(x:Val aY)=>Ex x.1 x.2.1 x.2.2⟩
def Uv:List (Nat×à):=[(133,Js),(134,Fg)]
def Q2 (ρ:Type):List (Þ ρ):=[]
def KL (ρ:Type):Env ρ:=å Uv (Q2 ρ)
def TF:à:=⟨[Ì,tI,tI],[aa,tI],fun(x:Val aY)=>pV x.1 x.2.1 x.2.2⟩
def Uq:List (Nat×à):=[(127,mV),(139,TH)]
def QT (ρ:Type):List (Þ ρ):=[]
def KA (ρ:Type):Env ρ:=å Uq (QT ρ)
def ov:à:=⟨[Â,tI,tI],[.bool],fun(x:Val aZ)=>vI x.1 x.2.1 x.2.2⟩
def qC:Ç:=Ls 0 [tI,tI,ak,af,tI,tI,tI,ag,ab,ah,ae,ab,ai] [.bool,.bool,tI] ⟨269,.any::.con tI::.con tI::aN 4 (.con ak::aN 2 (.box 0 0::aN 4 [.con af,.any,.con tI,.var .bool,.var .bool,.var tI])),[bv]⟩ [(.ret,⟨269,.any::.con tI::.con tI::aN 3 (.var .bool::.con ak::aN 2 (.box 0 0::aN 4 [.con af,.any,.con tI])),[bv]⟩,[.bool]),(.exit 2,⟨269,.any::.con tI::.con tI::aN 4 (.con ak::aN 2 (.box 0 0::aN 4 [.con af,.any,.con tI,.var .bool,.var .bool])),[bv]⟩,[.bool,.bool])]
def qB (ρ:Type):Þ ρ:=⟨[],13,2,qC,fun(p:Val (tyL qC.cs)) (v:Val (.pair .bool aH)) b a=>let A:=p.2.2.2.2;let B:=A.2.2.2.2;iA p.1 p.2.1 p.2.2.1 p.2.2.2.1 A.1 A.2.1 A.2.2.1 A.2.2.2.1 B.1 B.2.1 B.2.2.1 B.2.2.2.1 B.2.2.2.2 v.1 v.2.1 v.2.2 (fun c d e=>b (c,d,e)) (a 0) (a 1)⟩
def qE:Ç:=Ls 0 [tI,tI,ak,af,tI,tI,ag,ab,ah,ae,ab,ai] [tI] ⟨269,.any::.con tI::.con tI::aN 4 (.con ak::aN 2 (.box 0 0::aN 4 [.con af,.any,.var tI])),[bv]⟩ [(.ret,⟨269,.any::.con tI::.con tI::aN 3 (.var .bool::.con ak::aN 2 (.box 0 0::aN 4 [.con af])),[bv]⟩,[.bool]),(.exit 0,⟨269,.any::.con tI::.con tI::aN 4 (.con ak::aN 2 (.box 0 0::aN 4 [.con af])),[bv]⟩,[])]
def qD (ρ:Type):Þ ρ:=⟨[],13,0,qE,fun(p:Val (tyL qE.cs)) (v:Val tI) b a=>let A:=p.2.2.2.2;let B:=A.2.2.2.2;iB p.1 p.2.1 p.2.2.1 p.2.2.2.1 A.1 A.2.1 A.2.2.1 A.2.2.2.1 B.1 B.2.1 B.2.2.1 B.2.2.2 v (fun c=>b c) (a 0) (a 1)⟩
def HH:List (Nat×à):=[(15,OD),(17,Jp),(19,WN),(41,Cz),(42,Ff),(49,WM),(61,GU),(66,oZ),(68,Jv),(69,P9),(70,TF)]
def Fo (ρ:Type):List (Þ ρ):=[qB ρ,qD ρ]
def kK (ρ:Type):Env ρ:=å HH (Fo ρ)
end Go.Proofs.ZzM
end
