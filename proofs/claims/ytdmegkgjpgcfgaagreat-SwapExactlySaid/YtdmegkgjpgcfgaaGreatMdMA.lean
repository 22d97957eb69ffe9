/- lemmas -/
import Derived.Test.YtdmegkgjpgcfgaaGreatAmC
import Derived.Test.YtdmegkgjpgcfgaaGreatAmE
import Derived.KernelRfl
import Derived.Test.YtdmegkgjpgcfgaaGreatMdTA
import Derived.Test.YtdmegkgjpgcfgaaGreatProg
set_option linter.all false
set_option linter.unusedSectionVars false
set_option linter.unusedVariables false
set_option linter.unusedSimpArgs false
noncomputable section
set_option maxRecDepth 100000
namespace Go.Proofs.ZzM
open Go Go.Am
def FU:Nat→Bool
  |114=>true
  |115=>true
  |140=>true
  |170=>true
  |182=>true
  |250=>true
  |251=>true
  |252=>true
  |_=>false
def O2:Nat→Bool
  |184=>true
  |_=>false
def tK:Nat→Bool
  |249=>true
  |_=>false
def ag0:Nat→Bool
  |2=>true
  |89=>true
  |90=>true
  |94=>true
  |95=>true
  |96=>true
  |97=>true
  |99=>true
  |100=>true
  |101=>true
  |107=>true
  |108=>true
  |129=>true
  |130=>true
  |137=>true
  |138=>true
  |144=>true
  |150=>true
  |151=>true
  |152=>true
  |157=>true
  |158=>true
  |159=>true
  |167=>true
  |168=>true
  |169=>true
  |171=>true
  |174=>true
  |175=>true
  |176=>true
  |177=>true
  |178=>true
  |186=>true
  |197=>true
  |198=>true
  |200=>true
  |202=>true
  |207=>true
  |210=>true
  |211=>true
  |213=>true
  |214=>true
  |221=>true
  |222=>true
  |223=>true
  |224=>true
  |225=>true
  |229=>true
  |230=>true
  |232=>true
  |235=>true
  |237=>true
  |238=>true
  |244=>true
  |245=>true
  |246=>true
  |254=>true
  |255=>true
  |256=>true
  |257=>true
  |258=>true
  |260=>true
  |266=>true
  |267=>true
  |275=>true
  |276=>true
  |277=>true
  |278=>true
  |279=>true
  |280=>true
  |282=>true
  |283=>true
  |293=>true
  |294=>true
  |295=>true
  |298=>true
  |299=>true
  |301=>true
  |302=>true
  |304=>true
  |305=>true
  |310=>true
  |311=>true
  |314=>true
  |315=>true
  |317=>true
  |318=>true
  |321=>true
  |322=>true
  |_=>false
def isFz:Nat→Bool
  |74=>true
  |93=>true
  |_=>false
def ag1:Nat→Nat→Bool
  |104,2=>true
  |104,3=>true
  |174,25=>true
  |245,0=>true
  |_,_=>false
def acN:List Nat→Nat→Bool
  |_,_=>false
abbrev Ś {ρ:Type} (E:Env ρ) (f:Nat) (ts rs:List Ty) (x:Val (tyL ts)) (k:Val (tyL rs)→Option ρ):Option ρ:=topK E f (XB ts x) (fun h v=>Ã (agM rs h v) k)
abbrev Ls (p:Nat) (c v:List Ty) (h:Tpl) (e:List (Exit×Tpl×List Ty)):Ç:=⟨p,c,v,h,e,false⟩
def ä {ρ:Type} (pt:List (Nat×á)) (tab:List (ß ρ)):Env ρ :=
  {P:=Tryz.prog,eat:=ag1,clone:=FU,sort:=O2,compact:=tK,inl:=ag0,fz:=isFz,stop:=acN,pure:=Xx pt,loops:=i5 tab}
def YN {ρ:Type} (pt:List (Nat×á)) (tab:List (ß ρ)) (xt:List (Nat×ZD)):Env ρ:={ä pt tab with ext:=extT xt}
def mkEnvJ {ρ:Type} (pt:List (Nat×á)) (tab:List (ß ρ)) (js:List JEnt):Env ρ :=
  {P:=Tryz.prog,eat:=ag1,clone:=FU,sort:=O2,compact:=tK,inl:=ag0,fz:=isFz,stop:=acN,pure:=Xx pt,loops:=i5 tab,joins:=Rt js}
def mkEnvU {ρ:Type} (pt:List (Nat×á)) (tab:List (ß ρ)) (us:List afP):Env ρ :=
  {P:=Tryz.prog,eat:=ag1,clone:=FU,sort:=O2,compact:=tK,inl:=ag0,fz:=isFz,stop:=acN,pure:=Xx pt,loops:=YQ (ä pt tab) us}
abbrev bo:kp:=.cells [.con aa]
abbrev bp:kp:=.cells [.con tI,.con tI,.con ag,.con ab,.con ah,.con ae,.con ab]
abbrev bq:kp:=.cells [.con tI,.con tI,.con tI,.con tI,.con tI,.con tI,.con tI,.con tI]
abbrev br:kp:=.cells [.con tI,.con tI,.con tI,.con tI]
abbrev bt:kp:=.cells [.con tI]
abbrev bu:kp:=.cells [.con tI,.con tI,.con aa,.con aa,.con tI,.con tI,.con tI,.con tI]
abbrev bv:kp:=.cells [.con tI,.con tI,.con ag,.con ab,.con ah,.con ae,.con ab,.con ai]
abbrev bw:kp:=.cells [.con tI,.con aa]
abbrev bz:kp:=.cells [.omp 3]
abbrev bB:kp:=.cells [.con tI,.con tI]
abbrev bC:kp:=.cells [.con tI,.con tI,.con ag,.con ab,.con ah,.con ae,.con ab,.con ab,.con tI,.own 3,.own 4]
abbrev bD:kp:=.cells [.con tI,.con tI,.con ag,.con ab,.con ah,.con ae,.con ab,.con ab,.con tI,.own 2,.own 3]
abbrev bE:kp:=.cells [.con tI,.con tI,.nils,.nils,.nils,.nils,.nils]
abbrev bG:kp:=.cells [.con tI,.con tI,.own 3,.own 4,.nils,.nils,.nils]
abbrev bH:kp:=.cells [.con tI,.con tI,.own 3,.own 4,.own 5,.nils,.nils]
abbrev bI:kp:=.cells [.con tI,.con tI,.own 3,.own 4,.own 5,.own 6,.nils]
abbrev bJ:kp:=.cells [.con tI,.con tI,.own 2,.own 3,.own 4,.own 5,.own 6]
abbrev bK:kp:=.cells [.con tI,.con ak]
abbrev bL:kp:=.cells [.own 6]
abbrev bM:kp:=.cells [.var tI,.var tI,.var ag,.var ab,.var ah,.var ae,.var ab,.var ai]
abbrev bN:kp:=.cells [.con ai]
abbrev bO:kp:=.cells [.own 4]
abbrev bP:kp:=.cells [.fn 90 [(1,0)]]
abbrev bQ:kp:=.cells [.con tI,.con tI,.nils,.nils,.nils,.nils,.nils,.nils]
abbrev bR:kp:=.cells [.fn 167 [(1,0)]]
abbrev bS:kp:=.cells [.fn 97 [(0,0),(1,0)]]
abbrev bT:kp:=.cells [.fn 97 [(3,0),(0,0)]]
abbrev bU:kp:=.cells [.con tI,.con tI,.own 9,.own 10,.own 11,.con ae,.own 12]
abbrev bV:kp:=.cells [.con tI,.con tI,.con tI]
abbrev bW:List kp:=[.rowv tI]
abbrev bX:List kp:=[bp,bu,.rowc tI]
abbrev bY:List kp:=[bp,bw,bz,.mapc tI tI]
abbrev bZ:List kp:=[bp,bD,.rowv Œ,.rowv Ä]
abbrev b7:List kp:=[bE,bp,bH,.rowc Õ,.rowc Ä,.rowv iu]
abbrev b8:List kp:=[bE,bp,bI,.rowc Õ,.rowc Ä,.rowc iu,.rowv â]
abbrev b9:List kp:=[bE,bJ,.rowc Õ,.rowc Ä,.rowc iu,.rowc â,.rowv Ä]
abbrev ca:List kp:=[bK,.rowc tI,bK,bL,.rowv .bool,.rowc tI,.rowv tI]
abbrev cd:List kp:=[bK,.rowv tI,bK,bL,.rowv .bool,.rowc tI,.rowv tI]
abbrev ce:List kp:=[bK,.rowv tI,bK,bL,.rowv .bool,.rowv tI,.rowv tI]
abbrev cf:List kp:=[.rowv af,bv]
abbrev cg:List kp:=[.rowc af,bv]
abbrev ci:List kp:=[.rowv af,bM]
abbrev cj:List kp:=[bv,bt,bv,bP,bQ,.rowc â]
abbrev cm:List kp:=[bv,bo,bQ,bv,bR,bQ,.rowc â]
abbrev cn:List kp:=[bo,bT,.rowc tI,bv]
abbrev cp:List kp:=[bo,bT,.rowv tI,bv]
abbrev cq:List kp:=[bp,bB,bE,bp,bE,.dead,bU,bE,.rowv â,.rowc Õ,.rowc Ä,.rowc iu,.rowc Ä]
abbrev cr:List kp:=[.rowc aa,bK,.dead,.dead,.rowv tI]
abbrev cu:List kp:=[bK,.rowc af,bV,bK,.rowv tI]
def ix:á:=⟨[af],[aa],fun(x:Val af)=>Ģ x⟩
def uG:Ç:=Ls 0 [af,af,tI] [tI,tI] ⟨36,.con af::aN 2 (.var tI::aN 5 [.con af,.con tI,.var tI]),[]⟩ [(.exit 0,⟨36,.con af::aN 2 (.var tI::aN 5 [.con af,.con tI]),[]⟩,[tI])]
def kI (ρ:Type):ß ρ:=⟨[],93,0,uG,fun(p:Val (.pair af aZ)) (v:Val Ä) a b=>Κ p.2.1 p.2.2 v.1 v.2 (fun c d=>a (c,d)) (b 0)⟩
def uF:Ç:=Ls 0 [af,tI] [tI,aa] ⟨36,aN 6 (.own 0::aN 18 [.con af,.con tI,.var tI]),bW⟩ [(.exit 2,⟨36,aN 6 (.own 0::aN 18 [.con af,.con tI]),bW⟩,[aa])]
def kH (ρ:Type):ß ρ:=⟨[],93,2,uF,fun(p:Val aZ) (v:Val ŏ) a b=>Ĝ p.1 p.2 v.1 v.2 (fun c d=>a (c,d)) (b 0)⟩
def xv:List (Nat×á):=[]
def vX (ρ:Type):List (ß ρ):=[kI ρ,kH ρ]
def δ (ρ:Type):Env ρ:=ä xv (vX ρ)
def Lg:ago:=⟨272,aa,aa,yP⟩
def θ:Tpl:=⟨37,.any::.box 1 0::.box 2 0::.any::.box 3 0::aN 6 [.con aa,.con tI,.con tI],[.acc aa,.cells [.con aa],.cells [.yld],.cells [.con tI]]⟩
def iY (al:Val af) (rec:Val aa→Option ((Val af))) (ρ:Type):EF ρ:=⟨[],272,2,4,[aa,tI,tI,aa,tI],[af],θ,⟨272,aa,aa,rec⟩,fun(p:Val aS) (v:Val af) y a=>pk al rec p.2.2.2.2 v y (fun b=>a b)⟩
def Ŭ:Ç:=Ls 2 [aa,tI,aa] [tI,af] ⟨37,.any::.box 1 0::.box 2 0::aN 8 [.con aa,.con tI,.var tI],[.acc aa,bo,.cells [.yld]]⟩ [(.exit 0,⟨37,.any::.box 1 0::.box 2 0::aN 8 [.con aa,.con tI],[.acc aa,bo,.cells [.yld]]⟩,[af])]
def lR (al:Val af) (rec:Val aa→Option ((Val af))) (ρ:Type):ß ρ:=⟨[],272,0,Ŭ,fun(p:Val aV) (v:Val bc) a b=>pl al rec p.1 p.2.1 p.2.2 v.1 v.2 (fun c d=>a (c,d)) (b 0)⟩
def wY (al:Val af) (rec:Val aa→Option ((Val af))) (ρ:Type):List (EF ρ):=[iY al rec ρ]
def JH:List (Nat×á):=[(93,ix)]
def vK (al:Val af) (rec:Val aa→Option ((Val af))) (ρ:Type):List (ß ρ):=[lR al rec ρ]
def û (al:Val af) (rec:Val aa→Option ((Val af))) (ρ:Type):Env ρ:={ä JH (vK al rec ρ) with ranges:=Ζ (wY al rec ρ),yld:=some ⟨aa,al⟩}
def pK:ago:=⟨231,ai,af,me⟩
def ű:Tpl:=⟨27,.any::.box 1 0::.box 2 0::.box 3 0::aN 11 [.con aa],[.acc af,.cells [.con ai],.cells [.yld],.cells [.con aa]]⟩
def gT (al:Val aj) (rec:Val ai→Option ((Val aj))) (ρ:Type):EF ρ:=⟨[],231,2,4,[aa,ai,aa],[aj],ű,⟨231,ai,af,rec⟩,fun(p:Val bg) (v:Val aj) y a=>lU al rec p.2.2 v y (fun b=>a b)⟩
def Ų:Tpl:=⟨27,[.any,.box 1 0,.box 2 0],[.acc af,.cells [.con ai],.cells [.yld]]⟩
def gW (al:Val aj) (rec:Val ai→Option ((Val aj))) (ρ:Type):EF ρ:=⟨[],231,0,3,[ai],[aj],Ų,Lg,fun(p:Val ai) (v:Val aj) y a=>lV al rec p v y (fun b=>a b)⟩
def sE (al:Val aj) (rec:Val ai→Option ((Val aj))) (ρ:Type):List (EF ρ):=[gT al rec ρ,gW al rec ρ]
def Fc:List (Nat×á):=[]
def qJ (al:Val aj) (rec:Val ai→Option ((Val aj))) (ρ:Type):List (ß ρ):=[]
def ç (al:Val aj) (rec:Val ai→Option ((Val aj))) (ρ:Type):Env ρ:={ä Fc (qJ al rec ρ) with ranges:=Ζ (sE al rec ρ),yld:=some ⟨af,al⟩}
def D0:ago:=⟨268,aa,tI,yO⟩
def Ē:Ç:=Ls 2 [aa,tI,aa] [tI,aa] ⟨16,.yld::aN 4 [.con aa,.con tI,.var tI],[.acc tI,bo]⟩ [(.exit 0,⟨16,.yld::aN 4 [.con aa,.con tI],[.acc tI,bo]⟩,[aa])]
def Ξ (al:Val aa) (rec:Val aa→Option ((Val aa))) (ρ:Type):ß ρ:=⟨[],268,0,Ē,fun(p:Val aV) (v:Val ŏ) a b=>gX al rec p.1 p.2.1 v.1 v.2 (fun c d=>a (c,d)) (b 0)⟩
def uC:List (Nat×á):=[]
def s8 (al:Val aa) (rec:Val aa→Option ((Val aa))) (ρ:Type):List (ß ρ):=[Ξ al rec ρ]
def Ą (al:Val aa) (rec:Val aa→Option ((Val aa))) (ρ:Type):Env ρ:={ä uC (s8 al rec ρ) with yld:=some ⟨tI,al⟩}
def lN:á:=⟨[aa,tI],[tI],fun(x:Val aw)=>ω x.1 x.2⟩
def vW:Ç:=Ls 0 [aa,tI,tI] [tI] ⟨19,.con aa::.con tI::aN 5 [.con tI,.var tI],[]⟩ [(.ret,⟨19,[.con aa,.con tI,.any,.any,.var tI,.any,.any,.con tI],[]⟩,[tI]),(.exit 0,⟨19,.con aa::.con tI::aN 5 [.con tI],[]⟩,[])]
def lB (ρ:Type):ß ρ:=⟨[],173,0,vW,fun(p:Val (.pair aa Ä)) (v:Val tI) b a=>Ω p.1 p.2.1 p.2.2 v (fun c=>b c) (a 0) (a 1)⟩
def zB:List (Nat×á):=[]
def xr (ρ:Type):List (ß ρ):=[lB ρ]
def jT (ρ:Type):Env ρ:=ä zB (xr ρ)
def Ļ:á:=⟨[aa,tI],[.bool],fun(x:Val aw)=>Ü x.1 x.2⟩
def uE:List (Nat×á):=[(173,lN)]
def ta (ρ:Type):List (ß ρ):=[]
def lC (ρ:Type):Env ρ:=ä uE (ta ρ)
def PQ:á:=⟨[É,Õ],[aa],fun(x:Val (.pair É Õ))=>oE x.1 x.2⟩
def Ra:Ç:=Ls 0 [ae,tI,tI,tI,ag,ab,ah,ae,ab,tI,tI,tI,tI,tI,tI,tI,tI] [tI,aa] ⟨59,aN 2 (.box 0 0::.box 1 0::.any::.own 2::aN 8 [.con ae,.con tI,.var tI]),[bp,bq,.rowv tI]⟩ [(.exit 0,⟨59,aN 2 (.box 0 0::.box 1 0::.any::.own 2::aN 8 [.con ae,.con tI]),[bp,bq,.rowv tI]⟩,[aa])]
def DQ (ρ:Type):ß ρ:=⟨[],201,0,Ra,fun(p:Val (.pair ae aJ)) (v:Val ŏ) a b=>vf p.1 p.2.1 p.2.2.2.2.2.2.2.2.2.1 v.1 v.2 (fun c d=>a (c,d)) (b 0)⟩
def DP:Ç:=Ls 0 [ab,tI,tI,tI,tI,tI,tI,tI,tI,tI] [tI,aa] ⟨59,aN 3 (.box 0 0::.any::.own 1::aN 32 [.con ab,.con tI,.var tI]),[bq,.rowv tI]⟩ [(.exit 2,⟨59,aN 3 (.box 0 0::.any::.own 1::aN 32 [.con ab,.con tI]),[bq,.rowv tI]⟩,[aa])]
def DN (ρ:Type):ß ρ:=⟨[],201,2,DP,fun(p:Val (tyL DP.cs)) (v:Val ŏ) a b=>vd p.1 p.2.1 p.2.2.1 v.1 v.2 (fun c d=>a (c,d)) (b 0)⟩
def Xf:List (Nat×á):=[(92,Ļ)]
def Ux (ρ:Type):List (ß ρ):=[DQ ρ,DN ρ]
def yL (ρ:Type):Env ρ:=ä Xf (Ux ρ)
def Cs:á:=⟨[É],[ab],fun(x:Val É)=>pQ x⟩
def AH:Ç:=Ls 0 [ag,tI,tI,aa,tI,tI,tI,ag,ab,ah,ae,ab,tI,tI,tI,tI,tI,tI,tI,tI] [tI,ab] ⟨33,.any::.box 0 0::.any::.own 1::.any::.box 2 0::aN 3 (.con ag::.con tI::.con tI::aN 5 [.con aa,.con tI,.var tI]),[bp,.rowv Ä,bq]⟩ [(.exit 2,⟨33,.any::.box 0 0::.any::.own 1::.any::.box 2 0::aN 3 (.con ag::.con tI::.con tI::aN 5 [.con aa,.con tI]),[bp,.rowv Ä,bq]⟩,[ab])]
def AG (ρ:Type):ß ρ:=⟨[],136,2,AH,fun(p:Val (tyL AH.cs)) (v:Val aY) a b=>qZ p.2.2.2.1 p.2.2.2.2.1 p.2.2.2.2.2.2.2.2.2.2.2.2.1 v.1 v.2 (fun c d=>a (c,d)) (b 0)⟩
def AJ:Ç:=Ls 0 [ag,tI,tI,tI,ag,ab,ah,ae,ab] [tI,ab] ⟨33,.any::.box 0 0::.any::.own 1::aN 5 [.con ag,.con tI,.var tI],[bp,.rowv Ä]⟩ [(.exit 0,⟨33,.any::.box 0 0::.any::.own 1::aN 5 [.con ag,.con tI],[bp,.rowv Ä]⟩,[ab])]
def AI (ρ:Type):ß ρ:=⟨[],136,0,AJ,fun(p:Val (tyL AJ.cs)) (v:Val aY) a b=>let A:=p.2.2.2.2;rc p.1 p.2.1 p.2.2.1 p.2.2.2.1 A.1 A.2.1 A.2.2.1 A.2.2.2.1 A.2.2.2.2 v.1 v.2 (fun c d=>a (c,d)) (b 0)⟩
def Uo:List (Nat×á):=[(201,PQ)]
def QW (ρ:Type):List (ß ρ):=[AG ρ,AI ρ]
def uT (ρ:Type):Env ρ:=ä Uo (QW ρ)
def sr:á:=⟨[Ä,tI,tI],[.bool],fun(x:Val Ĕ)=>Δ x.1 x.2.1 x.2.2⟩
def Q6:List (Nat×á):=[]
def NE (ρ:Type):List (ß ρ):=[]
def GW (ρ:Type):Env ρ:=ä Q6 (NE ρ)
def iV:á:=⟨[tI,tI,tI],[.bool],fun(x:Val Œ)=>ē x.1 x.2.1 x.2.2⟩
def QU:List (Nat×á):=[]
def Nq (ρ:Type):List (ß ρ):=[]
def GV (ρ:Type):Env ρ:=ä QU (Nq ρ)
def wI:á:=⟨[tI],[.bool],fun(x:Val tI)=>kT x⟩
def Uv:List (Nat×á):=[(212,iV)]
def Q4 (ρ:Type):List (ß ρ):=[]
def KX (ρ:Type):Env ρ:=ä Uv (Q4 ρ)
def PO:á:=⟨[tI],[(.int .u64)],fun(x:Val tI)=>rG x⟩
def WT:List (Nat×á):=[]
def Ua (ρ:Type):List (ß ρ):=[]
def OQ (ρ:Type):Env ρ:=ä WT (Ua ρ)
def Wj:á:=⟨[(.int .u64),(.int .u64)],[(.int .u64)],fun(x:Val bi)=>LK x.1 x.2⟩
def Uc:Ç:=Ls 0 [] [(.int .u64),(.int .u64)] ⟨12,[.var (.int .u64),.var (.int .u64)],[]⟩ [(.exit 0,⟨12,[.var (.int .u64)],[]⟩,[(.int .u64)])]
def GR (ρ:Type):ß ρ:=⟨[],292,0,Uc,fun(p:Unit) (v:Val bi) a b=>yI v.1 v.2 (fun c d=>a (c,d)) (b 0)⟩
def aaj:List (Nat×á):=[]
def WU (ρ:Type):List (ß ρ):=[GR ρ]
def KC (ρ:Type):Env ρ:=ä aaj (WU ρ)
def Cp:á:=⟨[Ä],[.bool],fun(x:Val Ä)=>tQ x⟩
def Uf:List (Nat×á):=[(291,PO),(292,Wj)]
def QO (ρ:Type):List (ß ρ):=[]
def KH (ρ:Type):Env ρ:=ä Uf (QO ρ)
def Jk:á:=⟨[Õ],[.bool],fun(x:Val Õ)=>vv x⟩
def ND:List (Nat×á):=[(141,sr),(205,wI),(212,iV),(253,Cp)]
def KV (ρ:Type):List (ß ρ):=[]
def DM (ρ:Type):Env ρ:=ä ND (KV ρ)
def wJ:á:=⟨[É],[tI],fun(x:Val É)=>ŷ x⟩
def oc:Ç:=Ls 0 [ag,tI,tI,tI,ag,ab,ah,ae,ab] [tI] ⟨31,.any::.box 0 0::aN 4 [.con ag,.con tI,.var tI],[bp]⟩ [(.ret,⟨31,[.any,.box 0 0,.var tI,.any,.any,.any,.con ag,.con tI],[bp]⟩,[tI]),(.exit 0,⟨31,.any::.box 0 0::aN 4 [.con ag,.con tI],[bp]⟩,[])]
def ob (ρ:Type):ß ρ:=⟨[],142,0,oc,fun(p:Val (tyL oc.cs)) (v:Val tI) b a=>iA p.1 p.2.1 p.2.2.2.2.1 v (fun c=>b c) (a 0) (a 1)⟩
def DR:List (Nat×á):=[(203,Jk)]
def BM (ρ:Type):List (ß ρ):=[ob ρ]
def mb (ρ:Type):Env ρ:=ä DR (BM ρ)
def uh:á:=⟨[É],[am],fun(x:Val É)=>Ķ x⟩
def H5:Ç:=Ls 0 [ag,tI] [tI,am] ⟨20,aN 3 (.omp 0::aN 4 [.con ag,.con tI,.var tI]),[.mapv tI Õ]⟩ [(.exit 0,⟨20,aN 3 (.omp 0::aN 4 [.con ag,.con tI]),[.mapv tI Õ]⟩,[am])]
def vP (ρ:Type):ß ρ:=⟨[],143,0,H5,fun(p:Val (.pair ag tI)) (v:Val (.pair tI am)) a b=>mw p.1 p.2 v.1 v.2 (fun c d=>a (c,d)) (b 0)⟩
def Ns:List (Nat×á):=[]
def KM (ρ:Type):List (ß ρ):=[vP ρ]
def uQ (ρ:Type):Env ρ:=ä Ns (KM ρ)
def mo:á:=⟨[am,tI,tI],[tI],fun(x:Val (.pair am Ä))=>il x.1 x.2.1 x.2.2⟩
def FD:List (Nat×á):=[]
def Du (ρ:Type):List (ß ρ):=[]
def vQ (ρ:Type):Env ρ:=ä FD (Du ρ)
def Wn:á:=⟨[tI,tI,(.ptr am)],[tI],fun(x:Val (.pair tI (.pair tI (.ptr am))))=>ķ x.1 x.2.1 x.2.2⟩
def Nt:List (Nat×á):=[(205,wI),(206,mo)]
def KO (ρ:Type):List (ß ρ):=[]
def Dw (ρ:Type):Env ρ:=ä Nt (KO ρ)
def PR:á:=⟨[É,am,tI],[tI],fun(x:Val bm)=>Μ x.1 x.2.1 x.2.2⟩
def rj:Ç:=Ls 2 [ah,tI,tI,tI,ag,ab,ah,ae,ab,tI,tI,tI,tI] [tI] ⟨19,.con ah::.fn 254 [(1,0)]::aN 5 [.con tI,.var tI],[bp,br]⟩ [(.ret,⟨19,[.con ah,.fn 254 [(1,0)],.any,.any,.var tI,.any,.any,.con tI],[bp,br]⟩,[tI]),(.exit 0,⟨19,.con ah::.fn 254 [(1,0)]::aN 5 [.con tI],[bp,br]⟩,[])]
def ri (ρ:Type):ß ρ:=⟨[9,5,1,2],293,0,rj,fun(p:Val (tyL rj.cs)) (v:Val tI) b a=>let A:=p.2.2.2.2.2.2.2.2.2;jN p.1 p.2.1 A.1 A.2.1 A.2.2.1 v (fun c=>b c) (a 0) (a 1)⟩
def rh:Ç:=Ls 2 [ab,tI,tI,tI,ag,ab,ah,ae,ab,tI,tI,tI,tI] [tI] ⟨19,.con ab::.fn 255 [(1,0)]::aN 5 [.con tI,.var tI],[bp,br]⟩ [(.ret,⟨19,[.con ab,.fn 255 [(1,0)],.any,.any,.var tI,.any,.any,.con tI],[bp,br]⟩,[tI]),(.exit 0,⟨19,.con ab::.fn 255 [(1,0)]::aN 5 [.con tI],[bp,br]⟩,[])]
def rg (ρ:Type):ß ρ:=⟨[9,10,1,2],294,0,rh,fun(p:Val (tyL rh.cs)) (v:Val tI) b a=>let A:=p.2.2.2.2.2.2.2.2.2;Γ p.1 p.2.1 A.1 A.2.1 A.2.2.1 v (fun c=>b c) (a 0) (a 1)⟩
def Ib:List (Nat×á):=[(141,sr),(206,mo),(212,iV)]
def FM (ρ:Type):List (ß ρ):=[ri ρ,rg ρ]
def kL (ρ:Type):Env ρ:=ä Ib (FM ρ)
def Ct:á:=⟨[aa,aa],[aa],fun(x:Val (.pair aa aa))=>Λ x.1 x.2⟩
def DL:Ç:=Ls 2 [tI,aa,aa] [tI] ⟨19,.own 1::.fn 214 [(0,0)]::aN 5 [.con tI,.var tI],[bo,.rowc tI]⟩ [(.ret,⟨19,[.own 1,.fn 214 [(0,0)],.any,.any,.var tI,.any,.any,.con tI],[bo,.rowc tI]⟩,[tI]),(.exit 0,⟨19,.own 1::.fn 214 [(0,0)]::aN 5 [.con tI],[bo,.rowc tI]⟩,[])]
def DK (ρ:Type):ß ρ:=⟨[1,3,1,2],260,0,DL,fun(p:Val (tyL DL.cs)) (v:Val tI) b a=>vc p.1 p.2.1 p.2.2 v (fun c=>b c) (a 0) (a 1)⟩
def Q0:Ç:=Ls 2 [aa] [tI,tI,aa] ⟨42,[.own 1,.fn 214 [(0,0)],.any,.any,.any,.var tI,.var tI],[bo,.rowv tI]⟩ [(.exit 0,⟨42,[.own 1,.fn 214 [(0,0)],.any,.any,.any,.var tI],[bo,.rowv tI]⟩,[tI,aa])]
def DJ (ρ:Type):ß ρ:=⟨[1,3],213,0,Q0,fun(p:Val aa) (v:Val aQ) a b=>jW p v.1 v.2.1 v.2.2 (fun c d e=>a (c,d,e)) (b 0)⟩
def Xe:List (Nat×á):=[(92,Ļ)]
def Ut (ρ:Type):List (ß ρ):=[DK ρ,DJ ρ]
def yK (ρ:Type):Env ρ:=ä Xe (Ut ρ)
def EV:á:=⟨[aa],[.bool],fun(x:Val aa)=>mh x⟩
def KU:Ç:=Ls 0 [aa,aa,tI] [tI] ⟨32,.con aa::aN 4 [.con aa,.con tI,.var tI],[]⟩ [(.ret,⟨32,[.con aa,.any,.var .bool,.any,.any,.con aa,.con tI],[]⟩,[.bool]),(.exit 0,⟨32,.con aa::aN 4 [.con aa,.con tI],[]⟩,[])]
def xR (ρ:Type):ß ρ:=⟨[],172,0,KU,fun(p:Val (.pair aa aw)) (v:Val tI) b a=>ox p.1 p.2.1 p.2.2 v (fun c=>b c) (a 0) (a 1)⟩
def Q3:List (Nat×á):=[(212,iV)]
def NB (ρ:Type):List (ß ρ):=[xR ρ]
def xS (ρ:Type):Env ρ:=ä Q3 (NB ρ)
def PS:á:=⟨[É,tI,tI],[iu,.bool],fun(x:Val aK)=>vw x.1 x.2.1 x.2.2⟩
def DT:Ç:=Ls 4 [ah,tI,tI,tI,ag,ab,ah,ae,ab,tI,tI,tI,tI,tI,tI] [tI] ⟨19,.con ah::.fn 295 [(1,0),(2,0)]::aN 5 [.con tI,.var tI],[bp,bt,bt,br]⟩ [(.ret,⟨19,[.con ah,.fn 295 [(1,0),(2,0)],.any,.any,.var tI,.any,.any,.con tI],[bp,bt,bt,br]⟩,[tI]),(.exit 0,⟨19,.con ah::.fn 295 [(1,0),(2,0)]::aN 5 [.con tI],[bp,bt,bt,br]⟩,[])]
def DS (ρ:Type):ß ρ:=⟨[1,3],293,0,DT,fun(p:Val (tyL DT.cs)) (v:Val tI) b a=>vh p.1 p.2.1 p.2.2.2.2.2.2.2.2.2.1 p.2.2.2.2.2.2.2.2.2.2.1 v (fun c=>b c) (a 0) (a 1)⟩
def Xg:List (Nat×á):=[(212,iV)]
def Uz (ρ:Type):List (ß ρ):=[DS ρ]
def FO (ρ:Type):Env ρ:=ä Xg (Uz ρ)
def Hk:á:=⟨[É,am,tI],[tI],fun(x:Val bm)=>Ń x.1 x.2.1 x.2.2⟩
def np:Ç:=Ls 2 [ae,tI,tI,tI,ag,ab,ah,ae,ab,tI,tI,aa,aa,tI,tI,tI,tI] [tI] ⟨19,.con ae::.fn 258 [(1,0)]::aN 5 [.con tI,.var tI],[bp,bu]⟩ [(.ret,⟨19,[.con ae,.fn 258 [(1,0)],.any,.any,.var tI,.any,.any,.con tI],[bp,bu]⟩,[tI]),(.exit 0,⟨19,.con ae::.fn 258 [(1,0)]::aN 5 [.con tI],[bp,bu]⟩,[])]
def nl (ρ:Type):ß ρ:=⟨[4,5,1,2],175,0,np,fun(p:Val (tyL np.cs)) (v:Val tI) b a=>gZ p.1 p.2.1 p.2.2.2.2.2.2.2.2.2.1 v (fun c=>b c) (a 0) (a 1)⟩
def ng:Ç:=Ls 0 [am,aa,tI,tI,tI,aa,tI,tI,tI,ag,ab,ah,ae,ab,tI,tI,aa,aa,tI,tI,tI,tI,aa] [tI] ⟨140,.any::.con am::.any::.box 0 0::aN 3 (.box 1 0::.con aa::.any::.con tI::aN 65 [.own 2,.con tI,.con tI,.any,.any,.any,.con aa,.con tI,.var tI]),bX⟩ [(.ret,⟨140,.any::.con am::.any::.box 0 0::aN 2 (.var tI::.box 1 0::.con aa::.any::.con tI::aN 65 [.own 2,.con tI,.con tI,.any,.any,.any,.con aa,.con tI]),bX⟩,[tI]),(.exit 2,⟨140,.any::.con am::.any::.box 0 0::aN 3 (.box 1 0::.con aa::.any::.con tI::aN 65 [.own 2,.con tI,.con tI,.any,.any,.any,.con aa,.con tI]),bX⟩,[])]
def nf (ρ:Type):ß ρ:=⟨[],209,2,ng,fun(p:Val (tyL ng.cs)) (v:Val tI) b a=>let A:=p.2.2.2.2.2;gY p.1 p.2.2.1 A.1 A.2.1 A.2.2.2.2.2.2.2.2.2.2.1 v (fun c=>b c) (a 0) (a 1)⟩
def nk:Ç:=Ls 0 [am,aa,tI,tI,tI,ag,ab,ah,ae,ab,tI,tI,aa,aa,tI,tI,tI,tI,aa] [tI] ⟨140,.any::.con am::.any::.box 0 0::aN 3 (.box 1 0::.con aa::aN 67 [.own 2,.con tI,.var tI]),bX⟩ [(.ret,⟨140,.any::.con am::.any::.box 0 0::aN 2 (.var tI::.box 1 0::.con aa::aN 67 [.own 2,.con tI]),bX⟩,[tI]),(.exit 0,⟨140,.any::.con am::.any::.box 0 0::aN 3 (.box 1 0::.con aa::aN 67 [.own 2,.con tI]),bX⟩,[])]
def nh (ρ:Type):ß ρ:=⟨[],209,0,nk,fun(p:Val (tyL nk.cs)) (v:Val tI) b a=>Ň p.1 p.2.1 p.2.2.1 p.2.2.2.2.2.2.2.2.2.2.2.1 p.2.2.2.2.2.2.2.2.2.2.2.2.2.2.2.2.2.2 v (fun c=>b c) (a 0) (a 1)⟩
def nc:Ç:=Ls 0 [aa,tI,tI,tI,ag,ab,ah,ae,ab,tI,tI,aa,aa,tI,tI,tI,tI] [tI] ⟨140,aN 3 (.box 0 0::aN 3 (.box 1 0::aN 90 [.con aa,.con tI,.var tI])),[bp,bu]⟩ [(.ret,⟨140,aN 3 (.box 0 0::aN 2 (.var tI::.box 1 0::aN 90 [.con aa,.con tI])),[bp,bu]⟩,[tI]),(.exit 4,⟨140,aN 3 (.box 0 0::aN 3 (.box 1 0::aN 90 [.con aa,.con tI])),[bp,bu]⟩,[])]
def m9 (ρ:Type):ß ρ:=⟨[],209,4,nc,fun(p:Val (tyL nc.cs)) (v:Val tI) b a=>let A:=p.2.2.2.2;ņ p.1 p.2.1 p.2.2.1 p.2.2.2.1 A.1 A.2.1 A.2.2.1 A.2.2.2.1 A.2.2.2.2.1 A.2.2.2.2.2.2.1 v (fun c=>b c) (a 0) (a 1)⟩
def BO:List (Nat×á):=[(93,ix),(141,sr),(148,Ct),(172,EV),(205,wI),(206,mo),(212,iV),(259,PS)]
def zH (ρ:Type):List (ß ρ):=[nl ρ,nf ρ,nh ρ,m9 ρ]
def ŗ (ρ:Type):Env ρ:=ä BO (zH ρ)
def pe:á:=⟨[É],[tI],fun(x:Val É)=>Ÿ x⟩
def Te:á:=⟨[aa],[(.pair tI (.pair tI Œ))],fun(x:Val aa)=>Ee x⟩
def Oi:á:=⟨[Â],[.bool],fun(x:Val Â)=>yS x⟩
def wR:Ç:=Ls 0 [tI,tI,ag,ab,ah,ae,ab,ai,tI,tI,ag,ab,ah,ae,ab] [tI] ⟨90,[.any,.box 0 0,.any,.box 1 0,.var tI],[bv,bp]⟩ [(.ret,⟨90,[.any,.box 0 0,.var .bool,.box 1 0],[bv,bp]⟩,[.bool]),(.exit 0,⟨90,[.any,.box 0 0,.any,.box 1 0],[bv,bp]⟩,[])]
def wQ (ρ:Type):ß ρ:=⟨[],15,0,wR,fun(p:Val (tyL wR.cs)) (v:Val tI) b a=>oi p.2.2.2.2.2.2.2.2.2.2.2.2.2.1 v (fun c=>b c) (a 0) (a 1)⟩
def wP:Ç:=Ls 0 [tI,tI,ag,ab,ah,ae,ab,ai,tI,tI,ag,ab,ah,ae,ab] [tI] ⟨90,[.any,.box 0 0,.any,.box 1 0,.any,.var tI],[bv,bp]⟩ [(.ret,⟨90,[.any,.box 0 0,.var .bool,.box 1 0],[bv,bp]⟩,[.bool]),(.exit 2,⟨90,[.any,.box 0 0,.any,.box 1 0],[bv,bp]⟩,[])]
def wO (ρ:Type):ß ρ:=⟨[],15,2,wP,fun(p:Val (tyL wP.cs)) (v:Val tI) b a=>kv p.2.2.2.2.2.2.2.1 v (fun c=>b c) (a 0) (a 1)⟩
def P1:List (Nat×á):=[]
def My (ρ:Type):List (ß ρ):=[wQ ρ,wO ρ]
def qw (ρ:Type):Env ρ:=ä P1 (My ρ)
def Oj:á:=⟨[af,tI],[.bool],fun(x:Val aZ)=>yT x.1 x.2⟩
def JA:Ç:=Ls 0 [af] [tI] ⟨22,.con af::aN 4 [.var tI],[]⟩ [(.ret,⟨22,[.con af,.any,.any,.any,.var .bool],[]⟩,[.bool]),(.exit 0,⟨22,[.con af],[]⟩,[])]
def wS (ρ:Type):ß ρ:=⟨[],16,0,JA,fun(p:Val af) (v:Val tI) b a=>oj p v (fun c=>b c) (a 0) (a 1)⟩
def P2:List (Nat×á):=[]
def MB (ρ:Type):List (ß ρ):=[wS ρ]
def wT (ρ:Type):Env ρ:=ä P2 (MB ρ)
def Tn:á:=⟨[É,tI,aa],[tI],fun(x:Val (.pair É ŏ))=>El x.1 x.2.1 x.2.2⟩
def AO:Ç:=Ls 1 [aa,tI,tI,tI,ag,ab,ah,ae,ab] [tI] ⟨19,.con aa::.fn 299 []::aN 5 [.con tI,.var tI],[bp]⟩ [(.ret,⟨19,[.con aa,.fn 299 [],.any,.any,.var tI,.any,.any,.con tI],[bp]⟩,[tI]),(.exit 0,⟨19,.con aa::.fn 299 []::aN 5 [.con tI],[bp]⟩,[])]
def AM (ρ:Type):ß ρ:=⟨[4,1,1,2],260,0,AO,fun(p:Val (tyL AO.cs)) (v:Val tI) b a=>rk p.1 p.2.1 v (fun c=>b c) (a 0) (a 1)⟩
def UB:List (Nat×á):=[(72,pe),(143,uh),(205,wI)]
def Re (ρ:Type):List (ß ρ):=[AM ρ]
def BP (ρ:Type):Env ρ:=ä UB (Re ρ)
def YH:á:=⟨[É,tI,tI],[.bool,tI],fun(x:Val aK)=>y0 x.1 x.2.1 x.2.2⟩
def Xj:List (Nat×á):=[(259,PS),(269,Tn)]
def UH (ρ:Type):List (ß ρ):=[]
def OV (ρ:Type):Env ρ:=ä Xj (UH ρ)
def Tg:á:=⟨[É,ai,tI],[tI],fun(x:Val (.pair É (.pair ai tI)))=>Eg x.1 x.2.1 x.2.2⟩
def Ag:Ç:=Ls 0 [ai,tI,tI,tI,ag,ab,ah,ae,ab,tI,aa] [tI] ⟨104,[.any,.con ai,.con tI,.box 0 0,.any,.any,.any,.box 1 0,.var tI],[bp,bw]⟩ [(.ret,⟨104,[.any,.con ai,.con tI,.box 0 0,.any,.any,.var tI,.box 1 0],[bp,bw]⟩,[tI]),(.exit 0,⟨104,[.any,.con ai,.con tI,.box 0 0,.any,.any,.any,.box 1 0],[bp,bw]⟩,[])]
def Af (ρ:Type):ß ρ:=⟨[],156,0,Ag,fun(p:Val (tyL Ag.cs)) (v:Val tI) b a=>mM p.2.2.2.2.2.2.2.2.2.2 v (fun c=>b c) (a 0) (a 1)⟩
def Ae:Ç:=Ls 0 [ai,tI,ag,tI,tI,tI,ag,ab,ah,ae,ab,tI,aa] [tI,aW] ⟨104,.any::.con ai::.con tI::.box 0 0::aN 3 (.box 1 0::.any::.box 2 0::aN 50 [.con ag,.con tI,.var tI]),[bp,bw,bz,.mapv tI tI]⟩ [(.exit 2,⟨104,.any::.con ai::.con tI::.box 0 0::aN 3 (.box 1 0::.any::.box 2 0::aN 50 [.con ag,.con tI]),[bp,bw,bz,.mapv tI tI]⟩,[aW])]
def Ad (ρ:Type):ß ρ:=⟨[],156,2,Ae,fun(p:Val (tyL Ae.cs)) (v:Val (.pair tI aW)) a b=>mL p.2.2.1 p.2.2.2.1 v.1 v.2 (fun c d=>a (c,d)) (b 0)⟩
def MS:Ç:=Ls 4 [aa,tI,tI,tI,ag,ab,ah,ae,ab,tI,aa,aW] [tI] ⟨19,.con aa::.fn 223 [(2,0)]::aN 5 [.con tI,.var tI],bY⟩ [(.ret,⟨19,[.con aa,.fn 223 [(2,0)],.any,.any,.var tI,.any,.any,.con tI],bY⟩,[tI]),(.exit 0,⟨19,.con aa::.fn 223 [(2,0)]::aN 5 [.con tI],bY⟩,[])]
def Ac (ρ:Type):ß ρ:=⟨[18,3,1,2],260,0,MS,fun(p:Val aF) (v:Val tI) b a=>mK p.1 p.2.1 p.2.2.2.2.2.2.2.2.2.2.2 v (fun c=>b c) (a 0) (a 1)⟩
def MR:Ç:=Ls 4 [aa,tI,tI,tI,ag,ab,ah,ae,ab,tI,aa,aW] [tI] ⟨19,.con aa::.fn 224 [(1,0),(2,0)]::aN 5 [.con tI,.var tI],bY⟩ [(.ret,⟨19,[.con aa,.fn 224 [(1,0),(2,0)],.any,.any,.var tI,.any,.any,.con tI],bY⟩,[tI]),(.exit 0,⟨19,.con aa::.fn 224 [(1,0),(2,0)]::aN 5 [.con tI],bY⟩,[])]
def Ab (ρ:Type):ß ρ:=⟨[20,3,1,2],260,0,MR,fun(p:Val aF) (v:Val tI) b a=>ka p.1 p.2.1 p.2.2.2.2.2.2.2.2.2.1 p.2.2.2.2.2.2.2.2.2.2.2 v (fun c=>b c) (a 0) (a 1)⟩
def MQ:Ç:=Ls 4 [aa,tI,tI,tI,ag,ab,ah,ae,ab,tI,aa,aW] [tI] ⟨19,.con aa::.fn 225 [(0,0),(1,0)]::aN 5 [.con tI,.var tI],bY⟩ [(.ret,⟨19,[.con aa,.fn 225 [(0,0),(1,0)],.any,.any,.var tI,.any,.any,.con tI],bY⟩,[tI]),(.exit 0,⟨19,.con aa::.fn 225 [(0,0),(1,0)]::aN 5 [.con tI],bY⟩,[])]
def Aa (ρ:Type):ß ρ:=⟨[24,3,1,2],260,0,MQ,fun(p:Val aF) (v:Val tI) b a=>let A:=p.2.2.2.2;ľ p.1 p.2.1 p.2.2.1 p.2.2.2.1 A.1 A.2.1 A.2.2.1 A.2.2.2.1 A.2.2.2.2.1 A.2.2.2.2.2.1 v (fun c=>b c) (a 0) (a 1)⟩
def TN:List (Nat×á):=[(226,YH)]
def Qc (ρ:Type):List (ß ρ):=[Af ρ,Ad ρ,Ac ρ,Ab ρ,Aa ρ]
def jS (ρ:Type):Env ρ:=ä TN (Qc ρ)
def iD:á:=⟨[Â],[tI],fun(x:Val Â)=>ψ x⟩
def M9:Ç:=Ls 0 [ai,tI,tI,tI,tI,tI,ag,ab,ah,ae,ab,ai] [tI,tI] ⟨50,.any::.box 0 0::aN 2 (.var tI::aN 15 (.con ai::.con tI::.con tI::aN 15 [.con tI,.var tI])),[bv]⟩ [(.exit 2,⟨50,.any::.box 0 0::aN 2 (.var tI::aN 15 (.con ai::.con tI::.con tI::aN 15 [.con tI])),[bv]⟩,[tI])]
def Ak (ρ:Type):ß ρ:=⟨[],80,2,M9,fun(p:Val (.pair ai bh)) (v:Val Ä) a b=>mN p.2.2.2.1 v.1 v.2 (fun c d=>a (c,d)) (b 0)⟩
def Na:Ç:=Ls 0 [ai,tI,tI,tI,ag,ab,ah,ae,ab,ai] [tI,tI] ⟨50,.any::.box 0 0::aN 2 (.var tI::aN 15 [.con ai,.con tI,.var tI]),[bv]⟩ [(.ret,⟨50,.any::.box 0 0::.var tI::aN 17 [.con ai,.con tI],[bv]⟩,[tI]),(.exit 0,⟨50,.any::.box 0 0::aN 2 (.var tI::aN 15 [.con ai,.con tI]),[bv]⟩,[tI])]
def Al (ρ:Type):ß ρ:=⟨[],80,0,Na,fun(p:Val (.pair ai az)) (v:Val Ä) b a=>let A:=p.2.2.2.2;qQ p.1 p.2.1 p.2.2.1 p.2.2.2.1 A.1 A.2.1 A.2.2.1 A.2.2.2.1 A.2.2.2.2.1 A.2.2.2.2.2 v.1 v.2 (fun c d=>b (c,d)) (a 0) (a 1)⟩
def TX:List (Nat×á):=[(72,pe),(156,Tg)]
def Qr (ρ:Type):List (ß ρ):=[Ak ρ,Al ρ]
def uB (ρ:Type):Env ρ:=ä TX (Qr ρ)
def ů:á:=⟨[ab,Ä],[tI],fun(x:Val (.pair ab Ä))=>ï x.1 x.2⟩
def lh:Ç:=Ls 0 [ab,tI,tI,tI] [tI] ⟨19,[.con ab,.any,.any,.box 0 0,.any,.any,.any,.con tI,.var tI],[bB]⟩ [(.ret,⟨19,[.con ab,.any,.any,.box 0 0,.var tI,.any,.any,.con tI],[bB]⟩,[tI]),(.exit 0,⟨19,[.con ab,.any,.any,.box 0 0,.any,.any,.any,.con tI],[bB]⟩,[])]
def Φ (ρ:Type):ß ρ:=⟨[],135,0,lh,fun(p:Val (.pair ab Œ)) (v:Val tI) b a=>ġ p.1 p.2.1 p.2.2.1 p.2.2.2 v (fun c=>b c) (a 0) (a 1)⟩
def mY:List (Nat×á):=[]
def lY (ρ:Type):List (ß ρ):=[Φ ρ]
def ś (ρ:Type):Env ρ:=ä mY (lY ρ)
def GG:á:=⟨[aD,aa,tI],[tI],fun(x:Val (.pair aD aw))=>kg x.1 x.2.1 x.2.2⟩
def KT:List (Nat×á):=[(135,ů)]
def H8 (ρ:Type):List (ß ρ):=[]
def AK (ρ:Type):Env ρ:=ä KT (H8 ρ)
def YE:á:=⟨[É,Õ,tI,tI],[tI],fun(x:Val (.pair É (.pair Õ Ä)))=>yZ x.1 x.2.1 x.2.2.1 x.2.2.2⟩
def DI:Ç:=Ls 0 [tI,tI,ah,tI,tI,tI,ag,ab,ah,ae,ab,tI,tI,tI,tI,tI,tI,tI,tI] [tI,tI] ⟨88,aN 2 (.con tI::.con tI::.box 0 0::.box 1 0::aN 3 (.var tI::aN 7 [.con ah,.con tI,.var tI])),[bp,bq]⟩ [(.exit 0,⟨88,aN 2 (.con tI::.con tI::.box 0 0::.box 1 0::aN 3 (.var tI::aN 7 [.con ah,.con tI])),[bp,bq]⟩,[tI])]
def DH (ρ:Type):ß ρ:=⟨[],247,0,DI,fun(p:Val (tyL DI.cs)) (v:Val Ä) a b=>uZ p.1 p.2.1 p.2.2.1 p.2.2.2.1 p.2.2.2.2.2.2.2.2.2.2.2.1 v.1 v.2 (fun c d=>a (c,d)) (b 0)⟩
def DG:Ç:=Ls 0 [tI,tI,tI,ab,tI,tI,tI,tI,tI,tI,tI,tI,tI] [tI,aa] ⟨88,aN 2 (.con tI::.con tI::.any::.box 0 0::aN 3 (.con tI::aN 3 (.own 1::aN 39 [.con ab,.con tI,.var tI]))),[bq,.rowv tI]⟩ [(.exit 2,⟨88,aN 2 (.con tI::.con tI::.any::.box 0 0::aN 3 (.con tI::aN 3 (.own 1::aN 39 [.con ab,.con tI]))),[bq,.rowv tI]⟩,[aa])]
def DF (ρ:Type):ß ρ:=⟨[],247,2,DG,fun(p:Val (tyL DG.cs)) (v:Val ŏ) a b=>uY p.1 p.2.1 p.2.2.2.1 p.2.2.2.2.1 p.2.2.2.2.2.1 v.1 v.2 (fun c d=>a (c,d)) (b 0)⟩
def Xd:List (Nat×á):=[(212,iV)]
def Ur (ρ:Type):List (ß ρ):=[DH ρ,DF ρ]
def yJ (ρ:Type):Env ρ:=ä Xd (Ur ρ)
def vI:á:=⟨[am,aa],[Ä],fun(x:Val (.pair am aa))=>ii x.1 x.2⟩
def BH:List (Nat×á):=[]
def zE (ρ:Type):List (ß ρ):=[]
def qY (ρ:Type):Env ρ:=ä BH (zE ρ)
def sn:á:=⟨[ab],[tI],fun(x:Val ab)=>jz x⟩
def No:Ç:=Ls 0 [ab,tI] [tI] ⟨15,aN 5 [.con ab,.con tI,.var tI],[]⟩ [(.ret,⟨15,[.any,.any,.var tI,.any,.any,.con ab,.con tI],[]⟩,[tI]),(.exit 0,⟨15,aN 5 [.con ab,.con tI],[]⟩,[])]
def AF (ρ:Type):ß ρ:=⟨[],264,0,No,fun(p:Val bf) (v:Val tI) b a=>qX p.1 p.2 v (fun c=>b c) (a 0) (a 1)⟩
def T9:List (Nat×á):=[(253,Cp)]
def QI (ρ:Type):List (ß ρ):=[AF ρ]
def BA (ρ:Type):Env ρ:=ä T9 (QI ρ)
def A8:á:=⟨[tI,tI],[Ä,tI],fun(x:Val Ä)=>pP x.1 x.2⟩
def Np:List (Nat×á):=[(291,PO),(292,Wj)]
def KA (ρ:Type):List (ß ρ):=[]
def Dq (ρ:Type):Env ρ:=ä Np (KA ρ)
def abX:á:=⟨[Ä,Ä],[Ä,tI],fun(x:Val Ĕ)=>RK x.1 x.2⟩
def aal:List (Nat×á):=[(264,sn),(312,A8)]
def W0 (ρ:Type):List (ß ρ):=[]
def Ug (ρ:Type):Env ρ:=ä aal (W0 ρ)
def Cr:á:=⟨[Ä,Ä],[Ä],fun(x:Val Ĕ)=>vu x.1 x.2⟩
def H7:List (Nat×á):=[(296,abX)]
def FG (ρ:Type):List (ß ρ):=[]
def xN (ρ:Type):Env ρ:=ä H7 (FG ρ)
def Wm:á:=⟨[Ä,Ä],[tI],fun(x:Val Ĕ)=>LL x.1 x.2⟩
def aak:List (Nat×á):=[]
def WX (ρ:Type):List (ß ρ):=[]
def Ue (ρ:Type):Env ρ:=ä aak (WX ρ)
def zU:á:=⟨[Ĕ],[.bool],fun(x:Val Ĕ)=>si x⟩
def FA:List (Nat×á):=[(264,sn),(320,Wm)]
def Dr (ρ:Type):List (ß ρ):=[]
def vO (ρ:Type):Env ρ:=ä FA (Dr ρ)
def abY:á:=⟨[Ä,Ä],[Ä,tI],fun(x:Val Ĕ)=>LN x.1 x.2⟩
def aam:List (Nat×á):=[(264,sn),(312,A8)]
def W7 (ρ:Type):List (ß ρ):=[]
def Ui (ρ:Type):Env ρ:=ä aam (W7 ρ)
def Tk:á:=⟨[Ĕ,Ä],[Ĕ,tI],fun(x:Val (.pair Ĕ Ä))=>LM x.1 x.2⟩
def GU:List (Nat×á):=[(253,Cp),(313,zU),(316,abY),(320,Wm)]
def uP (ρ:Type):List (ß ρ):=[]
def GS:List afP:=[⟨[3,2],314,0,4⟩]
def Uh (ρ:Type):Env ρ:=ä GU (uP ρ)
def BC (ρ:Type):Env ρ:=mkEnvU GU (uP ρ) GS
def Cq:á:=⟨[Ä,Ä],[Ĕ],fun(x:Val Ĕ)=>oD x.1 x.2⟩
def H6:List (Nat×á):=[(297,Tk)]
def FE (ρ:Type):List (ß ρ):=[]
def xM (ρ:Type):Env ρ:=ä H6 (FE ρ)
def Oq:á:=⟨[É,â],[Ĕ],fun(x:Val aX)=>tR x.1 x.2⟩
def Q7:List (Nat×á):=[(143,uh),(148,Ct),(261,vI),(262,Cr),(263,Cq)]
def NG (ρ:Type):List (ß ρ):=[]
def GY (ρ:Type):Env ρ:=ä Q7 (NG ρ)
def Tm:á:=⟨[É,â],[Ä],fun(x:Val aX)=>yh x.1 x.2⟩
def Uw:List (Nat×á):=[]
def Q8 (ρ:Type):List (ß ρ):=[]
def KZ (ρ:Type):Env ρ:=ä Uw (Q8 ρ)
def Jj:á:=⟨[tI,tI],[tI],fun(x:Val Ä)=>yf x.1 x.2⟩
def Ud:List (Nat×á):=[]
def QM (ρ:Type):List (ß ρ):=[]
def KD (ρ:Type):Env ρ:=ä Ud (QM ρ)
def YC:á:=⟨[Ä],[tI,tI],fun(x:Val Ä)=>II x⟩
def Xa:List (Nat×á):=[(264,sn),(265,Jj)]
def Uk (ρ:Type):List (ß ρ):=[]
def OS (ρ:Type):Env ρ:=ä Xa (Uk ρ)
def Tl:á:=⟨[Ä],[tI,tI],fun(x:Val Ä)=>Ej x⟩
def Uj:List (Nat×á):=[(264,sn),(265,Jj)]
def QR (ρ:Type):List (ß ρ):=[]
def KK (ρ:Type):Env ρ:=ä Uj (QR ρ)
def YD:á:=⟨[É,â],[Ä],fun(x:Val aX)=>yY x.1 x.2⟩
def Xb:List (Nat×á):=[(215,Oq),(216,Tm),(217,YC),(218,Tl)]
def Um (ρ:Type):List (ß ρ):=[]
def OT (ρ:Type):Env ρ:=ä Xb (Um ρ)
def PP:á:=⟨[É],[aD],fun(x:Val É)=>Ek x⟩
def DC:Ç:=Ls 2 [tI,aa,tI,ag,tI,tI,tI,tI,ag,ab,ah,ae,ab,tI,tI,ag,ab,ah,ae,ab,ab,tI,tI,tI,tI,tI,tI,tI,tI,tI] [tI,ak,ab] ⟨144,.box 1 0::.any::.con tI::.box 2 0::.con aa::.con tI::.var tI::aN 24 [.con ag,.con tI,.con tI],[bp,bC,bq,.rowv Œ,.rowv Ä]⟩ [(.exit 2,⟨144,.box 1 0::.any::.con tI::.box 2 0::.con aa::.con tI::aN 25 [.con ag,.con tI,.con tI],[bp,bC,bq,.rowv Œ,.rowv Ä]⟩,[ak,ab])]
def DB (ρ:Type):ß ρ:=⟨[2,1],200,2,DC,fun(p:Val (tyL DC.cs)) (v:Val (.pair tI Ca)) a b=>let A:=p.2.2.2.2.2.2.2.2.2.2.2.2.2;let B:=A.2.2.2.2;let C:=B.2.2.2.2.2;let D:=C.2.2.2.2;uW p.1 p.2.1 p.2.2.1 A.1 A.2.1 A.2.2.1 A.2.2.2.1 B.1 B.2.1 B.2.2.1 C.1 C.2.1 C.2.2.1 C.2.2.2.1 D.1 D.2.1 D.2.2.1 D.2.2.2 v.1 v.2.1 v.2.2 (fun c d e=>a (c,d,e)) (b 0)⟩
def DE:Ç:=Ls 2 [ag,tI,tI,tI,ag,ab,ah,ae,ab,tI,tI,ag,ab,ah,ae,ab,ab,tI] [tI,ak,ab] ⟨144,.box 1 0::aN 30 [.con ag,.con tI,.var tI],bZ⟩ [(.exit 0,⟨144,.box 1 0::aN 30 [.con ag,.con tI],bZ⟩,[ak,ab])]
def DD (ρ:Type):ß ρ:=⟨[2,1],200,0,DE,fun(p:Val (tyL DE.cs)) (v:Val (.pair tI Ca)) a b=>let A:=p.2.2.2.2.2.2.2.2.2;let B:=A.2.2.2.2;uX p.1 p.2.1 A.1 A.2.1 A.2.2.1 A.2.2.2.1 B.1 B.2.1 B.2.2.1 B.2.2.2.1 B.2.2.2.2 v.1 v.2.1 v.2.2 (fun c d e=>a (c,d,e)) (b 0)⟩
def DA:Ç:=Ls 2 [ae,tI,tI,tI,ag,ab,ah,ae,ab,tI,tI,ag,ab,ah,ae,ab,ab,tI] [tI,ak,ab] ⟨144,.box 1 0::aN 107 [.con ae,.con tI,.var tI],bZ⟩ [(.exit 4,⟨144,.box 1 0::aN 107 [.con ae,.con tI],bZ⟩,[ak,ab])]
def Dz (ρ:Type):ß ρ:=⟨[2,1],200,4,DA,fun(p:Val (tyL DA.cs)) (v:Val (.pair tI Ca)) a b=>let A:=p.2.2.2.2.2.2.2.2.2;let B:=A.2.2.2.2;uV p.1 p.2.1 A.1 A.2.1 A.2.2.1 A.2.2.2.1 B.1 B.2.1 B.2.2.1 B.2.2.2.1 B.2.2.2.2 v.1 v.2.1 v.2.2 (fun c d e=>a (c,d,e)) (b 0)⟩
def Xc:List (Nat×á):=[(136,Cs),(147,GG),(148,Ct),(201,PQ),(247,YE),(248,YD)]
def Up (ρ:Type):List (ß ρ):=[DB ρ,DD ρ,Dz ρ]
def tC (ρ:Type):Env ρ:=ä Xc (Up ρ)
def oQ:á:=⟨[É],[Ë,ab,tI],fun(x:Val É)=>gJ x⟩
def Rg:List (Nat×á):=[(72,pe),(132,PP)]
def NL (ρ:Type):List (ß ρ):=[]
def GZ (ρ:Type):Env ρ:=ä Rg (NL ρ)
def Je:á:=⟨[Â,af,tI,tI],[tI],fun(x:Val ba)=>sh x.1 x.2.1 x.2.2.1 x.2.2.2⟩
def TH:Ç:=Ls 0 [af,tI,tI,tI,ag,ab,ah,ae,ab,ai] [tI,tI] ⟨47,.any::.con af::.var tI::.con tI::.box 0 0::aN 4 [.var tI],[bv]⟩ [(.exit 0,⟨47,[.any,.con af,.var tI,.con tI,.box 0 0],[bv]⟩,[tI])]
def GJ (ρ:Type):ß ρ:=⟨[],105,0,TH,fun(p:Val (.pair af az)) (v:Val Ä) a b=>yD p.1 p.2.1 p.2.2.2.2.2.2.2.2.2 v.1 v.2 (fun c d=>a (c,d)) (b 0)⟩
def aaf:List (Nat×á):=[(173,lN)]
def Wu (ρ:Type):List (ß ρ):=[GJ ρ]
def JC (ρ:Type):Env ρ:=ä aaf (Wu ρ)
def wF:á:=⟨[aa,tI,ar,aH],[aa],fun(x:Val (.pair aa (.pair tI (.pair ar aH))))=>iQ x.1 x.2.1 x.2.2.1 x.2.2.2⟩
def oa:Ç:=Ls 0 [tI,ar,aH,aa,tI] [tI,aa] ⟨28,[.any,.con tI,.con ar,.con aH,.any,.any,.any,.own 0,.any,.any,.con aa,.con tI,.var tI],bW⟩ [(.exit 0,⟨28,[.any,.con tI,.con ar,.con aH,.any,.any,.any,.own 0,.any,.any,.con aa,.con tI],bW⟩,[aa])]
def nZ (ρ:Type):ß ρ:=⟨[],183,0,oa,fun(p:Val (tyL oa.cs)) (v:Val ŏ) a b=>iz p.1 p.2.1 p.2.2.1 p.2.2.2.1 p.2.2.2.2 v.1 v.2 (fun c d=>a (c,d)) (b 0)⟩
def CB:List (Nat×á):=[(105,Je)]
def Bk (ρ:Type):List (ß ρ):=[nZ ρ]
def lQ (ρ:Type):Env ρ:=ä CB (Bk ρ)
def gQ:á:=⟨[Â,af],[É],fun(x:Val aI)=>ŧ x.1 x.2⟩
def qF:Ç:=Ls 0 [ar,aH,ar,aH,ab,tI,tI,tI,tI,tI,ag,ab,ah,ae,ab,tI,tI,ag] [tI,ab] ⟨123,aN 2 (.con ar::.con aH::.box 0 0::.box 1 0::.box 2 0::.fnd 183 [Â,af]::aN 18 [.con ab,.con tI,.var tI]),[bE,bp,bG,.rowc Õ,.rowv Ä]⟩ [(.exit 0,⟨123,aN 2 (.con ar::.con aH::.box 0 0::.box 1 0::.box 2 0::.fnd 183 [Â,af]::aN 18 [.con ab,.con tI]),[bE,bp,bG,.rowc Õ,.rowv Ä]⟩,[ab])]
def qE (ρ:Type):ß ρ:=⟨[],104,0,qF,fun(p:Val (tyL qF.cs)) (v:Val aY) a b=>jJ p.1 p.2.1 p.2.2.2.2.1 p.2.2.2.2.2.1 v.1 v.2 (fun c d=>a (c,d)) (b 0)⟩
def qD:Ç:=Ls 0 [ar,aH,ar,aH,ah,tI,tI,tI,tI,tI,ag,ab,ah,ae,ab,tI,tI,ag,ab] [tI,ah] ⟨123,aN 2 (.con ar::.con aH::.box 0 0::.box 1 0::.box 2 0::.fnd 183 [Â,af]::aN 41 [.con ah,.con tI,.var tI]),b7⟩ [(.exit 2,⟨123,aN 2 (.con ar::.con aH::.box 0 0::.box 1 0::.box 2 0::.fnd 183 [Â,af]::aN 41 [.con ah,.con tI]),b7⟩,[ah])]
def qC (ρ:Type):ß ρ:=⟨[],104,2,qD,fun(p:Val (tyL qD.cs)) (v:Val (.pair tI ah)) a b=>jI p.1 p.2.1 p.2.2.2.2.1 p.2.2.2.2.2.1 v.1 v.2 (fun c d=>a (c,d)) (b 0)⟩
def qB:Ç:=Ls 0 [ar,aH,ar,aH,ae,tI,tI,tI,tI,tI,ag,ab,ah,ae,ab,tI,tI,ag,ab,ah] [tI,ae] ⟨123,aN 2 (.con ar::.con aH::.box 0 0::.box 1 0::.box 2 0::.fnd 183 [Â,af]::aN 64 [.con ae,.con tI,.var tI]),b8⟩ [(.exit 4,⟨123,aN 2 (.con ar::.con aH::.box 0 0::.box 1 0::.box 2 0::.fnd 183 [Â,af]::aN 64 [.con ae,.con tI]),b8⟩,[ae])]
def qA (ρ:Type):ß ρ:=⟨[],104,4,qB,fun(p:Val (tyL qB.cs)) (v:Val aT) a b=>jH p.2.2.1 p.2.2.2.1 p.2.2.2.2.1 p.2.2.2.2.2.1 v.1 v.2 (fun c d=>a (c,d)) (b 0)⟩
def qz:Ç:=Ls 0 [ar,aH,ab,tI,tI,tI,tI,tI,ag,ab,ah,ae] [tI,ab] ⟨123,aN 2 (.con ar::.con aH::.box 0 0::.any::.box 1 0::aN 93 [.con ab,.con tI,.var tI]),b9⟩ [(.exit 6,⟨123,aN 2 (.con ar::.con aH::.box 0 0::.any::.box 1 0::aN 93 [.con ab,.con tI]),b9⟩,[ab])]
def qy (ρ:Type):ß ρ:=⟨[],104,6,qz,fun(p:Val (tyL qz.cs)) (v:Val aY) a b=>jG p.1 p.2.1 p.2.2.1 p.2.2.2.1 v.1 v.2 (fun c d=>a (c,d)) (b 0)⟩
def Hv:List (Nat×á):=[(105,Je),(183,wF)]
def sw (ρ:Type):List (ß ρ):=[qE ρ,qC ρ,qA ρ,qy ρ]
def Ű (ρ:Type):Env ρ:={ä Hv (sw ρ) with hint:=Rz [(78,183),(84,183)]}
def PN:á:=⟨[Ë,tI],[.bool],fun(x:Val (.pair Ë tI))=>yX x.1 x.2⟩
def WN:List (Nat×á):=[]
def T1 (ρ:Type):List (ß ρ):=[]
def OG (ρ:Type):Env ρ:=ä WN (T1 ρ)
def sm:á:=⟨[Ë],[tI,tI],fun(x:Val Ë)=>nz x⟩
def Nn:Ç:=Ls 0 [ak,tI,tI,ak] [tI] ⟨57,.any::.box 0 0::aN 17 [.con ak,.con tI,.var tI],[bK]⟩ [(.ret,⟨57,.any::.box 0 0::.var tI::.var tI::aN 15 [.con ak,.con tI],[bK]⟩,[tI,tI]),(.exit 0,⟨57,.any::.box 0 0::aN 17 [.con ak,.con tI],[bK]⟩,[])]
def AE (ρ:Type):ß ρ:=⟨[],126,0,Nn,fun(p:Val (.pair ak aL)) (v:Val tI) b a=>qW p.1 p.2.1 p.2.2.1 p.2.2.2 v (fun c=>b c) (a 0) (a 1)⟩
def T8:List (Nat×á):=[(196,PN)]
def QG (ρ:Type):List (ß ρ):=[AE ρ]
def Bz (ρ:Type):Env ρ:=ä T8 (QG ρ)
def qo:á:=⟨[Ë,ao],[aa,.bool],fun(x:Val (.pair Ë ao))=>ke x.1 x.2⟩
def tz:Ç:=Ls 2 [ao,ak,tI,tI,ak,aa,tI,ak,aq,aa] [tI,tI] ⟨140,.any::.con ao::.own 1::.box 2 0::aN 3 (.box 3 0::.own 4::.own 5::.var tI::aN 14 [.con ak,.con tI,.var tI]),[bK,.rowc tI,bK,.cells [.nils],.rowc .bool,.rowc tI]⟩ [(.exit 0,⟨140,.any::.con ao::.own 1::.box 2 0::aN 3 (.box 3 0::.own 4::.own 5::.var tI::aN 14 [.con ak,.con tI]),[bK,.rowc tI,bK,.cells [.nils],.rowc .bool,.rowc tI]⟩,[tI])]
def tx (ρ:Type):ß ρ:=⟨[2,3],197,0,tz,fun(p:Val (tyL tz.cs)) (v:Val Ä) a b=>χ p.2.1 p.2.2.1 v.1 v.2 (fun c d=>a (c,d)) (b 0)⟩
def tv:Ç:=Ls 2 [ao,tI,tI,tI,ak,aa,tI,ak,aa] [tI,aq,aa] ⟨140,.any::.con ao::.own 1::.box 2 0::aN 3 (.box 3 0::.own 4::.own 5::.con tI::aN 27 [.con tI,.var tI]),ca⟩ [(.exit 2,⟨140,.any::.con ao::.own 1::.box 2 0::aN 3 (.box 3 0::.own 4::.own 5::.con tI::aN 27 [.con tI]),ca⟩,[aq,aa])]
def tr (ρ:Type):ß ρ:=⟨[2,3],197,2,tv,fun(p:Val (tyL tv.cs)) (v:Val (.pair tI aM)) a b=>ŕ p.2.2.1 p.2.2.2.2.2.1 v.1 v.2.1 v.2.2 (fun c d e=>a (c,d,e)) (b 0)⟩
def tp:Ç:=Ls 2 [ao,tI,tI,ak,tI,tI,ak,tI,ak,aa] [tI,aa,aq,aa] ⟨140,.any::.con ao::.own 1::.box 2 0::aN 3 (.box 3 0::.own 4::.own 5::.con tI::aN 3 (.con tI::aN 62 [.con ak,.con tI,.var tI])),cd⟩ [(.ret,⟨140,.any::.con ao::.own 1::.box 2 0::aN 2 (.var .bool::.box 3 0::.own 4::.own 5::.con tI::aN 3 (.con tI::aN 62 [.con ak,.con tI])),cd⟩,[.bool,aa,aq,aa]),(.exit 6,⟨140,.any::.con ao::.own 1::.box 2 0::aN 3 (.box 3 0::.own 4::.own 5::.con tI::aN 3 (.con tI::aN 62 [.con ak,.con tI])),cd⟩,[aa,aq,aa])]
def tk (ρ:Type):ß ρ:=⟨[2,3],197,6,tp,fun(p:Val (tyL tp.cs)) (v:Val (.pair tI (.pair aa aM))) b a=>iL p.1 p.2.1 p.2.2.1 p.2.2.2.1 p.2.2.2.2.1 v.1 v.2.1 v.2.2.1 v.2.2.2 (fun c d e f=>b (c,d,e,f)) (a 0) (a 1)⟩
def Fu:Ç:=Ls 2 [ao,tI,tI,ak,tI,ak] [aa,aq,aa,aa] ⟨140,[.any,.con ao,.own 1,.box 2 0,.any,.any,.any,.box 3 0,.own 4,.own 5,.con tI],ce⟩ [(.ret,⟨140,[.any,.con ao,.own 1,.box 2 0,.any,.any,.var .bool,.box 3 0,.own 4,.own 5,.con tI],ce⟩,[.bool,aa,aq,aa,aa])]
def tq (ρ:Type):ß ρ:=⟨[2,3],197,4,Fu,fun(p:Val (.pair ao bn)) (v:Val aO) a b=>ģ p.1 p.2.1 p.2.2.2.2.1 p.2.2.2.2.2 v.1 v.2.1 v.2.2.1 v.2.2.2 (fun c d e f=>a (c,d,e,f)) (b 0)⟩
def Ft:Ç:=Ls 0 [tI,tI] [tI,aa] ⟨34,aN 6 (.own 0::.con tI::aN 13 [.con tI,.var tI]),bW⟩ [(.exit 0,⟨34,aN 6 (.own 0::.con tI::aN 13 [.con tI]),bW⟩,[aa])]
def tj (ρ:Type):ß ρ:=⟨[],127,0,Ft,fun(p:Val Ä) (v:Val ŏ) a b=>iK p.1 p.2 v.1 v.2 (fun c d=>a (c,d)) (b 0)⟩
def Ke:List (Nat×á):=[]
def HQ (ρ:Type):List (ß ρ):=[tx ρ,tr ρ,tk ρ,tq ρ,tj ρ]
def Ο (ρ:Type):Env ρ:=ä Ke (HQ ρ)
def zS:á:=⟨[Ë],[.bool,tI],fun(x:Val Ë)=>mz x⟩
def Fy:List (Nat×á):=[(126,sm),(127,qo)]
def Dk (ρ:Type):List (ß ρ):=[]
def vM (ρ:Type):Env ρ:=ä Fy (Dk ρ)
def mF:á:=⟨[Â,af],[.bool],fun(x:Val aI)=>Ū x.1 x.2⟩
def JZ:List (Nat×á):=[(66,oQ),(104,gQ),(155,zS)]
def Hz (ρ:Type):List (ß ρ):=[]
def Ah (ρ:Type):Env ρ:=ä JZ (Hz ρ)
def Ol:á:=⟨[Â,af],[tI],fun(x:Val aI)=>ĩ x.1 x.2⟩
def wV:Ç:=Ls 0 [tI,af,tI,tI,aa,tI,tI,tI,ag,ab,ah,ae,ab,ai] [tI,tI] ⟨40,aN 2 (.box 0 0::aN 2 (.var tI::.con tI::aN 3 (.con af::.con tI::.con tI::aN 4 [.con aa,.con tI,.var tI]))),[bv]⟩ [(.exit 2,⟨40,aN 2 (.box 0 0::aN 2 (.var tI::.con tI::aN 3 (.con af::.con tI::.con tI::aN 4 [.con aa,.con tI]))),[bv]⟩,[tI])]
def wU (ρ:Type):ß ρ:=⟨[],116,2,wV,fun(p:Val (tyL wV.cs)) (v:Val Ä) a b=>let A:=p.2.2.2.2;ol p.1 A.1 A.2.1 A.2.2.2.2.2.2.2.2.2 v.1 v.2 (fun c d=>a (c,d)) (b 0)⟩
def JD:Ç:=Ls 0 [af,tI,tI,tI,ag,ab,ah,ae,ab,ai] [tI,tI] ⟨40,aN 2 (.box 0 0::aN 2 (.var tI::aN 4 [.con af,.con tI,.var tI])),[bv]⟩ [(.exit 0,⟨40,aN 2 (.box 0 0::aN 2 (.var tI::aN 4 [.con af,.con tI])),[bv]⟩,[tI])]
def wW (ρ:Type):ß ρ:=⟨[],116,0,JD,fun(p:Val (.pair af az)) (v:Val Ä) a b=>om p.1 p.2.1 p.2.2.2.2.2.2.2.2.2 v.1 v.2 (fun c d=>a (c,d)) (b 0)⟩
def P4:List (Nat×á):=[]
def MD (ρ:Type):List (ß ρ):=[wU ρ,wW ρ]
def qx (ρ:Type):Env ρ:=ä P4 (MD ρ)
def wH:á:=⟨[tI],[.bool],fun(x:Val tI)=>kS x⟩
def Dt:List (Nat×á):=[]
def BD (ρ:Type):List (ß ρ):=[]
def tB (ρ:Type):Env ρ:=ä Dt (BD ρ)
def lO:á:=⟨[tI,tI],[tI],fun(x:Val Ä)=>gI x.1 x.2⟩
def zD:List (Nat×á):=[(234,wH)]
def xJ (ρ:Type):List (ß ρ):=[]
def pG (ρ:Type):Env ρ:=ä zD (xJ ρ)
def ET:á:=⟨[af,af,ar],[tI],fun(x:Val (.pair af (.pair af ar)))=>i8 x.1 x.2.1 x.2.2⟩
def P5:List (Nat×á):=[(116,Ol),(180,lO)]
def MJ (ρ:Type):List (ß ρ):=[]
def GM (ρ:Type):Env ρ:=ä P5 (MJ ρ)
def þ:aa9:=⟨af,[tI,tI],179,Â,fun(xs:Val aj) (x:Val Ä) (m:Val Â)=>ã xs x.1 x.2 m⟩
def kE:Ç:=Ls 2 [tI,tI,tI,tI,tI,ag,ab,ah,ae,ab,ai] [tI,aj] ⟨53,.own 0::.con tI::.con tI::.fn 179 [(1,0)]::aN 4 [.con tI,.var tI],cf⟩ [(.exit 2,⟨53,.own 0::.con tI::.con tI::.fn 179 [(1,0)]::aN 4 [.con tI],cf⟩,[aj])]
def Θ (ρ:Type):ß ρ:=⟨[],273,2,kE,fun(p:Val bh) (v:Val aB) a b=>let A:=p.2.2.2.2;let B:=A.2.2.2.2;å p.1 p.2.2.2.1 A.1 A.2.1 A.2.2.1 A.2.2.2.1 B.1 B.2.1 B.2.2 v.1 v.2 (fun c d=>a (c,d)) (b 0)⟩
def kF:Ç:=Ls 2 [tI,tI,tI,tI,ag,ab,ah,ae,ab,ai] [tI,aj] ⟨53,.own 0::.con tI::.con tI::.fn 179 [(1,0)]::aN 4 [.var tI],cf⟩ [(.exit 0,⟨53,[.own 0,.con tI,.con tI,.fn 179 [(1,0)]],cf⟩,[aj])]
def Ι (ρ:Type):ß ρ:=⟨[],273,0,kF,fun(p:Val (.pair tI az)) (v:Val aB) a b=>let A:=p.2.2.2.2;Ć p.1 p.2.1 p.2.2.1 p.2.2.2.1 A.1 A.2.1 A.2.2.1 A.2.2.2.1 A.2.2.2.2.1 A.2.2.2.2.2 v.1 v.2 (fun c d=>a (c,d)) (b 0)⟩
def lW:List (Nat×á):=[(179,ET)]
def Υ (ρ:Type):List (ß ρ):=[Θ ρ,Ι ρ]
def ð (ρ:Type):Env ρ:={ä lW (Υ ρ) with hint:=Rz [(22,179)]}
def ħ:aa9:=⟨af,[tI,tI,tI],179,Â,fun(xs:Val aj) (x:Val Œ) (m:Val Â)=>ī xs x.1 x.2.1 x.2.2 m⟩
def qg:Ç:=Ls 2 [tI,tI,tI,tI,tI,ag,ab,ah,ae,ab,ai] [tI,aj] ⟨38,.own 0::.con tI::.con tI::.con tI::aN 6 [.var tI],cf⟩ [(.exit 0,⟨38,[.own 0,.con tI,.con tI,.con tI],cf⟩,[aj])]
def jj (ρ:Type):ß ρ:=⟨[4,7],317,0,qg,fun(p:Val bh) (v:Val aB) a b=>ą p.1 p.2.1 p.2.2.1 v.1 v.2 (fun c d=>a (c,d)) (b 0)⟩
def qf:Ç:=Ls 2 [tI,tI,tI,tI,tI,ag,ab,ah,ae,ab,ai] [tI,aj] ⟨38,.own 0::.con tI::.con tI::.con tI::aN 6 [.var tI],cf⟩ [(.exit 0,⟨38,[.own 0,.con tI,.con tI,.con tI],cf⟩,[aj])]
def ji (ρ:Type):ß ρ:=⟨[6,11],317,0,qf,fun(p:Val bh) (v:Val aB) a b=>υ p.1 p.2.1 p.2.2.1 v.1 v.2 (fun c d=>a (c,d)) (b 0)⟩
def qi:Ç:=Ls 2 [tI,tI,tI,ag,ab,ah,ae,ab,ai] [tI,tI,aj] ⟨58,.own 0::.any::.con tI::.any::.fn 179 [(1,0)]::aN 5 [.var tI,.var tI],cf⟩ [(.exit 0,⟨58,.own 0::.any::.con tI::.any::.fn 179 [(1,0)]::aN 5 [.var tI],cf⟩,[tI,aj])]
def jk (ρ:Type):ß ρ:=⟨[],300,0,qi,fun(p:Val az) (v:Val (.pair tI aB)) a b=>Ĩ p.1 v.1 v.2.1 v.2.2 (fun c d e=>a (c,d,e)) (b 0)⟩
def qe:Ç:=Ls 2 [tI,tI,tI,tI,tI,ag,ab,ah,ae,ab,ai] [tI,aj] ⟨38,.own 0::.con tI::.con tI::.con tI::aN 6 [.var tI],cf⟩ [(.exit 0,⟨38,[.own 0,.con tI,.con tI,.con tI],cf⟩,[aj])]
def jh (ρ:Type):ß ρ:=⟨[8,7],317,0,qe,fun(p:Val bh) (v:Val aB) a b=>ς p.1 p.2.1 p.2.2.1 v.1 v.2 (fun c d=>a (c,d)) (b 0)⟩
def s7:List (Nat×á):=[]
def jw (ρ:Type):List (ß ρ):=[jj ρ,ji ρ,jk ρ,jh ρ]
def ù (ρ:Type):Env ρ:=ä s7 (jw ρ)
def kr:aa9:=⟨af,[tI,tI,tI],179,Â,fun(xs:Val aj) (x:Val Œ) (m:Val Â)=>ď xs x.1 x.2.1 x.2.2 m⟩
def ă:Ç:=Ls 2 [tI,aj,tI,tI,ag,ab,ah,ae,ab,ai] [tI,tI] ⟨220,.own 0::.con tI::aN 2 (.fn 179 [(1,0)]::aN 5 [.var tI,.var tI]),cg⟩ [(.exit 0,⟨220,.own 0::.con tI::aN 2 (.fn 179 [(1,0)]::aN 5 [.var tI]),cg⟩,[tI])]
def Ť (rec:Val aj→Int→Int→Int→Val Â→Option ((Val aj)×(Val Â))) (ρ:Type):ß ρ:=⟨[],274,0,ă,fun(p:Val au) (v:Val Ä) a b=>ô rec p.1 p.2.1 p.2.2.1 p.2.2.2.1 p.2.2.2.2.1 p.2.2.2.2.2.1 p.2.2.2.2.2.2.1 p.2.2.2.2.2.2.2.1 p.2.2.2.2.2.2.2.2.1 p.2.2.2.2.2.2.2.2.2 v.1 v.2 (fun c d=>a (c,d)) (b 0)⟩
def Ă:Ç:=Ls 2 [tI,tI,tI,ag,ab,ah,ae,ab,ai] [tI,aj] ⟨220,.own 0::aN 9 [.con tI,.any,.any,.var tI],cf⟩ [(.exit 2,⟨220,.own 0::aN 9 [.con tI],cf⟩,[aj])]
def ţ (rec:Val aj→Int→Int→Int→Val Â→Option ((Val aj)×(Val Â))) (ρ:Type):ß ρ:=⟨[],274,2,Ă,fun(p:Val az) (v:Val aB) a b=>ë rec p.1 v.1 v.2 (fun c d=>a (c,d)) (b 0)⟩
def ā:Ç:=Ls 2 [tI,aj,tI,tI,ag,ab,ah,ae,ab,ai] [tI,tI] ⟨220,.own 0::.any::.con tI::.any::.fn 179 [(1,0)]::aN 9 [.var tI,.var tI],cg⟩ [(.exit 4,⟨220,.own 0::.any::.con tI::.any::.fn 179 [(1,0)]::aN 9 [.var tI],cg⟩,[tI])]
def Ţ (rec:Val aj→Int→Int→Int→Val Â→Option ((Val aj)×(Val Â))) (ρ:Type):ß ρ:=⟨[],274,4,ā,fun(p:Val au) (v:Val Ä) a b=>ó rec p.1 p.2.1 p.2.2.1 p.2.2.2.1 p.2.2.2.2.1 p.2.2.2.2.2.1 p.2.2.2.2.2.2.1 p.2.2.2.2.2.2.2.1 p.2.2.2.2.2.2.2.2.1 p.2.2.2.2.2.2.2.2.2 v.1 v.2 (fun c d=>a (c,d)) (b 0)⟩
def Ā:Ç:=Ls 2 [tI,tI,tI,ag,ab,ah,ae,ab,ai] [tI,aj] ⟨220,.own 0::aN 13 [.con tI,.any,.any,.var tI],cf⟩ [(.exit 6,⟨220,.own 0::aN 13 [.con tI],cf⟩,[aj])]
def š (rec:Val aj→Int→Int→Int→Val Â→Option ((Val aj)×(Val Â))) (ρ:Type):ß ρ:=⟨[],274,6,Ā,fun(p:Val az) (v:Val aB) a b=>ê rec p.1 v.1 v.2 (fun c d=>a (c,d)) (b 0)⟩
def ÿ:Ç:=Ls 2 [tI,tI,tI,tI,tI,tI,aj,tI,tI,ag,ab,ah,ae,ab,ai] [tI,tI] ⟨220,.own 0::.con tI::.con tI::.con tI::.fn 179 [(1,0)]::aN 13 [.con tI,.con tI,.var tI,.var tI,.con tI],cg⟩ [(.exit 8,⟨220,.own 0::.con tI::.con tI::.con tI::.fn 179 [(1,0)]::aN 13 [.con tI,.con tI,.var tI,.any,.con tI],cg⟩,[tI])]
def Š (rec:Val aj→Int→Int→Int→Val Â→Option ((Val aj)×(Val Â))) (ρ:Type):ß ρ:=⟨[],274,8,ÿ,fun(p:Val aP) (v:Val Ä) a b=>Ý rec p.2.2.2.2.2.1 p.2.2.2.2.2.2.1 p.2.2.2.2.2.2.2.1 p.2.2.2.2.2.2.2.2.1 p.2.2.2.2.2.2.2.2.2.1 p.2.2.2.2.2.2.2.2.2.2.1 p.2.2.2.2.2.2.2.2.2.2.2.1 p.2.2.2.2.2.2.2.2.2.2.2.2.1 p.2.2.2.2.2.2.2.2.2.2.2.2.2.1 p.2.2.2.2.2.2.2.2.2.2.2.2.2.2 v.1 v.2 (fun c d=>a (c,d)) (b 0)⟩
def pX (rec:Val aj→Int→Int→Int→Val Â→Option ((Val aj)×(Val Â))):List (Nat×á):=[(179,ET)]
def pW (rec:Val aj→Int→Int→Int→Val Â→Option ((Val aj)×(Val Â))):List (Nat×ZD):=[(274,.row ⟨af,[tI,tI,tI],179,Â,fun(xs:Val aj) (x:Val Œ) (m:Val Â)=>rec xs x.1 x.2.1 x.2.2 m⟩),(300,.row ħ)]
def iH (rec:Val aj→Int→Int→Int→Val Â→Option ((Val aj)×(Val Â))) (ρ:Type):List (ß ρ):=[Ť rec ρ,ţ rec ρ,Ţ rec ρ,š rec ρ,Š rec ρ]
def Æ (rec:Val aj→Int→Int→Int→Val Â→Option ((Val aj)×(Val Â))) (ρ:Type):Env ρ:={YN (pX rec) (iH rec ρ) (pW rec) with hint:=Rz [(40,179),(92,179),(158,179)]}
def ě:aa9:=⟨af,[tI],179,Â,fun(xs:Val aj) (x:Val tI) (m:Val Â)=>Ī xs x m⟩
def qd:Ç:=Ls 2 [tI,tI] [tI,tI,aj,tI,tI,ag,ab,ah,ae,ab,ai] ⟨63,[.own 0,.con tI,.fn 179 [(1,0)],.any,.any,.any,.con tI,.var tI,.var tI],ci⟩ [(.exit 0,⟨63,[.own 0,.con tI,.fn 179 [(1,0)],.any,.any,.any,.con tI,.var tI],ci⟩,[tI,aj,tI,tI,ag,ab,ah,ae,ab,ai])]
def jg (ρ:Type):ß ρ:=⟨[],233,0,qd,fun(p:Val Ä) (v:Val (.pair tI au)) a b=>π p.1 p.2 v.1 v.2.1 v.2.2.1 v.2.2.2.1 v.2.2.2.2.1 v.2.2.2.2.2.1 v.2.2.2.2.2.2.1 v.2.2.2.2.2.2.2.1 v.2.2.2.2.2.2.2.2.1 v.2.2.2.2.2.2.2.2.2.1 v.2.2.2.2.2.2.2.2.2.2 (fun c d e f g h i j k l m=>a (c,d,e,f,g,h,i,j,k,l,m)) (b 0)⟩
def pY:Ç:=Ls 2 [tI,tI] [tI,tI,aj,tI,tI,ag,ab,ah,ae,ab,ai] ⟨63,[.own 0,.con tI,.fn 179 [(1,0)],.any,.any,.any,.con tI,.var tI,.var tI],ci⟩ [(.exit 4,⟨63,[.own 0,.con tI,.fn 179 [(1,0)],.any,.any,.any,.con tI,.var tI],ci⟩,[tI,aj,tI,tI,ag,ab,ah,ae,ab,ai])]
def je (ρ:Type):ß ρ:=⟨[],233,4,pY,fun(p:Val Ä) (v:Val (.pair tI au)) a b=>ξ p.1 p.2 v.1 v.2.1 v.2.2.1 v.2.2.2.1 v.2.2.2.2.1 v.2.2.2.2.2.1 v.2.2.2.2.2.2.1 v.2.2.2.2.2.2.2.1 v.2.2.2.2.2.2.2.2.1 v.2.2.2.2.2.2.2.2.2.1 v.2.2.2.2.2.2.2.2.2.2 (fun c d e f g h i j k l m=>a (c,d,e,f,g,h,i,j,k,l,m)) (b 0)⟩
def pZ:Ç:=Ls 2 [tI] [tI,aj,tI,tI,ag,ab,ah,ae,ab,ai] ⟨63,[.own 0,.con tI,.fn 179 [(1,0)],.any,.any,.any,.var tI],ci⟩ [(.exit 2,⟨63,[.own 0,.con tI,.fn 179 [(1,0)]],ci⟩,[aj,tI,tI,ag,ab,ah,ae,ab,ai])]
def jf (ρ:Type):ß ρ:=⟨[],233,2,pZ,fun(p:Val tI) (v:Val au) a b=>ο p v.1 v.2.1 v.2.2.1 v.2.2.2.1 v.2.2.2.2.1 v.2.2.2.2.2.1 v.2.2.2.2.2.2.1 v.2.2.2.2.2.2.2.1 v.2.2.2.2.2.2.2.2.1 v.2.2.2.2.2.2.2.2.2 (fun c d e f g h i j k l=>a (c,d,e,f,g,h,i,j,k,l)) (b 0)⟩
def sZ:List (Nat×á):=[]
def sY:List (Nat×ZD):=[(273,.row þ),(274,.row kr)]
def jv (ρ:Type):List (ß ρ):=[jg ρ,je ρ,jf ρ]
def Ď (ρ:Type):Env ρ:=YN sZ (jv ρ) sY
def PL:á:=⟨[Â],[aj],fun(x:Val Â)=>Eh x⟩
def kz:Tpl:=⟨13,[.any,.any,.box 3 0],[.cells [.con tI,.con tI,.con ag,.con ab,.con ah,.con ae,.con ab,.con ai],.cells [.con tI,.con tI,.con ag,.con ab,.con ah,.con ae,.con ab,.con ai],.dead,.cells [.own 4],.rowv af]⟩
def oq (ρ:Type):EF ρ:=⟨[1,1,1,3,1,1],230,0,4,[tI,tI,ag,ab,ah,ae,ab,ai,tI,tI,ag,ab,ah,ae,ab,ai],[aj],kz,pK,fun(p:Val ax) (v:Val aj) y a=>Br v y (fun b=>a b)⟩
def CQ:Ç:=Ls 5 [tI,tI,tI,ag,ab,ah,ae,ab,ai,tI,tI,ag,ab,ah,ae,ab,ai,ai,aj] [tI] ⟨19,.own 4::.fn 158 [(0,0)]::aN 5 [.con tI,.var tI],[bv,bv,bN,bO,.rowc af]⟩ [(.ret,⟨19,[.own 4,.fn 158 [(0,0)],.any,.any,.var tI,.any,.any,.con tI],[bv,bv,bN,bO,.rowc af]⟩,[tI]),(.exit 0,⟨19,.own 4::.fn 158 [(0,0)]::aN 5 [.con tI],[bv,bv,bN,bO,.rowc af]⟩,[])]
def CP (ρ:Type):ß ρ:=⟨[1,3,1,2],186,0,CQ,fun(p:Val (tyL CQ.cs)) (v:Val tI) b a=>let A:=p.2.2.2.2;ut p.1 p.2.1 p.2.2.1 p.2.2.2.1 A.1 A.2.1 A.2.2.1 A.2.2.2.1 A.2.2.2.2.1 A.2.2.2.2.2.2.2.2.2.2.2.2.2.2 v (fun c=>b c) (a 0) (a 1)⟩
def CO:Ç:=Ls 5 [tI,tI,ag,ab,ah,ae,ab,ai,tI,tI,ag,ab,ah,ae,ab,ai,ai] [tI,tI,aj] ⟨42,[.own 4,.fn 158 [(0,0)],.any,.any,.any,.var tI,.var tI],[bv,bv,bN,bO,.rowv af]⟩ [(.exit 0,⟨42,[.own 4,.fn 158 [(0,0)],.any,.any,.any,.var tI],[bv,bv,bN,bO,.rowv af]⟩,[tI,aj])]
def CN (ρ:Type):ß ρ:=⟨[1,3],157,0,CO,fun(p:Val (tyL CO.cs)) (v:Val (.pair tI aB)) a b=>let A:=p.2.2.2.2;lT p.1 p.2.1 p.2.2.1 p.2.2.2.1 A.1 A.2.1 A.2.2.1 A.2.2.2.1 v.1 v.2.1 v.2.2 (fun c d e=>a (c,d,e)) (b 0)⟩
def JW (ρ:Type):List (EF ρ):=[oq ρ]
def WD:List (Nat×á):=[(79,mF)]
def WB:List (Nat×ZD):=[(233,.row ě)]
def GP (ρ:Type):List (ß ρ):=[CP ρ,CN ρ]
def ι (ρ:Type):Env ρ:={YN WD (GP ρ) WB with ranges:=Ζ (JW ρ)}
def Wi:á:=⟨[Â],[aj,tI],fun(x:Val Â)=>LJ x⟩
def aah:List (Nat×á):=[(80,iD),(81,PL)]
def WJ (ρ:Type):List (ß ρ):=[]
def TY (ρ:Type):Env ρ:=ä aah (WJ ρ)
def yB:á:=⟨[Â],[aj],fun(x:Val Â)=>rA x⟩
def ky:Tpl:=⟨13,[.any,.any,.box 2 0],[.cells [.con tI,.con tI,.con ag,.con ab,.con ah,.con ae,.con ab,.con ai],.dead,.cells [.own 3],.rowv af]⟩
def oo (ρ:Type):EF ρ:=⟨[1,3,1,1],230,0,3,[tI,tI,ag,ab,ah,ae,ab,ai],[aj],ky,pK,fun(p:Val ac) (v:Val aj) y a=>Bf v y (fun b=>a b)⟩
def JE (ρ:Type):List (EF ρ):=[oo ρ]
def Wy:List (Nat×á):=[]
def Wx:List (Nat×ZD):=[(233,.row ě)]
def GK (ρ:Type):List (ß ρ):=[]
def iX (ρ:Type):Env ρ:={YN Wy (GK ρ) Wx with ranges:=Ζ (JE ρ)}
def oh:á:=⟨[Â],[af,.bool],fun(x:Val Â)=>ú x⟩
def CS:Ç:=Ls 1 [aj,tI,tI,tI,ag,ab,ah,ae,ab,ai] [tI] ⟨21,.any::.fn 159 [(0,0)]::aN 7 [.con aj,.con tI,.var tI],[bv]⟩ [(.ret,⟨21,[.any,.fn 159 [(0,0)],.any,.any,.var af,.var .bool,.any,.any,.any,.con aj,.con tI],[bv]⟩,[af,.bool]),(.exit 0,⟨21,.any::.fn 159 [(0,0)]::aN 7 [.con aj,.con tI],[bv]⟩,[])]
def qI (ρ:Type):ß ρ:=⟨[1,3],99,0,CS,fun(p:Val (.pair aj az)) (v:Val tI) b a=>let A:=p.2.2.2.2;jK p.1 p.2.1 p.2.2.1 p.2.2.2.1 A.1 A.2.1 A.2.2.1 A.2.2.2.1 A.2.2.2.2.1 A.2.2.2.2.2 v (fun c=>b c) (a 0) (a 1)⟩
def HB:List (Nat×á):=[(79,mF),(96,yB)]
def E8 (ρ:Type):List (ß ρ):=[qI ρ]
def pm (ρ:Type):Env ρ:=ä HB (E8 ρ)
def Jg:á:=⟨[Â],[af,tI],fun(x:Val Â)=>yd x⟩
def TU:List (Nat×á):=[(80,iD),(82,oh)]
def Ql (ρ:Type):List (ß ρ):=[]
def J6 (ρ:Type):Env ρ:=ä TU (Ql ρ)
def ug:á:=⟨[aa,aa],[.bool],fun(x:Val (.pair aa aa))=>i9 x.1 x.2⟩
def C7:Ç:=Ls 0 [aa,aa] [tI] ⟨26,[.con aa,.con aa,.any,.any,.any,.var tI],[]⟩ [(.ret,⟨26,[.con aa,.con aa,.any,.any,.var .bool],[]⟩,[.bool]),(.exit 0,⟨26,[.con aa,.con aa],[]⟩,[])]
def qR (ρ:Type):ß ρ:=⟨[],35,0,C7,fun(p:Val (.pair aa aa)) (v:Val tI) b a=>jM p.1 p.2 v (fun c=>b c) (a 0) (a 1)⟩
def HP:List (Nat×á):=[]
def Fp (ρ:Type):List (ß ρ):=[qR ρ]
def pE (ρ:Type):Env ρ:=ä HP (Fp ρ)
def GD:á:=⟨[af,af],[.bool],fun(x:Val (.pair af af))=>rD x.1 x.2⟩
def Fo:Ç:=Ls 0 [af,af] [tI] ⟨29,[.con af,.con af,.any,.any,.any,.var tI],[]⟩ [(.ret,⟨29,[.con af,.con af,.any,.any,.var .bool],[]⟩,[.bool]),(.exit 0,⟨29,[.con af,.con af],[]⟩,[])]
def tg (ρ:Type):ß ρ:=⟨[],26,0,Fo,fun(p:Val (.pair af af)) (v:Val tI) b a=>kK p.1 p.2 v (fun c=>b c) (a 0) (a 1)⟩
def Kd:List (Nat×á):=[(35,ug)]
def HN (ρ:Type):List (ß ρ):=[tg ρ]
def rV (ρ:Type):Env ρ:=ä Kd (HN ρ)
def Cm:á:=⟨[Â,tI,tI],[tI],fun(x:Val (.pair Â Ä))=>tO x.1 x.2.1 x.2.2⟩
def zY:Ç:=Ls 2 [ag,tI,tI,tI,ag,ab,ah,ae,ab,ai,tI] [tI] ⟨19,.con ag::.fn 169 [(1,0)]::aN 5 [.con tI,.var tI],[bv,bt]⟩ [(.ret,⟨19,[.con ag,.fn 169 [(1,0)],.any,.any,.var tI,.any,.any,.con tI],[bv,bt]⟩,[tI]),(.exit 0,⟨19,.con ag::.fn 169 [(1,0)]::aN 5 [.con tI],[bv,bt]⟩,[])]
def zX (ρ:Type):ß ρ:=⟨[3,4,1,2],229,0,zY,fun(p:Val (tyL zY.cs)) (v:Val tI) b a=>qG p.1 p.2.1 p.2.2.2.2.2.2.2.2.2.2 v (fun c=>b c) (a 0) (a 1)⟩
def TL:List (Nat×á):=[]
def P9 (ρ:Type):List (ß ρ):=[zX ρ]
def Bq (ρ:Type):Env ρ:=ä TL (P9 ρ)
def Ot:á:=⟨[aa,aa],[aa,aa,tI],fun(x:Val (.pair aa aa))=>oW x.1 x.2⟩
def Rl:List (Nat×á):=[(148,Ct),(172,EV)]
def NP (ρ:Type):List (ß ρ):=[]
def G0 (ρ:Type):Env ρ:=ä Rl (NP ρ)
def Cn:á:=⟨[Â,tI],[.bool,tI],fun(x:Val (.pair Â tI))=>oB x.1 x.2⟩
def qN:Ç:=Ls 6 [tI,tI,tI,ag,ab,ah,ae,ab,ai,tI,tI,tI,ag,ab,ah,ae,ab,ai,tI,tI,ae] [tI] ⟨19,.own 5::.fn 171 [(3,0)]::aN 5 [.con tI,.var tI],cj⟩ [(.ret,⟨19,[.own 5,.fn 171 [(3,0)],.any,.any,.var tI,.any,.any,.con tI],cj⟩,[tI]),(.exit 0,⟨19,.own 5::.fn 171 [(3,0)]::aN 5 [.con tI],cj⟩,[])]
def qM (ρ:Type):ß ρ:=⟨[7,2,1,5,1,2],175,0,qN,fun(p:Val (tyL qN.cs)) (v:Val tI) b a=>jL p.1 p.2.2.2.2.2.2.2.2.2.1 p.2.2.2.2.2.2.2.2.2.2.2.2.2.2.2.2.2.2.2.2 v (fun c=>b c) (a 0) (a 1)⟩
def qL:Ç:=Ls 6 [tI,tI,ag,ab,ah,ae,ab,ai,tI,tI,tI,ag,ab,ah,ae,ab,ai,tI,tI] [tI,tI,ae] ⟨42,[.own 5,.fn 171 [(3,0)],.any,.any,.any,.var tI,.var tI],[bv,bt,bv,bP,bQ,.rowv â]⟩ [(.exit 0,⟨42,[.own 5,.fn 171 [(3,0)],.any,.any,.any,.var tI],[bv,bt,bv,bP,bQ,.rowv â]⟩,[tI,ae])]
def qK (ρ:Type):ß ρ:=⟨[7,2,1,5],151,0,qL,fun(p:Val (tyL qL.cs)) (v:Val (.pair tI aT)) a b=>Β p.2.2.2.2.2.2.2.2.1 v.1 v.2.1 v.2.2 (fun c d e=>a (c,d,e)) (b 0)⟩
def HD:List (Nat×á):=[(80,iD),(82,oh),(88,Cm),(91,Ot),(92,Ļ)]
def Ff (ρ:Type):List (ß ρ):=[qM ρ,qK ρ]
def kB (ρ:Type):Env ρ:=ä HD (Ff ρ)
def PK:á:=⟨[Â,aa],[Â],fun(x:Val (.pair Â aa))=>yU x.1 x.2⟩
def CL:Ç:=Ls 7 [tI,tI,tI,ag,ab,ah,ae,ab,ai,aa,tI,tI,tI,tI,ag,ab,ah,ae,ab,ai,tI,tI,ae] [tI] ⟨19,.own 6::.fn 171 [(4,0)]::aN 5 [.con tI,.var tI],cm⟩ [(.ret,⟨19,[.own 6,.fn 171 [(4,0)],.any,.any,.var tI,.any,.any,.con tI],cm⟩,[tI]),(.exit 0,⟨19,.own 6::.fn 171 [(4,0)]::aN 5 [.con tI],cm⟩,[])]
def CJ (ρ:Type):ß ρ:=⟨[1,2,1,5,1,2],175,0,CL,fun(p:Val (tyL CL.cs)) (v:Val tI) b a=>ur p.1 p.2.2.2.2.2.2.2.2.2.1 p.2.2.2.2.2.2.2.2.2.2.2.2.2.2.2.2.2.2.2.2.2.2 v (fun c=>b c) (a 0) (a 1)⟩
def CI:Ç:=Ls 7 [tI,tI,ag,ab,ah,ae,ab,ai,aa,tI,tI,tI,tI,ag,ab,ah,ae,ab,ai,tI,tI] [tI,tI,ae] ⟨42,[.own 6,.fn 171 [(4,0)],.any,.any,.any,.var tI,.var tI],[bv,bo,bQ,bv,bR,bQ,.rowv â]⟩ [(.exit 0,⟨42,[.own 6,.fn 171 [(4,0)],.any,.any,.any,.var tI],[bv,bo,bQ,bv,bR,bQ,.rowv â]⟩,[tI,ae])]
def CH (ρ:Type):ß ρ:=⟨[1,2,1,5],151,0,CI,fun(p:Val (tyL CI.cs)) (v:Val (.pair tI aT)) a b=>lS p.2.2.2.2.2.2.2.2.1 v.1 v.2.1 v.2.2 (fun c d e=>a (c,d,e)) (b 0)⟩
def Wz:List (Nat×á):=[(92,Ļ)]
def TJ (ρ:Type):List (ß ρ):=[CJ ρ,CH ρ]
def yE (ρ:Type):Env ρ:=ä Wz (TJ ρ)
def Yz:á:=⟨[Â],[aa,tI],fun(x:Val Â)=>IF x⟩
def Qp:Ç:=Ls 0 [ae,tI,tI,tI,ag,ab,ah,ae,ab,ai] [tI,aa] ⟨66,.any::.box 0 0::aN 5 (.own 1::aN 19 [.con ae,.con tI,.var tI]),[bv,.rowv tI]⟩ [(.exit 0,⟨66,.any::.box 0 0::aN 5 (.own 1::aN 19 [.con ae,.con tI]),[bv,.rowv tI]⟩,[aa])]
def C3 (ρ:Type):ß ρ:=⟨[],29,0,Qp,fun(p:Val (.pair ae az)) (v:Val ŏ) a b=>uA p.1 p.2.1 v.1 v.2 (fun c d=>a (c,d)) (b 0)⟩
def Qo:Ç:=Ls 0 [tI,tI,ag,ab,ah,ae,ab,ai] [aa,tI] ⟨66,.any::.box 0 0::aN 5 [.var aa,.any,.any,.var tI],[bv]⟩ [(.exit 2,⟨66,.any::.box 0 0::aN 5 [.var aa],[bv]⟩,[aa])]
def C2 (ρ:Type):ß ρ:=⟨[],29,2,Qo,fun(p:Val ac) (v:Val aw) a b=>let A:=p.2.2.2.2;pn p.1 p.2.1 p.2.2.1 p.2.2.2.1 A.1 A.2.1 A.2.2.1 A.2.2.2 v.1 v.2 (fun c d=>a (c,d)) (b 0)⟩
def WI:List (Nat×á):=[(80,iD),(82,oh),(87,PK),(93,ix)]
def TV (ρ:Type):List (ß ρ):=[C3 ρ,C2 ρ]
def yF (ρ:Type):Env ρ:=ä WI (TV ρ)
def On:á:=⟨[aa,tI],[aa],fun(x:Val aw)=>ik x.1 x.2⟩
def J0:Ç:=Ls 0 [tI,aa,tI] [tI,aa] ⟨26,[.any,.con tI,.any,.any,.any,.own 0,.any,.any,.con aa,.con tI,.var tI],bW⟩ [(.exit 0,⟨26,[.any,.con tI,.any,.any,.any,.own 0,.any,.any,.con aa,.con tI],bW⟩,[aa])]
def xg (ρ:Type):ß ρ:=⟨[],98,0,J0,fun(p:Val (.pair tI aw)) (v:Val ŏ) a b=>ot p.1 p.2.1 p.2.2 v.1 v.2 (fun c d=>a (c,d)) (b 0)⟩
def Qf:List (Nat×á):=[]
def MZ (ρ:Type):List (ß ρ):=[xg ρ]
def xh (ρ:Type):Env ρ:=ä Qf (MZ ρ)
def GA:á:=⟨[Â,aa],[aa,tI],fun(x:Val (.pair Â aa))=>rB x.1 x.2⟩
def sS:Ç:=Ls 3 [ae,tI,tI,tI,ag,ab,ah,ae,ab,ai,aa,tI] [tI] ⟨19,.con ae::.fn 95 [(2,0)]::aN 5 [.con tI,.var tI],[bv,bo,bt]⟩ [(.ret,⟨19,[.con ae,.fn 95 [(2,0)],.any,.any,.var tI,.any,.any,.con tI],[bv,bo,bt]⟩,[tI]),(.exit 0,⟨19,.con ae::.fn 95 [(2,0)]::aN 5 [.con tI],[bv,bo,bt]⟩,[])]
def sR (ρ:Type):ß ρ:=⟨[9,4,1,2],175,0,sS,fun(p:Val (tyL sS.cs)) (v:Val tI) b a=>kD p.1 p.2.1 p.2.2.2.2.2.2.2.2.2.2.2 v (fun c=>b c) (a 0) (a 1)⟩
def sX:Ç:=Ls 0 [aa,tI,tI,tI,ag,ab,ah,ae,ab,ai,aa] [tI] ⟨135,aN 2 (.box 0 0::.box 1 0::aN 28 [.con aa,.con tI,.var tI]),[bv,bo]⟩ [(.ret,⟨135,aN 2 (.box 0 0::.box 1 0::.nils::.var tI::aN 26 [.con aa,.con tI]),[bv,bo]⟩,[tI]),(.exit 0,⟨135,aN 2 (.box 0 0::.box 1 0::aN 28 [.con aa,.con tI]),[bv,bo]⟩,[])]
def sW (ρ:Type):ß ρ:=⟨[],30,0,sX,fun(p:Val (tyL sX.cs)) (v:Val tI) b a=>κ p.1 p.2.1 p.2.2.2.2.2.2.2.1 v (fun c=>b c) (a 0) (a 1)⟩
def sQ:Ç:=Ls 0 [tI,tI,ag,ab,ah,ae,ab,ai,aa] [tI] ⟨135,aN 2 (.box 0 0::.box 1 0::aN 5 [.var tI]),[bv,bo]⟩ [(.ret,⟨135,[.any,.any,.box 0 0,.box 1 0,.nils,.var tI],[bv,bo]⟩,[tI]),(.exit 2,⟨135,[.any,.any,.box 0 0,.box 1 0],[bv,bo]⟩,[])]
def sP (ρ:Type):ß ρ:=⟨[],30,2,sQ,fun(p:Val (tyL sQ.cs)) (v:Val tI) b a=>iG p.2.2.2.2.2.2.2.2 v (fun c=>b c) (a 0) (a 1)⟩
def sO:Ç:=Ls 4 [aj,tI,tI,tI,ag,ab,ah,ae,ab,ai,aa,tI] [tI] ⟨21,.any::.fn 100 [(3,0),(2,0)]::aN 7 [.con aj,.con tI,.var tI],[bv,bo,bt,bS]⟩ [(.ret,⟨21,[.any,.fn 100 [(3,0),(2,0)],.any,.any,.var af,.var .bool,.any,.any,.any,.con aj,.con tI],[bv,bo,bt,bS]⟩,[af,.bool]),(.exit 0,⟨21,.any::.fn 100 [(3,0),(2,0)]::aN 7 [.con aj,.con tI],[bv,bo,bt,bS]⟩,[])]
def sN (ρ:Type):ß ρ:=⟨[21,2],99,0,sO,fun(p:Val (tyL sO.cs)) (v:Val tI) b a=>let A:=p.2.2.2.2;let B:=A.2.2.2.2;iF p.1 p.2.1 p.2.2.1 p.2.2.2.1 A.1 A.2.1 A.2.2.1 A.2.2.2.1 B.1 B.2.1 B.2.2.1 B.2.2.2 v (fun c=>b c) (a 0) (a 1)⟩
def sK:Ç:=Ls 4 [aa,aa,aa,tI,aa,aa,tI,tI,ag,ab,ah,ae,ab,ai] [tI] ⟨36,.con aa::.con aa::aN 7 [.con aa,.con tI,.var tI],cn⟩ [(.ret,⟨36,.con aa::.con aa::aN 2 (.var tI::aN 4 [.con aa,.con tI]),cn⟩,[tI]),(.exit 0,⟨36,.con aa::.con aa::aN 7 [.con aa,.con tI],cn⟩,[])]
def sJ (ρ:Type):ß ρ:=⟨[29,14],101,0,sK,fun(p:Val (tyL sK.cs)) (v:Val tI) b a=>ų p.2.1 p.2.2.1 p.2.2.2.1 v (fun c=>b c) (a 0) (a 1)⟩
def sI:Ç:=Ls 0 [aj,aa,tI,tI,aa,tI,tI,tI,aa,aa,tI,tI,ag,ab,ah,ae,ab,ai] [tI] ⟨135,aN 3 (.box 0 0::aN 6 (.con aj::.any::.box 1 0::.own 2::aN 2 (.con aa::.con tI::.con tI::.con aa::aN 57 (.con tI::.con tI::aN 23 [.own 2,.con tI,.var tI])))),cn⟩ [(.exit 5,⟨135,aN 3 (.box 0 0::aN 6 (.con aj::.any::.box 1 0::.own 2::aN 2 (.con aa::.con tI::.con tI::.con aa::aN 57 (.con tI::.con tI::aN 23 [.own 2,.con tI])))),cn⟩,[]),(.exit 6,⟨135,aN 3 (.box 0 0::aN 6 (.con aj::.any::.box 1 0::.own 2::aN 2 (.con aa::.con tI::.con tI::.con aa::aN 57 (.con tI::.con tI::aN 23 [.own 2,.con tI])))),cn⟩,[])]
def sH (ρ:Type):ß ρ:=⟨[],30,6,sI,fun(p:Val (tyL sI.cs)) (v:Val tI) b a=>Ŕ p.2.2.2.1 p.2.2.2.2.2.2.2.1 p.2.2.2.2.2.2.2.2.2.1 v (fun c=>b c) (a 0) (a 1)⟩
def sG:Ç:=Ls 0 [aj,aa,tI,tI,aa,tI,tI,aj,tI,aa,tI,tI,ag,ab,ah,ae,ab,ai] [tI,aa] ⟨135,aN 3 (.box 0 0::aN 6 (.con aj::.any::.box 1 0::.own 2::aN 2 (.con aa::.con tI::.con tI::.con aa::aN 57 (.con tI::.con tI::aN 34 [.con aj,.con tI,.var tI])))),cp⟩ [(.exit 5,⟨135,aN 3 (.box 0 0::aN 6 (.con aj::.any::.box 1 0::.own 2::aN 2 (.con aa::.con tI::.con tI::.con aa::aN 57 (.con tI::.con tI::aN 34 [.con aj,.con tI])))),cp⟩,[aa]),(.exit 8,⟨135,aN 3 (.box 0 0::aN 6 (.con aj::.any::.box 1 0::.own 2::aN 2 (.con aa::.con tI::.con tI::.con aa::aN 57 (.con tI::.con tI::aN 34 [.con aj,.con tI])))),cp⟩,[aa])]
def sF (ρ:Type):ß ρ:=⟨[],30,8,sG,fun(p:Val (tyL sG.cs)) (v:Val ŏ) b a=>let A:=p.2.2.2.2.2.2.2;let B:=A.2.2.2.2;let C:=B.2.2.2.2;œ p.2.2.2.1 A.1 A.2.1 A.2.2.1 A.2.2.2.1 B.1 B.2.1 B.2.2.1 B.2.2.2.1 C.1 C.2.1 C.2.2 v.1 v.2 (fun c d=>b (c,d)) (a 0) (a 1)⟩
def sM:Ç:=Ls 0 [aj,tI,aa,tI,tI,ag,ab,ah,ae,ab,ai] [aa,tI,tI,aa] ⟨135,aN 3 (.box 0 0::aN 6 (.con aj::.any::.box 1 0::.own 2::aN 2 (.var aa::.var tI::aN 59 [.con tI,.var tI]))),cp⟩ [(.exit 4,⟨135,aN 3 (.box 0 0::aN 6 (.con aj::.any::.box 1 0::.own 2::aN 3 (.var tI::aN 59 [.con tI]))),cp⟩,[tI,aa])]
def sL (ρ:Type):ß ρ:=⟨[],30,4,sM,fun(p:Val (tyL sM.cs)) (v:Val (.pair aa aQ)) a b=>let A:=p.2.2.2.2;let B:=A.2.2.2.2;Ŵ p.1 p.2.1 p.2.2.1 p.2.2.2.1 A.1 A.2.1 A.2.2.1 A.2.2.2.1 B.1 B.2.1 B.2.2 v.1 v.2.1 v.2.2.1 v.2.2.2 (fun c d e f=>a (c,d,e,f)) (b 0)⟩
def J3:List (Nat×á):=[(79,mF),(80,iD),(87,PK),(96,yB),(98,On),(180,lO)]
def HF (ρ:Type):List (ß ρ):=[sR ρ,sW ρ,sP ρ,sN ρ,sJ ρ,sH ρ,sF ρ,sL ρ]
def į (ρ:Type):Env ρ:=ä J3 (HF ρ)
def PM:á:=⟨[Â],[aj,tI],fun(x:Val Â)=>vr x⟩
def WH:List (Nat×á):=[(80,iD),(96,yB)]
def TR (ρ:Type):List (ß ρ):=[]
def OE (ρ:Type):Env ρ:=ä WH (TR ρ)
def Tp:á:=⟨[É,Ä],[tI,tI],fun(x:Val aK)=>pR x.1 x.2⟩
def UE:List (Nat×á):=[(72,pe),(135,ů),(136,Cs)]
def Ri (ρ:Type):List (ß ρ):=[]
def K6 (ρ:Type):Env ρ:=ä UE (Ri ρ)
def YF:á:=⟨[É,Ä],[É,tI],fun(x:Val aK)=>IJ x.1 x.2⟩
def DW:Ç:=Ls 6 [tI,tI,tI,ag,ab,ah,ae,ab,tI,tI,tI,tI,tI,tI,ag,ab,ah,ae,ab,tI,tI,tI,tI,ae,tI,tI,ag,ab,ah,ab] [tI,ae] ⟨50,.any::.box 6 0::.box 7 0::.own 8::aN 21 [.own 8,.con tI,.var tI],cq⟩ [(.exit 0,⟨50,.any::.box 6 0::.box 7 0::.own 8::aN 21 [.own 8,.con tI],cq⟩,[ae])]
def DU (ρ:Type):ß ρ:=⟨[1,2,4,1],202,0,DW,fun(p:Val (tyL DW.cs)) (v:Val aT) a b=>vk p.1 v.1 v.2 (fun c d=>a (c,d)) (b 0)⟩
def Xh:List (Nat×á):=[(72,pe)]
def UC (ρ:Type):List (ß ρ):=[DU ρ]
def FQ (ρ:Type):Env ρ:=ä Xh (UC ρ)
def Ji:á:=⟨[Ë,aa],[tI],fun(x:Val aU)=>ye x.1 x.2⟩
def Ng:Ç:=Ls 0 [aa,tI,tI,ak] [tI] ⟨37,aN 2 (.box 0 0::aN 16 [.con aa,.con tI,.var tI]),[bK]⟩ [(.ret,⟨37,aN 2 (.box 0 0::.any::.var tI::aN 14 [.con aa,.con tI]),[bK]⟩,[tI]),(.exit 0,⟨37,aN 2 (.box 0 0::aN 16 [.con aa,.con tI]),[bK]⟩,[])]
def Ap (ρ:Type):ß ρ:=⟨[],133,0,Ng,fun(p:Val (.pair aa aL)) (v:Val tI) b a=>qS p.1 p.2.1 p.2.2.1 p.2.2.2 v (fun c=>b c) (a 0) (a 1)⟩
def T3:List (Nat×á):=[(126,sm),(127,qo),(196,PN)]
def Qy (ρ:Type):List (ß ρ):=[Ap ρ]
def By (ρ:Type):Env ρ:=ä T3 (Qy ρ)
def EU:á:=⟨[Ë,ao,tI],[aa],fun(x:Val (.pair Ë (.pair ao tI)))=>oV x.1 x.2.1 x.2.2⟩
def xG:Ç:=Ls 0 [ao,tI,tI,tI,ak] [tI,aa] ⟨29,.any::.con ao::.con tI::.box 0 0::aN 3 (.own 1::aN 5 [.con tI,.var tI]),[bK,.rowv tI]⟩ [(.exit 0,⟨29,.any::.con ao::.con tI::.box 0 0::aN 3 (.own 1::aN 5 [.con tI]),[bK,.rowv tI]⟩,[aa])]
def xF (ρ:Type):ß ρ:=⟨[],134,0,xG,fun(p:Val (tyL xG.cs)) (v:Val ŏ) a b=>ow p.2.2.1 v.1 v.2 (fun c d=>a (c,d)) (b 0)⟩
def xE:Ç:=Ls 2 [ao,ak,tI,tI,ak,aa,tI,ak,aq,aa] [tI,tI] ⟨140,.any::.con ao::.own 1::.box 2 0::aN 3 (.box 3 0::.own 4::.own 5::.var tI::aN 14 [.con ak,.con tI,.var tI]),[bK,.rowc tI,bK,.cells [.nils],.rowc .bool,.rowc tI]⟩ [(.exit 0,⟨140,.any::.con ao::.own 1::.box 2 0::aN 3 (.box 3 0::.own 4::.own 5::.var tI::aN 14 [.con ak,.con tI]),[bK,.rowc tI,bK,.cells [.nils],.rowc .bool,.rowc tI]⟩,[tI])]
def xD (ρ:Type):ß ρ:=⟨[8,3],197,0,xE,fun(p:Val (tyL xE.cs)) (v:Val Ä) a b=>uM p.2.1 p.2.2.1 v.1 v.2 (fun c d=>a (c,d)) (b 0)⟩
def xC:Ç:=Ls 2 [ao,tI,tI,tI,ak,aa,tI,ak,aa] [tI,aq,aa] ⟨140,.any::.con ao::.own 1::.box 2 0::aN 3 (.box 3 0::.own 4::.own 5::.con tI::aN 27 [.con tI,.var tI]),ca⟩ [(.exit 2,⟨140,.any::.con ao::.own 1::.box 2 0::aN 3 (.box 3 0::.own 4::.own 5::.con tI::aN 27 [.con tI]),ca⟩,[aq,aa])]
def xB (ρ:Type):ß ρ:=⟨[8,3],197,2,xC,fun(p:Val (tyL xC.cs)) (v:Val (.pair tI aM)) a b=>uL p.2.2.1 p.2.2.2.2.2.1 v.1 v.2.1 v.2.2 (fun c d e=>a (c,d,e)) (b 0)⟩
def xz:Ç:=Ls 2 [ao,tI,tI,ak,tI,tI,ak,tI,ak,aa] [tI,aa,aq,aa] ⟨140,.any::.con ao::.own 1::.box 2 0::aN 3 (.box 3 0::.own 4::.own 5::.con tI::aN 3 (.con tI::aN 62 [.con ak,.con tI,.var tI])),cd⟩ [(.ret,⟨140,.any::.con ao::.own 1::.box 2 0::aN 2 (.var .bool::.box 3 0::.own 4::.own 5::.con tI::aN 3 (.con tI::aN 62 [.con ak,.con tI])),cd⟩,[.bool,aa,aq,aa]),(.exit 6,⟨140,.any::.con ao::.own 1::.box 2 0::aN 3 (.box 3 0::.own 4::.own 5::.con tI::aN 3 (.con tI::aN 62 [.con ak,.con tI])),cd⟩,[aa,aq,aa])]
def xy (ρ:Type):ß ρ:=⟨[8,3],197,6,xz,fun(p:Val (tyL xz.cs)) (v:Val (.pair tI (.pair aa aM))) b a=>Dg p.1 p.2.1 p.2.2.1 p.2.2.2.1 p.2.2.2.2.1 v.1 v.2.1 v.2.2.1 v.2.2.2 (fun c d e f=>b (c,d,e,f)) (a 0) (a 1)⟩
def Kj:Ç:=Ls 2 [ao,tI,tI,ak,tI,ak] [aa,aq,aa,aa] ⟨140,[.any,.con ao,.own 1,.box 2 0,.any,.any,.any,.box 3 0,.own 4,.own 5,.con tI],ce⟩ [(.ret,⟨140,[.any,.con ao,.own 1,.box 2 0,.any,.any,.var .bool,.box 3 0,.own 4,.own 5,.con tI],ce⟩,[.bool,aa,aq,aa,aa])]
def xA (ρ:Type):ß ρ:=⟨[8,3],197,4,Kj,fun(p:Val (.pair ao bn)) (v:Val aO) a b=>uK p.1 p.2.1 p.2.2.2.2.1 p.2.2.2.2.2 v.1 v.2.1 v.2.2.1 v.2.2.2 (fun c d e f=>a (c,d,e,f)) (b 0)⟩
def Qx:List (Nat×á):=[]
def Nd (ρ:Type):List (ß ρ):=[xF ρ,xD ρ,xB ρ,xy ρ,xA ρ]
def iM (ρ:Type):Env ρ:=ä Qx (Nd ρ)
def Ti:á:=⟨[Ë],[ab,tI],fun(x:Val Ë)=>tP x⟩
def Ni:Ç:=Ls 1 [aa,tI,tI,ak,tI,ak] [tI,aa] ⟨28,.any::.box 1 0::aN 2 (.con aa::.own 2::aN 7 [.con tI,.var tI]),[bK,bK,.rowv tI]⟩ [(.exit 0,⟨28,.any::.box 1 0::aN 2 (.con aa::.own 2::aN 7 [.con tI]),[bK,bK,.rowv tI]⟩,[aa])]
def Ar (ρ:Type):ß ρ:=⟨[4,1],237,0,Ni,fun(p:Val (.pair aa bn)) (v:Val ŏ) a b=>qU p.2.1 p.2.2.2.2.1 p.2.2.2.2.2 v.1 v.2 (fun c d=>a (c,d)) (b 0)⟩
def Nh:Ç:=Ls 0 [aa,tI,aa] [tI,ab] ⟨39,aN 5 (.con aa::.own 0::.own 1::aN 12 [.con tI,.var tI]),[.rowc tI,.rowv Ä]⟩ [(.exit 0,⟨39,aN 5 (.con aa::.own 0::.own 1::aN 12 [.con tI]),[.rowc tI,.rowv Ä]⟩,[ab])]
def Aq (ρ:Type):ß ρ:=⟨[],185,0,Nh,fun(p:Val aV) (v:Val aY) a b=>qT p.1 p.2.1 p.2.2 v.1 v.2 (fun c d=>a (c,d)) (b 0)⟩
def T4:List (Nat×á):=[(133,Ji),(134,EU)]
def QA (ρ:Type):List (ß ρ):=[Ar ρ,Aq ρ]
def uN (ρ:Type):Env ρ:=ä T4 (QA ρ)
def Om:á:=⟨[É,Ä],[Ä,tI],fun(x:Val aK)=>yV x.1 x.2⟩
def P8:List (Nat×á):=[(66,oQ),(68,Tp),(69,YF),(185,Ti)]
def MN (ρ:Type):List (ß ρ):=[]
def GN (ρ:Type):Env ρ:=ä P8 (MN ρ)
def Oo:á:=⟨[Â,tI,tI],[ak,tI],fun(x:Val (.pair Â Ä))=>yW x.1 x.2.1 x.2.2⟩
def xp:Ç:=Ls 0 [tI,tI,aj,tI,tI,tI,ag,ab,ah,ae,ab,ai] [tI,aR] ⟨113,.any::.con tI::.con tI::.box 0 0::aN 7 (.omp 1::aN 30 [.con aj,.con tI,.var tI]),[bv,.mapv tI Ä]⟩ [(.ret,⟨113,.any::.con tI::.con tI::.box 0 0::aN 2 (.nils::.var tI::aN 3 (.omp 1::aN 30 [.con aj,.con tI])),[bv,.mapv tI Ä]⟩,[tI,aR]),(.exit 0,⟨113,.any::.con tI::.con tI::.box 0 0::aN 7 (.omp 1::aN 30 [.con aj,.con tI]),[bv,.mapv tI Ä]⟩,[aR])]
def xo (ρ:Type):ß ρ:=⟨[],42,0,xp,fun(p:Val (tyL xp.cs)) (v:Val (.pair tI aR)) b a=>let A:=p.2.2.2.2;let B:=A.2.2.2.2;ov p.1 p.2.1 p.2.2.1 p.2.2.2.1 A.1 A.2.1 A.2.2.1 A.2.2.2.1 B.1 B.2.1 B.2.2.1 B.2.2.2 v.1 v.2 (fun c d=>b (c,d)) (a 0) (a 1)⟩
def xn:Ç:=Ls 0 [ag,tI,aR] [tI,ak] ⟨113,aN 11 (.omp 0::aN 7 (.own 1::aN 70 [.con ag,.con tI,.var tI])),[.mapc tI Ä,.rowv Œ]⟩ [(.exit 2,⟨113,aN 11 (.omp 0::aN 7 (.own 1::aN 70 [.con ag,.con tI])),[.mapc tI Ä,.rowv Œ]⟩,[ak])]
def xm (ρ:Type):ß ρ:=⟨[],42,2,xn,fun(p:Val (tyL xn.cs)) (v:Val Ë) a b=>ou p.1 p.2.1 p.2.2 v.1 v.2 (fun c d=>a (c,d)) (b 0)⟩
def Qn:List (Nat×á):=[(80,iD),(81,PL),(88,Cm),(104,gQ),(105,Je),(106,Om)]
def M5 (ρ:Type):List (ß ρ):=[xo ρ,xm ρ]
def qP (ρ:Type):Env ρ:=ä Qn (M5 ρ)
def Tf:á:=⟨[Â,af],[.bool],fun(x:Val aI)=>Ef x.1 x.2⟩
def ju:Tpl:=⟨13,[.any,.any,.box 2 0],[.cells [.con tI,.con tI,.con ag,.con ab,.con ah,.con ae,.con ab,.con ai],.dead,.cells [.own 3],.rowv tI]⟩
def mr (ρ:Type):EF ρ:=⟨[7,8,1,1,1,1],298,0,3,[tI,tI,ag,ab,ah,ae,ab,ai],[aa],ju,D0,fun(p:Val ac) (v:Val aa) y a=>xa v y (fun b=>a b)⟩
def MP:Ç:=Ls 0 [af,tI,tI,tI,ag,ab,ah,ae,ab,ai] [tI] ⟨42,aN 2 (.box 0 0::aN 11 [.con af,.con tI,.var tI]),[bv]⟩ [(.ret,⟨42,aN 2 (.box 0 0::.any::.var .bool::aN 9 [.con af,.con tI]),[bv]⟩,[.bool]),(.exit 0,⟨42,aN 2 (.box 0 0::aN 11 [.con af,.con tI]),[bv]⟩,[])]
def zZ (ρ:Type):ß ρ:=⟨[],154,0,MP,fun(p:Val (.pair af az)) (v:Val tI) b a=>qH p.1 p.2.1 p.2.2.2.2.2.2.2.2.2 v (fun c=>b c) (a 0) (a 1)⟩
def GO (ρ:Type):List (EF ρ):=[mr ρ]
def TM:List (Nat×á):=[(220,Te)]
def CM (ρ:Type):List (ß ρ):=[zZ ρ]
def Ν (ρ:Type):Env ρ:={ä TM (CM ρ) with ranges:=Ζ (GO ρ)}
def wG:á:=⟨[Â,af],[tI],fun(x:Val aI)=>pO x.1 x.2⟩
def TP:List (Nat×á):=[(80,iD),(154,Tf)]
def Qg (ρ:Type):List (ß ρ):=[]
def J1 (ρ:Type):Env ρ:=ä TP (Qg ρ)
def abW:á:=⟨[Â,af,tI,tI],[tI,tI],fun(x:Val ba)=>RI x.1 x.2.1 x.2.2.1 x.2.2.2⟩
def aag:List (Nat×á):=[(78,wG),(88,Cm),(105,Je)]
def WE (ρ:Type):List (ß ρ):=[]
def TQ (ρ:Type):Env ρ:=ä aag (WE ρ)
def Th:á:=⟨[Ë,tI,tI],[af],fun(x:Val (.pair Ë Ä))=>Ei x.1 x.2.1 x.2.2⟩
def OP:Ç:=Ls 0 [tI,tI,tI,tI,ak] [tI,aa] ⟨45,.any::.con tI::.con tI::.box 0 0::aN 3 (.own 1::aN 7 [.con tI,.var tI]),[bK,.rowv tI]⟩ [(.exit 0,⟨45,.any::.con tI::.con tI::.box 0 0::aN 3 (.own 1::aN 7 [.con tI]),[bK,.rowv tI]⟩,[aa])]
def OO (ρ:Type):ß ρ:=⟨[],128,0,OP,fun(p:Val (tyL OP.cs)) (v:Val ŏ) a b=>yG p.2.2.1 v.1 v.2 (fun c d=>a (c,d)) (b 0)⟩
def OK:Ç:=Ls 4 [aa,tI,af,tI,ak] [tI,aa] ⟨53,.con aa::.box 1 0::aN 2 (.own 4::aN 7 [.con tI,.var tI]),cr⟩ [(.exit 0,⟨53,.con aa::.box 1 0::aN 2 (.own 4::aN 7 [.con tI]),cr⟩,[aa])]
def OJ (ρ:Type):ß ρ:=⟨[12,8],198,0,OK,fun(p:Val (tyL OK.cs)) (v:Val ŏ) a b=>Qw p.2.1 v.1 v.2 (fun c d=>a (c,d)) (b 0)⟩
def OI:Ç:=Ls 4 [aa,ak,tI,af,tI,ak] [tI,aa] ⟨53,.con aa::aN 3 (.own 4::aN 16 [.con ak,.con tI,.var tI]),cr⟩ [(.exit 2,⟨53,.con aa::aN 3 (.own 4::aN 16 [.con ak,.con tI]),cr⟩,[aa])]
def OH (ρ:Type):ß ρ:=⟨[12,8],198,2,OI,fun(p:Val (tyL OI.cs)) (v:Val ŏ) a b=>Df p.1 p.2.1 p.2.2.1 v.1 v.2 (fun c d=>a (c,d)) (b 0)⟩
def aai:Ç:=Ls 0 [tI,tI,ak] [tI,af] ⟨45,aN 9 (.own 0::.fn 198 [(1,0)]::aN 18 [.con tI,.var tI]),[.rowv aa,bK]⟩ [(.exit 2,⟨45,aN 9 (.own 0::.fn 198 [(1,0)]::aN 18 [.con tI]),[.rowv aa,bK]⟩,[af])]
def OM (ρ:Type):ß ρ:=⟨[],128,2,aai,fun(p:Val aL) (v:Val bc) a b=>Iw p.1 p.2.1 p.2.2 v.1 v.2 (fun c d=>a (c,d)) (b 0)⟩
def aeW:List (Nat×á):=[]
def acm (ρ:Type):List (ß ρ):=[OO ρ,OJ ρ,OH ρ,OM ρ]
def Fw (ρ:Type):Env ρ:=ä aeW (acm ρ)
def Tj:á:=⟨[Ë],[aa,tI],fun(x:Val Ë)=>ny x⟩
def Nl:Ç:=Ls 0 [tI,tI,ak] [tI,aj] ⟨93,.any::.box 0 0::aN 6 (.own 1::aN 24 [.con tI,.var tI]),[bK,.rowv af]⟩ [(.exit 0,⟨93,.any::.box 0 0::aN 6 (.own 1::aN 24 [.con tI]),[bK,.rowv af]⟩,[aj])]
def AD (ρ:Type):ß ρ:=⟨[],64,0,Nl,fun(p:Val aL) (v:Val aB) a b=>m8 p.1 p.2.1 p.2.2 v.1 v.2 (fun c d=>a (c,d)) (b 0)⟩
def Aw:Ç:=Ls 3 [tI,af,ak,tI,tI,ak,aj,tI,tI,tI,tI,ak] [tI,tI,tI,aa] ⟨73,.any::.var tI::.con tI::.con af::.fn 129 []::.box 3 0::aN 5 (.own 4::.var tI::aN 7 [.con ak,.con tI,.var tI]),cu⟩ [(.exit 2,⟨73,.any::.var tI::.con tI::.con af::.fn 129 []::.box 3 0::aN 5 (.own 4::.var tI::aN 7 [.con ak,.con tI]),cu⟩,[tI,tI,aa])]
def Au (ρ:Type):ß ρ:=⟨[22,10],130,2,Aw,fun(p:Val (tyL Aw.cs)) (v:Val (.pair tI aQ)) a b=>GQ p.1 p.2.1 p.2.2.1 p.2.2.2.1 v.1 v.2.1 v.2.2.1 v.2.2.2 (fun c d e f=>a (c,d,e,f)) (b 0)⟩
def Ay:Ç:=Ls 3 [af,tI,ak,aj,tI,tI,tI,tI,ak] [tI,tI,tI,aa] ⟨73,.any::.var tI::.var tI::.con af::.fn 129 []::.box 3 0::aN 5 [.own 4,.var tI],cu⟩ [(.exit 0,⟨73,aN 3 (.con af::.fn 129 []::.box 3 0::aN 5 [.own 4]),cu⟩,[aa])]
def Ax (ρ:Type):ß ρ:=⟨[22,10],130,0,Ay,fun(p:Val (tyL Ay.cs)) (v:Val (.pair tI aQ)) a b=>xI p.1 p.2.2.2.2.2.2.2.2 v.1 v.2.1 v.2.2.1 v.2.2.2 (fun c d e f=>a (c,d,e,f)) (b 0)⟩
def AA:Ç:=Ls 0 [tI,ak,tI,tI,ak,aj] [tI] ⟨93,.any::.box 0 0::aN 6 (.own 1::.any::.fn 129 []::.con tI::aN 37 [.con ak,.con tI,.var tI]),[bK,.rowc af]⟩ [(.exit 2,⟨93,.any::.box 0 0::aN 6 (.own 1::.any::.fn 129 []::.con tI::aN 37 [.con ak,.con tI]),[bK,.rowc af]⟩,[]),(.ret,⟨93,.any::.box 0 0::.own 2::.var tI::aN 4 (.own 1::.any::.fn 129 []::.con tI::aN 37 [.con ak,.con tI]),[bK,.rowc af,.rowv tI]⟩,[tI,aa]),(.exit 4,⟨93,.any::.box 0 0::aN 6 (.own 1::.any::.fn 129 []::.con tI::aN 37 [.con ak,.con tI]),[bK,.rowc af]⟩,[])]
def Az (ρ:Type):ß ρ:=⟨[],64,4,AA,fun(p:Val (tyL AA.cs)) (v:Val tI) b a=>mZ p.1 p.2.1 p.2.2.1 p.2.2.2.1 p.2.2.2.2.1 p.2.2.2.2.2 v (fun c=>b c) (a 0) (a 1) (a 2)⟩
def AC:Ç:=Ls 0 [tI,ak,aj] [tI] ⟨93,.any::.box 0 0::aN 6 [.own 1,.any,.fn 129 [],.var tI],[bK,.rowc af]⟩ [(.exit 2,⟨93,.any::.box 0 0::aN 6 [.own 1,.any,.fn 129 []],[bK,.rowc af]⟩,[]),(.ret,⟨93,.any::.box 0 0::.own 2::.var tI::aN 4 [.own 1,.any,.fn 129 []],[bK,.rowc af,.rowv tI]⟩,[tI,aa])]
def AB (ρ:Type):ß ρ:=⟨[],64,2,AC,fun(p:Val (tyL AC.cs)) (v:Val tI) b a=>qV p.1 p.2.1 p.2.2 v (fun c=>b c) (a 0) (a 1)⟩
def T7:List (Nat×á):=[(126,sm),(127,qo),(128,Th)]
def QE (ρ:Type):List (ß ρ):=[AD ρ,Au ρ,Ax ρ,Az ρ,AB ρ]
def jU (ρ:Type):Env ρ:=ä T7 (QE ρ)
def Jf:á:=⟨[Â],[af,tI],fun(x:Val Â)=>yc x⟩
def M4:Ç:=Ls 0 [aj,tI,tI,tI,ag,ab,ah,ae,ab,ai] [tI,af] ⟨46,.any::.box 0 0::aN 3 (.own 1::aN 13 [.con aj,.con tI,.var tI]),[bv,.rowv aa]⟩ [(.ret,⟨46,.any::.box 0 0::.nils::.var tI::.any::.own 1::aN 13 [.con aj,.con tI],[bv,.rowv aa]⟩,[tI,af]),(.exit 0,⟨46,.any::.box 0 0::aN 3 (.own 1::aN 13 [.con aj,.con tI]),[bv,.rowv aa]⟩,[af])]
def Ai (ρ:Type):ß ρ:=⟨[],59,0,M4,fun(p:Val (.pair aj az)) (v:Val bc) b a=>let A:=p.2.2.2.2;qO p.1 p.2.1 p.2.2.1 p.2.2.2.1 A.1 A.2.1 A.2.2.1 A.2.2.2.1 A.2.2.2.2.1 A.2.2.2.2.2 v.1 v.2 (fun c d=>b (c,d)) (a 0) (a 1)⟩
def TT:List (Nat×á):=[(64,Tj),(66,oQ),(80,iD),(96,yB),(104,gQ)]
def Qj (ρ:Type):List (ß ρ):=[Ai ρ]
def Bv (ρ:Type):Env ρ:=ä TT (Qj ρ)
def Jh:á:=⟨[Ë,aa],[tI],fun(x:Val aU)=>vt x.1 x.2⟩
def HT:Ç:=Ls 1 [aa,tI,tI,ak] [tI] ⟨19,.con aa::.fn 238 [(0,0)]::aN 5 [.con tI,.var tI],[bK]⟩ [(.ret,⟨19,[.con aa,.fn 238 [(0,0)],.any,.any,.var tI,.any,.any,.con tI],[bK]⟩,[tI]),(.exit 0,⟨19,.con aa::.fn 238 [(0,0)]::aN 5 [.con tI],[bK]⟩,[])]
def vL (ρ:Type):ß ρ:=⟨[3,2,1,2],260,0,HT,fun(p:Val (.pair aa aL)) (v:Val tI) b a=>mu p.1 p.2.1 p.2.2.2 v (fun c=>b c) (a 0) (a 1)⟩
def Nc:List (Nat×á):=[]
def Kg (ρ:Type):List (ß ρ):=[vL ρ]
def uJ (ρ:Type):Env ρ:=ä Nc (Kg ρ)
def YA:á:=⟨[Ë,tI,aa],[tI,tI,.bool],fun(x:Val (.pair Ë ŏ))=>IG x.1 x.2.1 x.2.2⟩
def Qt:Ç:=Ls 0 [aa,tI,tI,ak] [tI,tI,tI] ⟨37,.any::.var tI::.any::.box 0 0::aN 5 [.var tI,.any,.any,.any,.con aa,.con tI,.var tI],[bK]⟩ [(.ret,⟨37,aN 3 (.box 0 0::aN 2 (.var tI::.var tI::.var .bool::aN 4 [.con aa,.con tI])),[bK]⟩,[tI,tI,.bool]),(.exit 0,⟨37,.any::.var tI::.any::.box 0 0::aN 5 [.var tI,.any,.any,.any,.con aa,.con tI],[bK]⟩,[tI,tI])]
def C8 (ρ:Type):ß ρ:=⟨[],189,0,Qt,fun(p:Val (.pair aa aL)) (v:Val Œ) b a=>uI p.1 p.2.1 p.2.2.2 v.1 v.2.1 v.2.2 (fun c d e=>b (c,d,e)) (a 0) (a 1)⟩
def WM:List (Nat×á):=[]
def TZ (ρ:Type):List (ß ρ):=[C8 ρ]
def Fs (ρ:Type):Env ρ:=ä WM (TZ ρ)
def zT:á:=⟨[Ë,aa],[tI],fun(x:Val aU)=>mA x.1 x.2⟩
def Fz:List (Nat×á):=[(126,sm),(188,Jh),(189,YA)]
def Dn (ρ:Type):List (ß ρ):=[]
def vN (ρ:Type):Env ρ:=ä Fz (Dn ρ)
def rN:á:=⟨[Â,af],[tI],fun(x:Val aI)=>ū x.1 x.2⟩
def pp:Ç:=Ls 0 [af,aj,tI,tI,tI,ag,ab,ah,ae,ab,ai] [tI] ⟨47,.any::.con af::.box 0 0::aN 21 [.con aj,.con tI,.var tI],[bv]⟩ [(.ret,⟨47,.any::.con af::.box 0 0::.any::.var tI::aN 19 [.con aj,.con tI],[bv]⟩,[tI]),(.exit 0,⟨47,.any::.con af::.box 0 0::aN 21 [.con aj,.con tI],[bv]⟩,[])]
def po (ρ:Type):ß ρ:=⟨[],60,0,pp,fun(p:Val (tyL pp.cs)) (v:Val tI) b a=>let A:=p.2.2.2.2;let B:=A.2.2.2.2;iZ p.1 p.2.1 p.2.2.1 p.2.2.2.1 A.1 A.2.1 A.2.2.1 A.2.2.2.1 B.1 B.2.1 B.2.2 v (fun c=>b c) (a 0) (a 1)⟩
def Fm:List (Nat×á):=[(66,oQ),(80,iD),(96,yB),(104,gQ),(122,zT)]
def C4 (ρ:Type):List (ß ρ):=[po ρ]
def nH (ρ:Type):Env ρ:=ä Fm (C4 ρ)
def Gz:á:=⟨[ae],[Â],fun(x:Val ae)=>ũ x⟩
def JB:List (Nat×á):=[]
def Hr (ρ:Type):List (ß ρ):=[]
def zW (ρ:Type):Env ρ:=ä JB (Hr ρ)
def Jd:á:=⟨[],[.bool],fun(_:Unit)=>iP⟩
def MA:List (Nat×á):=[(19,Wi),(20,Jg),(26,GD),(28,Cn),(29,Yz),(30,GA),(35,ug),(40,PM),(42,Oo),(49,abW),(59,Jf),(60,rN),(77,Gz)]
def Jy (ρ:Type):List (ß ρ):=[]
def CA (ρ:Type):Env ρ:=ä MA (Jy ρ)
def GB:á:=⟨[Â,af],[.bool,tI],fun(x:Val aI)=>rC x.1 x.2⟩
def J8:List (Nat×á):=[(78,wG),(79,mF)]
def HH (ρ:Type):List (ß ρ):=[]
def Aj (ρ:Type):Env ρ:=ä J8 (HH ρ)
def Co:á:=⟨[Â,af],[É,tI],fun(x:Val aI)=>oC x.1 x.2⟩
def HE:List (Nat×á):=[(78,wG),(104,gQ)]
def Fh (ρ:Type):List (ß ρ):=[]
def xi (ρ:Type):Env ρ:=ä HE (Fh ρ)
def sq:á:=⟨[aD,aa],[tI],fun(x:Val (.pair aD aa))=>ja x.1 x.2⟩
def vZ:Ç:=Ls 0 [aa,tI] [tI] ⟨19,.con aa::.fn 211 []::aN 5 [.con tI,.var tI],[]⟩ [(.ret,⟨19,[.con aa,.fn 211 [],.any,.any,.var tI,.any,.any,.con tI],[]⟩,[tI]),(.exit 0,⟨19,.con aa::.fn 211 []::aN 5 [.con tI],[]⟩,[])]
def lD (ρ:Type):ß ρ:=⟨[1,10,1,2],260,0,vZ,fun(p:Val aw) (v:Val tI) b a=>ε p.1 p.2 v (fun c=>b c) (a 0) (a 1)⟩
def zG:List (Nat×á):=[(212,iV)]
def xO (ρ:Type):List (ß ρ):=[lD ρ]
def jV (ρ:Type):Env ρ:=ä zG (xO ρ)
def YB:á:=⟨[Ë,aa],[.bool,tI],fun(x:Val aU)=>IH x.1 x.2⟩
def QC:Ç:=Ls 1 [aa,tI,tI,ak] [tI] ⟨19,.con aa::.fn 266 []::aN 5 [.con tI,.var tI],[bK]⟩ [(.ret,⟨19,[.con aa,.fn 266 [],.any,.any,.var tI,.any,.any,.con tI],[bK]⟩,[tI]),(.exit 0,⟨19,.con aa::.fn 266 []::aN 5 [.con tI],[bK]⟩,[])]
def Dj (ρ:Type):ß ρ:=⟨[4,7,1,2],260,0,QC,fun(p:Val (.pair aa aL)) (v:Val tI) b a=>uO p.1 p.2.1 v (fun c=>b c) (a 0) (a 1)⟩
def Di:Ç:=Ls 0 [aa,ak,tI] [tI] ⟨53,.any::.con aa::aN 26 [.con ak,.con tI,.var tI],[]⟩ [(.ret,⟨53,.any::.con aa::aN 2 (.var .bool::.var tI::aN 22 [.con ak,.con tI]),[]⟩,[.bool,tI]),(.exit 0,⟨53,.any::.con aa::aN 26 [.con ak,.con tI],[]⟩,[])]
def Dh (ρ:Type):ß ρ:=⟨[],219,0,Di,fun(p:Val (tyL Di.cs)) (v:Val tI) b a=>l5 p.1 p.2.1 p.2.2 v (fun c=>b c) (a 0) (a 1)⟩
def WS:List (Nat×á):=[(126,sm)]
def T5 (ρ:Type):List (ß ρ):=[Dj ρ,Dh ρ]
def yH (ρ:Type):Env ρ:=ä WS (T5 ρ)
def zV:á:=⟨[aD,aa],[.bool],fun(x:Val (.pair aD aa))=>mB x.1 x.2⟩
def FI:List (Nat×á):=[(219,YB)]
def Dx (ρ:Type):List (ß ρ):=[]
def vR (ρ:Type):Env ρ:=ä FI (Dx ρ)
def YG:á:=⟨[É,aa],[.bool,tI],fun(x:Val (.pair É aa))=>IK x.1 x.2⟩
def Xi:List (Nat×á):=[(72,pe),(132,PP),(146,sq),(153,zV)]
def UF (ρ:Type):List (ß ρ):=[]
def OU (ρ:Type):Env ρ:=ä Xi (UF ρ)
def GC:á:=⟨[Â,af,aa],[tI],fun(x:Val bj)=>nw x.1 x.2.1 x.2.2⟩
def Kb:List (Nat×á):=[(76,YG),(78,wG),(104,gQ)]
def HL (ρ:Type):List (ß ρ):=[]
def Ao (ρ:Type):Env ρ:=ä Kb (HL ρ)
def GF:á:=⟨[Ë],[aa,tI],fun(x:Val Ë)=>rE x⟩
def Kq:List (Nat×á):=[(92,Ļ),(133,Ji),(134,EU)]
def HZ (ρ:Type):List (ß ρ):=[]
def As (ρ:Type):Env ρ:=ä Kq (HZ ρ)
def jF:á:=⟨[Â,af,aa],[.bool],fun(x:Val bj)=>nX x.1 x.2.1 x.2.2⟩
def mJ:Ç:=Ls 0 [aa,aj,tI,tI,ag,ab,ah,ae,ab,ai] [tI] ⟨187,aN 2 (.con aa::.box 0 0::aN 17 [.con aj,.any,.var tI]),[bv]⟩ [(.ret,⟨187,aN 2 (.con aa::.box 0 0::aN 2 (.var .bool::aN 14 [.con aj])),[bv]⟩,[.bool]),(.exit 0,⟨187,aN 2 (.con aa::.box 0 0::aN 17 [.con aj]),[bv]⟩,[])]
def mI (ρ:Type):ß ρ:=⟨[],12,0,mJ,fun(p:Val (tyL mJ.cs)) (v:Val tI) b a=>let A:=p.2.2.2.2;Ħ p.1 p.2.1 p.2.2.1 p.2.2.2.1 A.1 A.2.1 A.2.2.1 A.2.2.2.1 A.2.2.2.2.1 A.2.2.2.2.2 v (fun c=>b c) (a 0) (a 1)⟩
def Be:List (Nat×á):=[(15,Oi),(16,Oj),(17,Jd),(18,GB),(19,Wi),(20,Jg),(40,PM),(41,Co),(59,Jf),(60,rN),(61,GC),(66,oQ),(67,GF)]
def nY (ρ:Type):List (ß ρ):=[mI ρ]
def ph:List JEnt:=[⟨[],12,11,0,⟨187,[.any,.var af,.var aa,.box 0 0,.any,.any,.any,.var aj,.any,.var af,.var tI,.var af,.var tI],[.cells [.var tI,.var tI,.var ag,.var ab,.var ah,.var ae,.var ab,.var ai]]⟩,[af,aa,aj,af,tI,af,tI,tI,tI,ag,ab,ah,ae,ab,ai]⟩,⟨[],12,17,0,⟨187,[.any,.var af,.var aa,.box 0 0,.any,.any,.any,.var aj,.any,.any,.any,.var af,.var tI],[.cells [.var tI,.var tI,.var ag,.var ab,.var ah,.var ae,.var ab,.var ai]]⟩,[af,aa,aj,af,tI,tI,tI,ag,ab,ah,ae,ab,ai]⟩,⟨[],12,19,0,⟨187,[.any,.var af,.var aa,.box 0 0,.any,.any,.any,.var aj],[.cells [.var tI,.var tI,.var ag,.var ab,.var ah,.var ae,.var ab,.var ai]]⟩,[af,aa,aj,tI,tI,ag,ab,ah,ae,ab,ai]⟩,⟨[],12,22,0,⟨187,[.any,.any,.var aa,.box 0 0],[.cells [.var tI,.var tI,.var ag,.var ab,.var ah,.var ae,.var ab,.var ai]]⟩,[aa,tI,tI,ag,ab,ah,ae,ab,ai]⟩]
def iy (ρ:Type):Env ρ:=mkEnvJ Be (nY ρ) ph
end Go.Proofs.ZzM
end
