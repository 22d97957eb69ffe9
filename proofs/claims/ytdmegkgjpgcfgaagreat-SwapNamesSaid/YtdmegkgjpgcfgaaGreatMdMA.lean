/- lemmas -/
import Derived.Test.YtdmegkgjpgcfgaaGreatAmC
import Derived.Test.YtdmegkgjpgcfgaaGreatAmE
import Derived.KernelRfl
import Derived.Test.YtdmegkgjpgcfgaaGreatMdTA
import Derived.Test.YtdmegkgjpgcfgaaGreatProg
set_option linter.all false
set_option linter.unusedSectionVars false
set_option linter.unusedVariables false
set_option linter.unusedSimpArgs false
noncomputable section
set_option maxRecDepth 100000
namespace Go.Proofs.ZzM
open Go Go.Am
def Ki:Nat→Bool
  |114=>true
  |115=>true
  |140=>true
  |170=>true
  |182=>true
  |250=>true
  |251=>true
  |252=>true
  |_=>false
def TN:Nat→Bool
  |184=>true
  |_=>false
def xj:Nat→Bool
  |249=>true
  |_=>false
def isInl:Nat→Bool
  |2=>true
  |89=>true
  |90=>true
  |94=>true
  |95=>true
  |96=>true
  |97=>true
  |99=>true
  |100=>true
  |101=>true
  |107=>true
  |108=>true
  |129=>true
  |130=>true
  |137=>true
  |138=>true
  |144=>true
  |150=>true
  |151=>true
  |152=>true
  |157=>true
  |158=>true
  |159=>true
  |167=>true
  |168=>true
  |169=>true
  |171=>true
  |174=>true
  |175=>true
  |176=>true
  |177=>true
  |178=>true
  |186=>true
  |197=>true
  |198=>true
  |200=>true
  |202=>true
  |207=>true
  |210=>true
  |211=>true
  |213=>true
  |214=>true
  |221=>true
  |222=>true
  |223=>true
  |224=>true
  |225=>true
  |229=>true
  |230=>true
  |232=>true
  |235=>true
  |237=>true
  |238=>true
  |244=>true
  |245=>true
  |246=>true
  |254=>true
  |255=>true
  |256=>true
  |257=>true
  |258=>true
  |260=>true
  |266=>true
  |267=>true
  |275=>true
  |276=>true
  |277=>true
  |278=>true
  |279=>true
  |280=>true
  |282=>true
  |283=>true
  |293=>true
  |294=>true
  |295=>true
  |298=>true
  |299=>true
  |301=>true
  |302=>true
  |304=>true
  |305=>true
  |310=>true
  |311=>true
  |314=>true
  |315=>true
  |317=>true
  |318=>true
  |321=>true
  |322=>true
  |_=>false
def isFz:Nat→Bool
  |74=>true
  |93=>true
  |_=>false
def isEat:Nat→Nat→Bool
  |104,2=>true
  |104,3=>true
  |174,25=>true
  |245,0=>true
  |_,_=>false
def aeO:List Nat→Nat→Bool
  |_,_=>false
abbrev ŧ {ρ:Type} (E:Env ρ) (f:Nat) (ts rs:List Ty) (x:Val (tyL ts)) (k:Val (tyL rs)→Option ρ):Option ρ:=topK E f (V9 ts x) (fun h v=>Ä (afr rs h v) k)
abbrev Ls (p:Nat) (c v:List Ty) (h:Tpl) (e:List (Exit×Tpl×List Ty)):Ç:=⟨p,c,v,h,e,false⟩
def è {ρ:Type} (pt:List (Nat×á)) (tab:List (ß ρ)):Env ρ :=
  {P:=Tryz.prog,eat:=isEat,clone:=Ki,sort:=TN,compact:=xj,inl:=isInl,fz:=isFz,stop:=aeO,pure:=Ze pt,loops:=jJ tab}
def Xq {ρ:Type} (pt:List (Nat×á)) (tab:List (ß ρ)) (xt:List (Nat×Yg)):Env ρ:={è pt tab with ext:=extT xt}
def mkEnvU {ρ:Type} (pt:List (Nat×á)) (tab:List (ß ρ)) (us:List aer):Env ρ :=
  {P:=Tryz.prog,eat:=isEat,clone:=Ki,sort:=TN,compact:=xj,inl:=isInl,fz:=isFz,stop:=aeO,pure:=Ze pt,loops:=Xs (è pt tab) us}
abbrev bn:jZ:=.cells [.con aa]
abbrev bo:jZ:=.cells [.con tI,.con tI,.con ag,.con ab,.con ah,.con ac,.con ab]
abbrev bp:jZ:=.cells [.con tI,.con tI,.con tI,.con tI,.con tI,.con tI,.con tI,.con tI]
abbrev bq:jZ:=.cells [.con tI,.con tI,.con tI,.con tI]
abbrev br:jZ:=.cells [.con tI]
abbrev bt:jZ:=.cells [.con tI,.con tI,.con aa,.con aa,.con tI,.con tI,.con tI,.con tI]
abbrev bu:jZ:=.cells [.con tI,.con tI,.con ag,.con ab,.con ah,.con ac,.con ab,.con ai]
abbrev bv:jZ:=.cells [.con tI,.con aa]
abbrev bw:jZ:=.cells [.omp 3]
abbrev bz:jZ:=.cells [.con tI,.con tI]
abbrev bB:jZ:=.cells [.con tI,.con tI,.con ag,.con ab,.con ah,.con ac,.con ab,.con ab,.con tI,.own 3,.own 4]
abbrev bC:jZ:=.cells [.con tI,.con tI,.con ag,.con ab,.con ah,.con ac,.con ab,.con ab,.con tI,.own 2,.own 3]
abbrev bD:jZ:=.cells [.con tI,.con tI,.nils,.nils,.nils,.nils,.nils]
abbrev bE:jZ:=.cells [.con tI,.con tI,.own 3,.own 4,.nils,.nils,.nils]
abbrev bG:jZ:=.cells [.con tI,.con tI,.own 3,.own 4,.own 5,.nils,.nils]
abbrev bH:jZ:=.cells [.con tI,.con tI,.own 3,.own 4,.own 5,.own 6,.nils]
abbrev bI:jZ:=.cells [.con tI,.con tI,.own 2,.own 3,.own 4,.own 5,.own 6]
abbrev bJ:jZ:=.cells [.con tI,.con ak]
abbrev bK:jZ:=.cells [.own 6]
abbrev bL:jZ:=.cells [.var tI,.var tI,.var ag,.var ab,.var ah,.var ac,.var ab,.var ai]
abbrev bM:jZ:=.cells [.con ai]
abbrev bN:jZ:=.cells [.own 4]
abbrev bO:jZ:=.cells [.fn 90 [(1,0)]]
abbrev bP:jZ:=.cells [.con tI,.con tI,.nils,.nils,.nils,.nils,.nils,.nils]
abbrev bQ:jZ:=.cells [.fn 167 [(1,0)]]
abbrev bR:jZ:=.cells [.fn 97 [(0,0),(1,0)]]
abbrev bS:jZ:=.cells [.fn 97 [(3,0),(0,0)]]
abbrev bT:jZ:=.cells [.con tI,.con tI,.own 9,.own 10,.own 11,.con ac,.own 12]
abbrev bU:jZ:=.cells [.con tI,.con tI,.con tI]
abbrev bV:List jZ:=[.rowv tI]
abbrev bW:List jZ:=[bo,bt,.rowc tI]
abbrev bX:List jZ:=[bu,bo]
abbrev bY:List jZ:=[bo,bv,bw,.mapc tI tI]
abbrev bZ:List jZ:=[bo,bC,.rowv Ō,.rowv Ã]
abbrev b7:List jZ:=[bD,bo,bG,.rowc Ô,.rowc Ã,.rowv ik]
abbrev b8:List jZ:=[bD,bo,bH,.rowc Ô,.rowc Ã,.rowc ik,.rowv å]
abbrev b9:List jZ:=[bD,bI,.rowc Ô,.rowc Ã,.rowc ik,.rowc å,.rowv Ã]
abbrev ca:List jZ:=[bJ,.rowc tI,bJ,bK,.rowv .bool,.rowc tI,.rowv tI]
abbrev cd:List jZ:=[bJ,.rowv tI,bJ,bK,.rowv .bool,.rowc tI,.rowv tI]
abbrev ce:List jZ:=[bJ,.rowv tI,bJ,bK,.rowv .bool,.rowv tI,.rowv tI]
abbrev cf:List jZ:=[.rowv aj,bu]
abbrev cg:List jZ:=[.rowc aj,bu]
abbrev ci:List jZ:=[.rowv aj,bL]
abbrev cj:List jZ:=[bu,br,bu,bO,bP,.rowc å]
abbrev cm:List jZ:=[bu,bn,bP,bu,bQ,bP,.rowc å]
abbrev cn:List jZ:=[bn,bS,.rowc tI,bu]
abbrev cp:List jZ:=[bn,bS,.rowv tI,bu]
abbrev cq:List jZ:=[bo,bz,bD,bo,bD,.dead,bT,bD,.rowv å,.rowc Ô,.rowc Ã,.rowc ik,.rowc Ã]
abbrev cr:List jZ:=[.rowc aa,bJ,.dead,.dead,.rowv tI]
abbrev cu:List jZ:=[bJ,.rowc aj,bU,bJ,.rowv tI]
def iq:á:=⟨[aj],[aa],fun(x:Val aj)=>ģ x⟩
def kB:Ç:=Ls 0 [aj,aj,tI] [tI,tI] ⟨36,.con aj::aN 2 (.var tI::aN 5 [.con aj,.con tI,.var tI]),[]⟩ [(.exit 0,⟨36,.con aj::aN 2 (.var tI::aN 5 [.con aj,.con tI]),[]⟩,[tI])]
def kz (ρ:Type):ß ρ:=⟨[],93,0,kB,fun(p:Val (tyL kB.cs)) (v:Val Ã) a b=>ž p.2.1 p.2.2 v.1 v.2 (fun c d=>a (c,d)) (b 0)⟩
def tY:Ç:=Ls 0 [aj,tI] [tI,aa] ⟨36,aN 6 (.own 0::aN 18 [.con aj,.con tI,.var tI]),bV⟩ [(.exit 2,⟨36,aN 6 (.own 0::aN 18 [.con aj,.con tI]),bV⟩,[aa])]
def ky (ρ:Type):ß ρ:=⟨[],93,2,tY,fun(p:Val (.pair aj tI)) (v:Val ŋ) a b=>Ĝ p.1 p.2 v.1 v.2 (fun c d=>a (c,d)) (b 0)⟩
def wK:List (Nat×á):=[]
def vv (ρ:Type):List (ß ρ):=[kz ρ,ky ρ]
def Ο (ρ:Type):Env ρ:=è wK (vv ρ)
def Ke:ae2:=⟨272,aa,aa,xY⟩
def Ω:Tpl:=⟨37,.any::.box 1 0::.box 2 0::.any::.box 3 0::aN 6 [.con aa,.con tI,.con tI],[.acc aa,.cells [.con aa],.cells [.yld],.cells [.con tI]]⟩
def iW (al:Val aj) (rec:Val aa→Option ((Val aj))) (ρ:Type):D0 ρ:=⟨[],272,2,4,[aa,tI,tI,aa,tI],[aj],Ω,⟨272,aa,aa,rec⟩,fun(p:Val aS) (v:Val aj) y a=>oQ al rec p.2.2.2.2 v y (fun b=>a b)⟩
def Ť:Ç:=Ls 2 [aa,tI,aa] [tI,aj] ⟨37,.any::.box 1 0::.box 2 0::aN 8 [.con aa,.con tI,.var tI],[.acc aa,bn,.cells [.yld]]⟩ [(.exit 0,⟨37,.any::.box 1 0::.box 2 0::aN 8 [.con aa,.con tI],[.acc aa,bn,.cells [.yld]]⟩,[aj])]
def lJ (al:Val aj) (rec:Val aa→Option ((Val aj))) (ρ:Type):ß ρ:=⟨[],272,0,Ť,fun(p:Val aV) (v:Val ba) a b=>oR al rec p.1 p.2.1 p.2.2 v.1 v.2 (fun c d=>a (c,d)) (b 0)⟩
def wo (al:Val aj) (rec:Val aa→Option ((Val aj))) (ρ:Type):List (D0 ρ):=[iW al rec ρ]
def IK:List (Nat×á):=[(93,iq)]
def vg (al:Val aj) (rec:Val aa→Option ((Val aj))) (ρ:Type):List (ß ρ):=[lJ al rec ρ]
def û (al:Val aj) (rec:Val aa→Option ((Val aj))) (ρ:Type):Env ρ:={è IK (vg al rec ρ) with ranges:=Ż (wo al rec ρ),yld:=some ⟨aa,al⟩}
def po:ae2:=⟨231,ai,aj,lW⟩
def Ū:Tpl:=⟨27,.any::.box 1 0::.box 2 0::.box 3 0::aN 11 [.con aa],[.acc aj,.cells [.con ai],.cells [.yld],.cells [.con aa]]⟩
def gO (al:Val af) (rec:Val ai→Option ((Val af))) (ρ:Type):D0 ρ:=⟨[],231,2,4,[aa,ai,aa],[af],Ū,⟨231,ai,aj,rec⟩,fun(p:Val bf) (v:Val af) y a=>lM al rec p.2.2 v y (fun b=>a b)⟩
def ū:Tpl:=⟨27,[.any,.box 1 0,.box 2 0],[.acc aj,.cells [.con ai],.cells [.yld]]⟩
def gP (al:Val af) (rec:Val ai→Option ((Val af))) (ρ:Type):D0 ρ:=⟨[],231,0,3,[ai],[af],ū,Ke,fun(p:Val ai) (v:Val af) y a=>lN al rec p v y (fun b=>a b)⟩
def rW (al:Val af) (rec:Val ai→Option ((Val af))) (ρ:Type):List (D0 ρ):=[gO al rec ρ,gP al rec ρ]
def Eu:List (Nat×á):=[]
def qp (al:Val af) (rec:Val ai→Option ((Val af))) (ρ:Type):List (ß ρ):=[]
def æ (al:Val af) (rec:Val ai→Option ((Val af))) (ρ:Type):Env ρ:={è Eu (qp al rec ρ) with ranges:=Ż (rW al rec ρ),yld:=some ⟨aj,al⟩}
def Dj:ae2:=⟨268,aa,tI,xX⟩
def ē:Ç:=Ls 2 [aa,tI,aa] [tI,aa] ⟨16,.yld::aN 4 [.con aa,.con tI,.var tI],[.acc tI,bn]⟩ [(.exit 0,⟨16,.yld::aN 4 [.con aa,.con tI],[.acc tI,bn]⟩,[aa])]
def Ζ (al:Val aa) (rec:Val aa→Option ((Val aa))) (ρ:Type):ß ρ:=⟨[],268,0,ē,fun(p:Val aV) (v:Val ŋ) a b=>gQ al rec p.1 p.2.1 v.1 v.2 (fun c d=>a (c,d)) (b 0)⟩
def tV:List (Nat×á):=[]
def sv (al:Val aa) (rec:Val aa→Option ((Val aa))) (ρ:Type):List (ß ρ):=[Ζ al rec ρ]
def Ą (al:Val aa) (rec:Val aa→Option ((Val aa))) (ρ:Type):Env ρ:={è tV (sv al rec ρ) with yld:=some ⟨tI,al⟩}
def lE:á:=⟨[aa,tI],[tI],fun(x:Val ay)=>π x.1 x.2⟩
def vu:Ç:=Ls 0 [aa,tI,tI] [tI] ⟨19,.con aa::.con tI::aN 5 [.con tI,.var tI],[]⟩ [(.ret,⟨19,[.con aa,.con tI,.any,.any,.var tI,.any,.any,.con tI],[]⟩,[tI]),(.exit 0,⟨19,.con aa::.con tI::aN 5 [.con tI],[]⟩,[])]
def lm (ρ:Type):ß ρ:=⟨[],173,0,vu,fun(p:Val (.pair aa Ã)) (v:Val tI) b a=>Ξ p.1 p.2.1 p.2.2 v (fun c=>b c) (a 0) (a 1)⟩
def yL:List (Nat×á):=[]
def wI (ρ:Type):List (ß ρ):=[lm ρ]
def jN (ρ:Type):Env ρ:=è yL (wI ρ)
def ŗ:á:=⟨[aa,tI],[.bool],fun(x:Val ay)=>Þ x.1 x.2⟩
def tX:List (Nat×á):=[(173,lE)]
def sE (ρ:Type):List (ß ρ):=[]
def ln (ρ:Type):Env ρ:=è tX (sE ρ)
def OO:á:=⟨[É,Ô],[aa],fun(x:Val (.pair É Ô))=>oj x.1 x.2⟩
def P8:Ç:=Ls 0 [ac,tI,tI,tI,ag,ab,ah,ac,ab,tI,tI,tI,tI,tI,tI,tI,tI] [tI,aa] ⟨59,aN 2 (.box 0 0::.box 1 0::.any::.own 2::aN 8 [.con ac,.con tI,.var tI]),[bo,bp,.rowv tI]⟩ [(.exit 0,⟨59,aN 2 (.box 0 0::.box 1 0::.any::.own 2::aN 8 [.con ac,.con tI]),[bo,bp,.rowv tI]⟩,[aa])]
def C9 (ρ:Type):ß ρ:=⟨[],201,0,P8,fun(p:Val (.pair ac aI)) (v:Val ŋ) a b=>uD p.1 p.2.1 p.2.2.2.2.2.2.2.2.2.1 v.1 v.2 (fun c d=>a (c,d)) (b 0)⟩
def C8:Ç:=Ls 0 [ab,tI,tI,tI,tI,tI,tI,tI,tI,tI] [tI,aa] ⟨59,aN 3 (.box 0 0::.any::.own 1::aN 32 [.con ab,.con tI,.var tI]),[bp,.rowv tI]⟩ [(.exit 2,⟨59,aN 3 (.box 0 0::.any::.own 1::aN 32 [.con ab,.con tI]),[bp,.rowv tI]⟩,[aa])]
def C7 (ρ:Type):ß ρ:=⟨[],201,2,C8,fun(p:Val (tyL C8.cs)) (v:Val ŋ) a b=>uC p.1 p.2.1 p.2.2.1 v.1 v.2 (fun c d=>a (c,d)) (b 0)⟩
def VL:List (Nat×á):=[(92,ŗ)]
def Tu (ρ:Type):List (ß ρ):=[C9 ρ,C7 ρ]
def xU (ρ:Type):Env ρ:=è VL (Tu ρ)
def BM:á:=⟨[É],[ab],fun(x:Val É)=>pu x⟩
def zP:Ç:=Ls 0 [ag,tI,tI,aa,tI,tI,tI,ag,ab,ah,ac,ab,tI,tI,tI,tI,tI,tI,tI,tI] [tI,ab] ⟨33,.any::.box 0 0::.any::.own 1::.any::.box 2 0::aN 3 (.con ag::.con tI::.con tI::aN 5 [.con aa,.con tI,.var tI]),[bo,.rowv Ã,bp]⟩ [(.exit 2,⟨33,.any::.box 0 0::.any::.own 1::.any::.box 2 0::aN 3 (.con ag::.con tI::.con tI::aN 5 [.con aa,.con tI]),[bo,.rowv Ã,bp]⟩,[ab])]
def zO (ρ:Type):ß ρ:=⟨[],136,2,zP,fun(p:Val (tyL zP.cs)) (v:Val aY) a b=>qG p.2.2.2.1 p.2.2.2.2.1 p.2.2.2.2.2.2.2.2.2.2.2.2.1 v.1 v.2 (fun c d=>a (c,d)) (b 0)⟩
def Mr:Ç:=Ls 0 [ag,tI,tI,tI,ag,ab,ah,ac,ab] [tI,ab] ⟨33,.any::.box 0 0::.any::.own 1::aN 5 [.con ag,.con tI,.var tI],[bo,.rowv Ã]⟩ [(.exit 0,⟨33,.any::.box 0 0::.any::.own 1::aN 5 [.con ag,.con tI],[bo,.rowv Ã]⟩,[ab])]
def zQ (ρ:Type):ß ρ:=⟨[],136,0,Mr,fun(p:Val (.pair ag aQ)) (v:Val aY) a b=>let A:=p.2.2.2.2;qH p.1 p.2.1 p.2.2.1 p.2.2.2.1 A.1 A.2.1 A.2.2.1 A.2.2.2.1 A.2.2.2.2 v.1 v.2 (fun c d=>a (c,d)) (b 0)⟩
def Tk:List (Nat×á):=[(201,OO)]
def PV (ρ:Type):List (ß ρ):=[zO ρ,zQ ρ]
def ur (ρ:Type):Env ρ:=è Tk (PV ρ)
def rP:á:=⟨[Ã,tI,tI],[.bool],fun(x:Val Ĕ)=>ź x.1 x.2.1 x.2.2⟩
def P4:List (Nat×á):=[]
def ME (ρ:Type):List (ß ρ):=[]
def F9 (ρ:Type):Env ρ:=è P4 (ME ρ)
def jR:á:=⟨[tI,tI,tI],[.bool],fun(x:Val Ō)=>ė x.1 x.2.1 x.2.2⟩
def PT:List (Nat×á):=[]
def Mn (ρ:Type):List (ß ρ):=[]
def F8 (ρ:Type):Env ρ:=è PT (Mn ρ)
def vV:á:=⟨[tI],[.bool],fun(x:Val tI)=>kL x⟩
def Ts:List (Nat×á):=[(212,jR)]
def P2 (ρ:Type):List (ß ρ):=[]
def JZ (ρ:Type):Env ρ:=è Ts (P2 ρ)
def OM:á:=⟨[tI],[(.int .u64)],fun(x:Val tI)=>qW x⟩
def Vt:List (Nat×á):=[]
def S6 (ρ:Type):List (ß ρ):=[]
def NM (ρ:Type):Env ρ:=è Vt (S6 ρ)
def UW:á:=⟨[(.int .u64),(.int .u64)],[(.int .u64)],fun(x:Val bh)=>KH x.1 x.2⟩
def S8:Ç:=Ls 0 [] [(.int .u64),(.int .u64)] ⟨12,[.var (.int .u64),.var (.int .u64)],[]⟩ [(.exit 0,⟨12,[.var (.int .u64)],[]⟩,[(.int .u64)])]
def F5 (ρ:Type):ß ρ:=⟨[],292,0,S8,fun(p:Unit) (v:Val bh) a b=>xR v.1 v.2 (fun c d=>a (c,d)) (b 0)⟩
def YY:List (Nat×á):=[]
def Vu (ρ:Type):List (ß ρ):=[F5 ρ]
def JG (ρ:Type):Env ρ:=è YY (Vu ρ)
def BJ:á:=⟨[Ã],[.bool],fun(x:Val Ã)=>tg x⟩
def Tb:List (Nat×á):=[(291,OM),(292,UW)]
def PN (ρ:Type):List (ß ρ):=[]
def JJ (ρ:Type):Env ρ:=è Tb (PN ρ)
def Ij:á:=⟨[Ô],[.bool],fun(x:Val Ô)=>uQ x⟩
def MD:List (Nat×á):=[(141,rP),(205,vV),(212,jR),(253,BJ)]
def JX (ρ:Type):List (ß ρ):=[]
def C6 (ρ:Type):Env ρ:=è MD (JX ρ)
def vW:á:=⟨[É],[tI],fun(x:Val É)=>Ű x⟩
def yP:Ç:=Ls 0 [ag,tI,tI,tI,ag,ab,ah,ac,ab] [tI] ⟨31,.any::.box 0 0::aN 4 [.con ag,.con tI,.var tI],[bo]⟩ [(.ret,⟨31,[.any,.box 0 0,.var tI,.any,.any,.any,.con ag,.con tI],[bo]⟩,[tI]),(.exit 0,⟨31,.any::.box 0 0::aN 4 [.con ag,.con tI],[bo]⟩,[])]
def nJ (ρ:Type):ß ρ:=⟨[],142,0,yP,fun(p:Val (.pair ag aQ)) (v:Val tI) b a=>iu p.1 p.2.1 p.2.2.2.2.1 v (fun c=>b c) (a 0) (a 1)⟩
def Da:List (Nat×á):=[(203,Ij)]
def A5 (ρ:Type):List (ß ρ):=[nJ ρ]
def lT (ρ:Type):Env ρ:=è Da (A5 ρ)
def tG:á:=⟨[É],[am],fun(x:Val É)=>ĸ x⟩
def Hb:Ç:=Ls 0 [ag,tI] [tI,am] ⟨20,aN 3 (.omp 0::aN 4 [.con ag,.con tI,.var tI]),[.mapv tI Ô]⟩ [(.exit 0,⟨20,aN 3 (.omp 0::aN 4 [.con ag,.con tI]),[.mapv tI Ô]⟩,[am])]
def vn (ρ:Type):ß ρ:=⟨[],143,0,Hb,fun(p:Val (.pair ag tI)) (v:Val (.pair tI am)) a b=>mh p.1 p.2 v.1 v.2 (fun c d=>a (c,d)) (b 0)⟩
def Mp:List (Nat×á):=[]
def JO (ρ:Type):List (ß ρ):=[vn ρ]
def uk (ρ:Type):Env ρ:=è Mp (JO ρ)
def md:á:=⟨[am,tI,tI],[tI],fun(x:Val (.pair am Ã))=>hZ x.1 x.2.1 x.2.2⟩
def ER:List (Nat×á):=[]
def CP (ρ:Type):List (ß ρ):=[]
def vp (ρ:Type):Env ρ:=è ER (CP ρ)
def UY:á:=⟨[tI,tI,(.ptr am)],[tI],fun(x:Val (.pair tI (.pair tI (.ptr am))))=>Ĺ x.1 x.2.1 x.2.2⟩
def Mq:List (Nat×á):=[(205,vV),(206,md)]
def JQ (ρ:Type):List (ß ρ):=[]
def CS (ρ:Type):Env ρ:=è Mq (JQ ρ)
def OP:á:=⟨[É,am,tI],[tI],fun(x:Val bj)=>Γ x.1 x.2.1 x.2.2⟩
def qL:Ç:=Ls 2 [ah,tI,tI,tI,ag,ab,ah,ac,ab,tI,tI,tI,tI] [tI] ⟨19,.con ah::.fn 254 [(1,0)]::aN 5 [.con tI,.var tI],[bo,bq]⟩ [(.ret,⟨19,[.con ah,.fn 254 [(1,0)],.any,.any,.var tI,.any,.any,.con tI],[bo,bq]⟩,[tI]),(.exit 0,⟨19,.con ah::.fn 254 [(1,0)]::aN 5 [.con tI],[bo,bq]⟩,[])]
def qK (ρ:Type):ß ρ:=⟨[9,5,1,2],293,0,qL,fun(p:Val (tyL qL.cs)) (v:Val tI) b a=>let A:=p.2.2.2.2.2.2.2.2.2;jI p.1 p.2.1 A.1 A.2.1 A.2.2.1 v (fun c=>b c) (a 0) (a 1)⟩
def qJ:Ç:=Ls 2 [ab,tI,tI,tI,ag,ab,ah,ac,ab,tI,tI,tI,tI] [tI] ⟨19,.con ab::.fn 255 [(1,0)]::aN 5 [.con tI,.var tI],[bo,bq]⟩ [(.ret,⟨19,[.con ab,.fn 255 [(1,0)],.any,.any,.var tI,.any,.any,.con tI],[bo,bq]⟩,[tI]),(.exit 0,⟨19,.con ab::.fn 255 [(1,0)]::aN 5 [.con tI],[bo,bq]⟩,[])]
def qI (ρ:Type):ß ρ:=⟨[9,10,1,2],294,0,qJ,fun(p:Val (tyL qJ.cs)) (v:Val tI) b a=>let A:=p.2.2.2.2.2.2.2.2.2;Ź p.1 p.2.1 A.1 A.2.1 A.2.2.1 v (fun c=>b c) (a 0) (a 1)⟩
def Hj:List (Nat×á):=[(141,rP),(206,md),(212,jR)]
def EZ (ρ:Type):List (ß ρ):=[qK ρ,qI ρ]
def kF (ρ:Type):Env ρ:=è Hj (EZ ρ)
def BN:á:=⟨[aa,aa],[aa],fun(x:Val (.pair aa aa))=>Β x.1 x.2⟩
def C5:Ç:=Ls 2 [tI,aa,aa] [tI] ⟨19,.own 1::.fn 214 [(0,0)]::aN 5 [.con tI,.var tI],[bn,.rowc tI]⟩ [(.ret,⟨19,[.own 1,.fn 214 [(0,0)],.any,.any,.var tI,.any,.any,.con tI],[bn,.rowc tI]⟩,[tI]),(.exit 0,⟨19,.own 1::.fn 214 [(0,0)]::aN 5 [.con tI],[bn,.rowc tI]⟩,[])]
def C4 (ρ:Type):ß ρ:=⟨[1,3,1,2],260,0,C5,fun(p:Val (tyL C5.cs)) (v:Val tI) b a=>uB p.1 p.2.1 p.2.2 v (fun c=>b c) (a 0) (a 1)⟩
def PZ:Ç:=Ls 2 [aa] [tI,tI,aa] ⟨42,[.own 1,.fn 214 [(0,0)],.any,.any,.any,.var tI,.var tI],[bn,.rowv tI]⟩ [(.exit 0,⟨42,[.own 1,.fn 214 [(0,0)],.any,.any,.any,.var tI],[bn,.rowv tI]⟩,[tI,aa])]
def C3 (ρ:Type):ß ρ:=⟨[1,3],213,0,PZ,fun(p:Val aa) (v:Val aO) a b=>jP p v.1 v.2.1 v.2.2 (fun c d e=>a (c,d,e)) (b 0)⟩
def VK:List (Nat×á):=[(92,ŗ)]
def Tq (ρ:Type):List (ß ρ):=[C4 ρ,C3 ρ]
def xT (ρ:Type):Env ρ:=è VK (Tq ρ)
def Eh:á:=⟨[aa],[.bool],fun(x:Val aa)=>lZ x⟩
def JW:Ç:=Ls 0 [aa,aa,tI] [tI] ⟨32,.con aa::aN 4 [.con aa,.con tI,.var tI],[]⟩ [(.ret,⟨32,[.con aa,.any,.var .bool,.any,.any,.con aa,.con tI],[]⟩,[.bool]),(.exit 0,⟨32,.con aa::aN 4 [.con aa,.con tI],[]⟩,[])]
def xc (ρ:Type):ß ρ:=⟨[],172,0,JW,fun(p:Val (.pair aa ay)) (v:Val tI) b a=>oc p.1 p.2.1 p.2.2 v (fun c=>b c) (a 0) (a 1)⟩
def P1:List (Nat×á):=[(212,jR)]
def MB (ρ:Type):List (ß ρ):=[xc ρ]
def xd (ρ:Type):Env ρ:=è P1 (MB ρ)
def OQ:á:=⟨[É,tI,tI],[ik,.bool],fun(x:Val aJ)=>uR x.1 x.2.1 x.2.2⟩
def Dc:Ç:=Ls 4 [ah,tI,tI,tI,ag,ab,ah,ac,ab,tI,tI,tI,tI,tI,tI] [tI] ⟨19,.con ah::.fn 295 [(1,0),(2,0)]::aN 5 [.con tI,.var tI],[bo,br,br,bq]⟩ [(.ret,⟨19,[.con ah,.fn 295 [(1,0),(2,0)],.any,.any,.var tI,.any,.any,.con tI],[bo,br,br,bq]⟩,[tI]),(.exit 0,⟨19,.con ah::.fn 295 [(1,0),(2,0)]::aN 5 [.con tI],[bo,br,br,bq]⟩,[])]
def Db (ρ:Type):ß ρ:=⟨[1,3],293,0,Dc,fun(p:Val (tyL Dc.cs)) (v:Val tI) b a=>uF p.1 p.2.1 p.2.2.2.2.2.2.2.2.2.1 p.2.2.2.2.2.2.2.2.2.2.1 v (fun c=>b c) (a 0) (a 1)⟩
def VM:List (Nat×á):=[(212,jR)]
def Tw (ρ:Type):List (ß ρ):=[Db ρ]
def E5 (ρ:Type):Env ρ:=è VM (Tw ρ)
def Gw:á:=⟨[É,am,tI],[tI],fun(x:Val bj)=>Ń x.1 x.2.1 x.2.2⟩
def mY:Ç:=Ls 2 [ac,tI,tI,tI,ag,ab,ah,ac,ab,tI,tI,aa,aa,tI,tI,tI,tI] [tI] ⟨19,.con ac::.fn 258 [(1,0)]::aN 5 [.con tI,.var tI],[bo,bt]⟩ [(.ret,⟨19,[.con ac,.fn 258 [(1,0)],.any,.any,.var tI,.any,.any,.con tI],[bo,bt]⟩,[tI]),(.exit 0,⟨19,.con ac::.fn 258 [(1,0)]::aN 5 [.con tI],[bo,bt]⟩,[])]
def mX (ρ:Type):ß ρ:=⟨[4,5,1,2],175,0,mY,fun(p:Val (tyL mY.cs)) (v:Val tI) b a=>gS p.1 p.2.1 p.2.2.2.2.2.2.2.2.2.1 v (fun c=>b c) (a 0) (a 1)⟩
def mU:Ç:=Ls 0 [am,aa,tI,tI,tI,aa,tI,tI,tI,ag,ab,ah,ac,ab,tI,tI,aa,aa,tI,tI,tI,tI,aa] [tI] ⟨140,.any::.con am::.any::.box 0 0::aN 3 (.box 1 0::.con aa::.any::.con tI::aN 65 [.own 2,.con tI,.con tI,.any,.any,.any,.con aa,.con tI,.var tI]),bW⟩ [(.ret,⟨140,.any::.con am::.any::.box 0 0::aN 2 (.var tI::.box 1 0::.con aa::.any::.con tI::aN 65 [.own 2,.con tI,.con tI,.any,.any,.any,.con aa,.con tI]),bW⟩,[tI]),(.exit 2,⟨140,.any::.con am::.any::.box 0 0::aN 3 (.box 1 0::.con aa::.any::.con tI::aN 65 [.own 2,.con tI,.con tI,.any,.any,.any,.con aa,.con tI]),bW⟩,[])]
def mT (ρ:Type):ß ρ:=⟨[],209,2,mU,fun(p:Val (tyL mU.cs)) (v:Val tI) b a=>let A:=p.2.2.2.2.2;gR p.1 p.2.2.1 A.1 A.2.1 A.2.2.2.2.2.2.2.2.2.2.1 v (fun c=>b c) (a 0) (a 1)⟩
def mW:Ç:=Ls 0 [am,aa,tI,tI,tI,ag,ab,ah,ac,ab,tI,tI,aa,aa,tI,tI,tI,tI,aa] [tI] ⟨140,.any::.con am::.any::.box 0 0::aN 3 (.box 1 0::.con aa::aN 67 [.own 2,.con tI,.var tI]),bW⟩ [(.ret,⟨140,.any::.con am::.any::.box 0 0::aN 2 (.var tI::.box 1 0::.con aa::aN 67 [.own 2,.con tI]),bW⟩,[tI]),(.exit 0,⟨140,.any::.con am::.any::.box 0 0::aN 3 (.box 1 0::.con aa::aN 67 [.own 2,.con tI]),bW⟩,[])]
def mV (ρ:Type):ß ρ:=⟨[],209,0,mW,fun(p:Val (tyL mW.cs)) (v:Val tI) b a=>Ņ p.1 p.2.1 p.2.2.1 p.2.2.2.2.2.2.2.2.2.2.2.1 p.2.2.2.2.2.2.2.2.2.2.2.2.2.2.2.2.2.2 v (fun c=>b c) (a 0) (a 1)⟩
def mS:Ç:=Ls 0 [aa,tI,tI,tI,ag,ab,ah,ac,ab,tI,tI,aa,aa,tI,tI,tI,tI] [tI] ⟨140,aN 3 (.box 0 0::aN 3 (.box 1 0::aN 90 [.con aa,.con tI,.var tI])),[bo,bt]⟩ [(.ret,⟨140,aN 3 (.box 0 0::aN 2 (.var tI::.box 1 0::aN 90 [.con aa,.con tI])),[bo,bt]⟩,[tI]),(.exit 4,⟨140,aN 3 (.box 0 0::aN 3 (.box 1 0::aN 90 [.con aa,.con tI])),[bo,bt]⟩,[])]
def mR (ρ:Type):ß ρ:=⟨[],209,4,mS,fun(p:Val (tyL mS.cs)) (v:Val tI) b a=>let A:=p.2.2.2.2;ń p.1 p.2.1 p.2.2.1 p.2.2.2.1 A.1 A.2.1 A.2.2.1 A.2.2.2.1 A.2.2.2.2.1 A.2.2.2.2.2.2.1 v (fun c=>b c) (a 0) (a 1)⟩
def A7:List (Nat×á):=[(93,iq),(141,rP),(148,BN),(172,Eh),(205,vV),(206,md),(212,jR),(259,OQ)]
def yQ (ρ:Type):List (ß ρ):=[mX ρ,mT ρ,mV ρ,mR ρ]
def Œ (ρ:Type):Env ρ:=è A7 (yQ ρ)
def rR:á:=⟨[É],[tI],fun(x:Val É)=>Δ x⟩
def RO:á:=⟨[aa],[(.pair tI (.pair tI Ō))],fun(x:Val aa)=>Dx x⟩
def Nj:á:=⟨[Â],[.bool],fun(x:Val Â)=>yb x⟩
def IA:Ç:=Ls 0 [tI,tI,ag,ab,ah,ac,ab,ai,tI,tI,ag,ab,ah,ac,ab] [tI] ⟨90,[.any,.box 0 0,.any,.box 1 0,.var tI],bX⟩ [(.ret,⟨90,[.any,.box 0 0,.var .bool,.box 1 0],bX⟩,[.bool]),(.exit 0,⟨90,[.any,.box 0 0,.any,.box 1 0],bX⟩,[])]
def wg (ρ:Type):ß ρ:=⟨[],15,0,IA,fun(p:Val au) (v:Val tI) b a=>nR p.2.2.2.2.2.2.2.2.2.2.2.2.2.1 v (fun c=>b c) (a 0) (a 1)⟩
def Iz:Ç:=Ls 0 [tI,tI,ag,ab,ah,ac,ab,ai,tI,tI,ag,ab,ah,ac,ab] [tI] ⟨90,[.any,.box 0 0,.any,.box 1 0,.any,.var tI],bX⟩ [(.ret,⟨90,[.any,.box 0 0,.var .bool,.box 1 0],bX⟩,[.bool]),(.exit 2,⟨90,[.any,.box 0 0,.any,.box 1 0],bX⟩,[])]
def we (ρ:Type):ß ρ:=⟨[],15,2,Iz,fun(p:Val au) (v:Val tI) b a=>kj p.2.2.2.2.2.2.2.1 v (fun c=>b c) (a 0) (a 1)⟩
def O1:List (Nat×á):=[]
def Lz (ρ:Type):List (ß ρ):=[wg ρ,we ρ]
def pY (ρ:Type):Env ρ:=è O1 (Lz ρ)
def Sa:á:=⟨[É,tI,aa],[tI],fun(x:Val (.pair É ŋ))=>DH x.1 x.2.1 x.2.2⟩
def ML:Ç:=Ls 1 [aa,tI,tI,tI,ag,ab,ah,ac,ab] [tI] ⟨19,.con aa::.fn 299 []::aN 5 [.con tI,.var tI],[bo]⟩ [(.ret,⟨19,[.con aa,.fn 299 [],.any,.any,.var tI,.any,.any,.con tI],[bo]⟩,[tI]),(.exit 0,⟨19,.con aa::.fn 299 []::aN 5 [.con tI],[bo]⟩,[])]
def zS (ρ:Type):ß ρ:=⟨[4,1,1,2],260,0,ML,fun(p:Val (.pair aa aQ)) (v:Val tI) b a=>qM p.1 p.2.1 v (fun c=>b c) (a 0) (a 1)⟩
def Tz:List (Nat×á):=[(72,rR),(143,tG),(205,vV)]
def Qb (ρ:Type):List (ß ρ):=[zS ρ]
def A8 (ρ:Type):Env ρ:=è Tz (Qb ρ)
def Xl:á:=⟨[É,tI,tI],[.bool,tI],fun(x:Val aJ)=>yj x.1 x.2.1 x.2.2⟩
def VO:List (Nat×á):=[(259,OQ),(269,Sa)]
def TD (ρ:Type):List (ß ρ):=[]
def NQ (ρ:Type):Env ρ:=è VO (TD ρ)
def RQ:á:=⟨[É,ai,tI],[tI],fun(x:Val (.pair É (.pair ai tI)))=>Dz x.1 x.2.1 x.2.2⟩
def zq:Ç:=Ls 0 [ai,tI,tI,tI,ag,ab,ah,ac,ab,tI,aa] [tI] ⟨104,[.any,.con ai,.con tI,.box 0 0,.any,.any,.any,.box 1 0,.var tI],[bo,bv]⟩ [(.ret,⟨104,[.any,.con ai,.con tI,.box 0 0,.any,.any,.var tI,.box 1 0],[bo,bv]⟩,[tI]),(.exit 0,⟨104,[.any,.con ai,.con tI,.box 0 0,.any,.any,.any,.box 1 0],[bo,bv]⟩,[])]
def zp (ρ:Type):ß ρ:=⟨[],156,0,zq,fun(p:Val (tyL zq.cs)) (v:Val tI) b a=>mC p.2.2.2.2.2.2.2.2.2.2 v (fun c=>b c) (a 0) (a 1)⟩
def zo:Ç:=Ls 0 [ai,tI,ag,tI,tI,tI,ag,ab,ah,ac,ab,tI,aa] [tI,aW] ⟨104,.any::.con ai::.con tI::.box 0 0::aN 3 (.box 1 0::.any::.box 2 0::aN 50 [.con ag,.con tI,.var tI]),[bo,bv,bw,.mapv tI tI]⟩ [(.exit 2,⟨104,.any::.con ai::.con tI::.box 0 0::aN 3 (.box 1 0::.any::.box 2 0::aN 50 [.con ag,.con tI]),[bo,bv,bw,.mapv tI tI]⟩,[aW])]
def zn (ρ:Type):ß ρ:=⟨[],156,2,zo,fun(p:Val (tyL zo.cs)) (v:Val (.pair tI aW)) a b=>mB p.2.2.1 p.2.2.2.1 v.1 v.2 (fun c d=>a (c,d)) (b 0)⟩
def LU:Ç:=Ls 4 [aa,tI,tI,tI,ag,ab,ah,ac,ab,tI,aa,aW] [tI] ⟨19,.con aa::.fn 223 [(2,0)]::aN 5 [.con tI,.var tI],bY⟩ [(.ret,⟨19,[.con aa,.fn 223 [(2,0)],.any,.any,.var tI,.any,.any,.con tI],bY⟩,[tI]),(.exit 0,⟨19,.con aa::.fn 223 [(2,0)]::aN 5 [.con tI],bY⟩,[])]
def zm (ρ:Type):ß ρ:=⟨[18,3,1,2],260,0,LU,fun(p:Val aE) (v:Val tI) b a=>mA p.1 p.2.1 p.2.2.2.2.2.2.2.2.2.2.2 v (fun c=>b c) (a 0) (a 1)⟩
def LS:Ç:=Ls 4 [aa,tI,tI,tI,ag,ab,ah,ac,ab,tI,aa,aW] [tI] ⟨19,.con aa::.fn 224 [(1,0),(2,0)]::aN 5 [.con tI,.var tI],bY⟩ [(.ret,⟨19,[.con aa,.fn 224 [(1,0),(2,0)],.any,.any,.var tI,.any,.any,.con tI],bY⟩,[tI]),(.exit 0,⟨19,.con aa::.fn 224 [(1,0),(2,0)]::aN 5 [.con tI],bY⟩,[])]
def zl (ρ:Type):ß ρ:=⟨[20,3,1,2],260,0,LS,fun(p:Val aE) (v:Val tI) b a=>jV p.1 p.2.1 p.2.2.2.2.2.2.2.2.2.1 p.2.2.2.2.2.2.2.2.2.2.2 v (fun c=>b c) (a 0) (a 1)⟩
def LR:Ç:=Ls 4 [aa,tI,tI,tI,ag,ab,ah,ac,ab,tI,aa,aW] [tI] ⟨19,.con aa::.fn 225 [(0,0),(1,0)]::aN 5 [.con tI,.var tI],bY⟩ [(.ret,⟨19,[.con aa,.fn 225 [(0,0),(1,0)],.any,.any,.var tI,.any,.any,.con tI],bY⟩,[tI]),(.exit 0,⟨19,.con aa::.fn 225 [(0,0),(1,0)]::aN 5 [.con tI],bY⟩,[])]
def zk (ρ:Type):ß ρ:=⟨[24,3,1,2],260,0,LR,fun(p:Val aE) (v:Val tI) b a=>let A:=p.2.2.2.2;ľ p.1 p.2.1 p.2.2.1 p.2.2.2.1 A.1 A.2.1 A.2.2.1 A.2.2.2.1 A.2.2.2.2.1 A.2.2.2.2.2.1 v (fun c=>b c) (a 0) (a 1)⟩
def SE:List (Nat×á):=[(226,Xl)]
def Pb (ρ:Type):List (ß ρ):=[zp ρ,zn ρ,zm ρ,zl ρ,zk ρ]
def jM (ρ:Type):Env ρ:=è SE (Pb ρ)
def iz:á:=⟨[Â],[tI],fun(x:Val Â)=>ο x⟩
def L9:Ç:=Ls 0 [ai,tI,tI,tI,tI,tI,ag,ab,ah,ac,ab,ai] [tI,tI] ⟨50,.any::.box 0 0::aN 2 (.var tI::aN 15 (.con ai::.con tI::.con tI::aN 15 [.con tI,.var tI])),[bu]⟩ [(.exit 2,⟨50,.any::.box 0 0::aN 2 (.var tI::aN 15 (.con ai::.con tI::.con tI::aN 15 [.con tI])),[bu]⟩,[tI])]
def zx (ρ:Type):ß ρ:=⟨[],80,2,L9,fun(p:Val (.pair ai bg)) (v:Val Ã) a b=>mD p.2.2.2.1 v.1 v.2 (fun c d=>a (c,d)) (b 0)⟩
def Ma:Ç:=Ls 0 [ai,tI,tI,tI,ag,ab,ah,ac,ab,ai] [tI,tI] ⟨50,.any::.box 0 0::aN 2 (.var tI::aN 15 [.con ai,.con tI,.var tI]),[bu]⟩ [(.ret,⟨50,.any::.box 0 0::.var tI::aN 17 [.con ai,.con tI],[bu]⟩,[tI]),(.exit 0,⟨50,.any::.box 0 0::aN 2 (.var tI::aN 15 [.con ai,.con tI]),[bu]⟩,[tI])]
def zy (ρ:Type):ß ρ:=⟨[],80,0,Ma,fun(p:Val (.pair ai aD)) (v:Val Ã) b a=>let A:=p.2.2.2.2;qx p.1 p.2.1 p.2.2.1 p.2.2.2.1 A.1 A.2.1 A.2.2.1 A.2.2.2.1 A.2.2.2.2.1 A.2.2.2.2.2 v.1 v.2 (fun c d=>b (c,d)) (a 0) (a 1)⟩
def SO:List (Nat×á):=[(72,rR),(156,RQ)]
def Pr (ρ:Type):List (ß ρ):=[zx ρ,zy ρ]
def tU (ρ:Type):Env ρ:=è SO (Pr ρ)
def Ũ:á:=⟨[ab,Ã],[tI],fun(x:Val (.pair ab Ã))=>ï x.1 x.2⟩
def kY:Ç:=Ls 0 [ab,tI,tI,tI] [tI] ⟨19,[.con ab,.any,.any,.box 0 0,.any,.any,.any,.con tI,.var tI],[bz]⟩ [(.ret,⟨19,[.con ab,.any,.any,.box 0 0,.var tI,.any,.any,.con tI],[bz]⟩,[tI]),(.exit 0,⟨19,[.con ab,.any,.any,.box 0 0,.any,.any,.any,.con tI],[bz]⟩,[])]
def Λ (ρ:Type):ß ρ:=⟨[],135,0,kY,fun(p:Val (.pair ab Ō)) (v:Val tI) b a=>Ģ p.1 p.2.1 p.2.2.1 p.2.2.2 v (fun c=>b c) (a 0) (a 1)⟩
def mO:List (Nat×á):=[]
def lQ (ρ:Type):List (ß ρ):=[Λ ρ]
def Ŕ (ρ:Type):Env ρ:=è mO (lQ ρ)
def FT:á:=⟨[aU,aa,tI],[tI],fun(x:Val (.pair aU ay))=>jY x.1 x.2.1 x.2.2⟩
def JV:List (Nat×á):=[(135,Ũ)]
def He (ρ:Type):List (ß ρ):=[]
def zR (ρ:Type):Env ρ:=è JV (He ρ)
def Xj:á:=⟨[É,Ô,tI,tI],[tI],fun(x:Val (.pair É (.pair Ô Ã)))=>yi x.1 x.2.1 x.2.2.1 x.2.2.2⟩
def C2:Ç:=Ls 0 [tI,tI,ah,tI,tI,tI,ag,ab,ah,ac,ab,tI,tI,tI,tI,tI,tI,tI,tI] [tI,tI] ⟨88,aN 2 (.con tI::.con tI::.box 0 0::.box 1 0::aN 3 (.var tI::aN 7 [.con ah,.con tI,.var tI])),[bo,bp]⟩ [(.exit 0,⟨88,aN 2 (.con tI::.con tI::.box 0 0::.box 1 0::aN 3 (.var tI::aN 7 [.con ah,.con tI])),[bo,bp]⟩,[tI])]
def C1 (ρ:Type):ß ρ:=⟨[],247,0,C2,fun(p:Val (tyL C2.cs)) (v:Val Ã) a b=>uA p.1 p.2.1 p.2.2.1 p.2.2.2.1 p.2.2.2.2.2.2.2.2.2.2.2.1 v.1 v.2 (fun c d=>a (c,d)) (b 0)⟩
def C0:Ç:=Ls 0 [tI,tI,tI,ab,tI,tI,tI,tI,tI,tI,tI,tI,tI] [tI,aa] ⟨88,aN 2 (.con tI::.con tI::.any::.box 0 0::aN 3 (.con tI::aN 3 (.own 1::aN 39 [.con ab,.con tI,.var tI]))),[bp,.rowv tI]⟩ [(.exit 2,⟨88,aN 2 (.con tI::.con tI::.any::.box 0 0::aN 3 (.con tI::aN 3 (.own 1::aN 39 [.con ab,.con tI]))),[bp,.rowv tI]⟩,[aa])]
def CZ (ρ:Type):ß ρ:=⟨[],247,2,C0,fun(p:Val (tyL C0.cs)) (v:Val ŋ) a b=>uz p.1 p.2.1 p.2.2.2.1 p.2.2.2.2.1 p.2.2.2.2.2.1 v.1 v.2 (fun c d=>a (c,d)) (b 0)⟩
def VJ:List (Nat×á):=[(212,jR)]
def Tn (ρ:Type):List (ß ρ):=[C1 ρ,CZ ρ]
def xS (ρ:Type):Env ρ:=è VJ (Tn ρ)
def vf:á:=⟨[am,aa],[Ã],fun(x:Val (.pair am aa))=>gZ x.1 x.2⟩
def AZ:List (Nat×á):=[]
def yN (ρ:Type):List (ß ρ):=[]
def qF (ρ:Type):Env ρ:=è AZ (yN ρ)
def rO:á:=⟨[ab],[tI],fun(x:Val ab)=>ju x⟩
def Ml:Ç:=Ls 0 [ab,tI] [tI] ⟨15,aN 5 [.con ab,.con tI,.var tI],[]⟩ [(.ret,⟨15,[.any,.any,.var tI,.any,.any,.con ab,.con tI],[]⟩,[tI]),(.exit 0,⟨15,aN 5 [.con ab,.con tI],[]⟩,[])]
def zN (ρ:Type):ß ρ:=⟨[],264,0,Ml,fun(p:Val bc) (v:Val tI) b a=>qE p.1 p.2 v (fun c=>b c) (a 0) (a 1)⟩
def S0:List (Nat×á):=[(253,BJ)]
def PH (ρ:Type):List (ß ρ):=[zN ρ]
def AQ (ρ:Type):Env ρ:=è S0 (PH ρ)
def Aj:á:=⟨[tI,tI],[Ã,tI],fun(x:Val Ã)=>pr x.1 x.2⟩
def Mm:List (Nat×á):=[(291,OM),(292,UW)]
def JE (ρ:Type):List (ß ρ):=[]
def CL (ρ:Type):Env ρ:=è Mm (JE ρ)
def aaB:á:=⟨[Ã,Ã],[Ã,tI],fun(x:Val Ĕ)=>QC x.1 x.2⟩
def Y0:List (Nat×á):=[(264,rO),(312,Aj)]
def VA (ρ:Type):List (ß ρ):=[]
def Tc (ρ:Type):Env ρ:=è Y0 (VA ρ)
def BL:á:=⟨[Ã,Ã],[Ã],fun(x:Val Ĕ)=>uP x.1 x.2⟩
def Hd:List (Nat×á):=[(296,aaB)]
def EU (ρ:Type):List (ß ρ):=[]
def xa (ρ:Type):Env ρ:=è Hd (EU ρ)
def UX:á:=⟨[Ã,Ã],[tI],fun(x:Val Ĕ)=>KI x.1 x.2⟩
def YZ:List (Nat×á):=[]
def Vx (ρ:Type):List (ß ρ):=[]
def Ta (ρ:Type):Env ρ:=è YZ (Vx ρ)
def zc:á:=⟨[Ĕ],[.bool],fun(x:Val Ĕ)=>rK x⟩
def EO:List (Nat×á):=[(264,rO),(320,UX)]
def CM (ρ:Type):List (ß ρ):=[]
def vm (ρ:Type):Env ρ:=è EO (CM ρ)
def aaC:á:=⟨[Ã,Ã],[Ã,tI],fun(x:Val Ĕ)=>KK x.1 x.2⟩
def Y3:List (Nat×á):=[(264,rO),(312,Aj)]
def VD (ρ:Type):List (ß ρ):=[]
def Te (ρ:Type):Env ρ:=è Y3 (VD ρ)
def RY:á:=⟨[Ĕ,Ã],[Ĕ,tI],fun(x:Val (.pair Ĕ Ã))=>KJ x.1 x.2⟩
def F7:List (Nat×á):=[(253,BJ),(313,zc),(316,aaC),(320,UX)]
def uj (ρ:Type):List (ß ρ):=[]
def F6:List aer:=[⟨[3,2],314,0,4⟩]
def Td (ρ:Type):Env ρ:=è F7 (uj ρ)
def AU (ρ:Type):Env ρ:=mkEnvU F7 (uj ρ) F6
def BK:á:=⟨[Ã,Ã],[Ĕ],fun(x:Val Ĕ)=>oi x.1 x.2⟩
def Hc:List (Nat×á):=[(297,RY)]
def ES (ρ:Type):List (ß ρ):=[]
def wZ (ρ:Type):Env ρ:=è Hc (ES ρ)
def Nq:á:=⟨[É,å],[Ĕ],fun(x:Val aX)=>tj x.1 x.2⟩
def P5:List (Nat×á):=[(143,tG),(148,BN),(261,vf),(262,BL),(263,BK)]
def MG (ρ:Type):List (ß ρ):=[]
def Ga (ρ:Type):Env ρ:=è P5 (MG ρ)
def R0:á:=⟨[É,å],[Ã],fun(x:Val aX)=>xq x.1 x.2⟩
def Tt:List (Nat×á):=[]
def P6 (ρ:Type):List (ß ρ):=[]
def J1 (ρ:Type):Env ρ:=è Tt (P6 ρ)
def Ii:á:=⟨[tI,tI],[tI],fun(x:Val Ã)=>xp x.1 x.2⟩
def S9:List (Nat×á):=[]
def PL (ρ:Type):List (ß ρ):=[]
def JH (ρ:Type):Env ρ:=è S9 (PL ρ)
def Xg:á:=⟨[Ã],[tI,tI],fun(x:Val Ã)=>HK x⟩
def VG:List (Nat×á):=[(264,rO),(265,Ii)]
def Tg (ρ:Type):List (ß ρ):=[]
def NN (ρ:Type):Env ρ:=è VG (Tg ρ)
def RZ:á:=⟨[Ã],[tI,tI],fun(x:Val Ã)=>DG x⟩
def Tf:List (Nat×á):=[(264,rO),(265,Ii)]
def PQ (ρ:Type):List (ß ρ):=[]
def JM (ρ:Type):Env ρ:=è Tf (PQ ρ)
def Xh:á:=⟨[É,å],[Ã],fun(x:Val aX)=>yh x.1 x.2⟩
def VH:List (Nat×á):=[(215,Nq),(216,R0),(217,Xg),(218,RZ)]
def Ti (ρ:Type):List (ß ρ):=[]
def NP (ρ:Type):Env ρ:=è VH (Ti ρ)
def Xi:á:=⟨[É],[aU],fun(x:Val É)=>HL x⟩
def CW:Ç:=Ls 2 [tI,aa,tI,ag,tI,tI,tI,tI,ag,ab,ah,ac,ab,tI,tI,ag,ab,ah,ac,ab,ab,tI,tI,tI,tI,tI,tI,tI,tI,tI] [tI,ak,ab] ⟨144,.box 1 0::.any::.con tI::.box 2 0::.con aa::.con tI::.var tI::aN 24 [.con ag,.con tI,.con tI],[bo,bB,bp,.rowv Ō,.rowv Ã]⟩ [(.exit 2,⟨144,.box 1 0::.any::.con tI::.box 2 0::.con aa::.con tI::aN 25 [.con ag,.con tI,.con tI],[bo,bB,bp,.rowv Ō,.rowv Ã]⟩,[ak,ab])]
def CV (ρ:Type):ß ρ:=⟨[2,1],200,2,CW,fun(p:Val (tyL CW.cs)) (v:Val (.pair tI Br)) a b=>let A:=p.2.2.2.2.2.2.2.2.2.2.2.2.2;let B:=A.2.2.2.2;let C:=B.2.2.2.2.2;let D:=C.2.2.2.2;uu p.1 p.2.1 p.2.2.1 A.1 A.2.1 A.2.2.1 A.2.2.2.1 B.1 B.2.1 B.2.2.1 C.1 C.2.1 C.2.2.1 C.2.2.2.1 D.1 D.2.1 D.2.2.1 D.2.2.2 v.1 v.2.1 v.2.2 (fun c d e=>a (c,d,e)) (b 0)⟩
def CY:Ç:=Ls 2 [ag,tI,tI,tI,ag,ab,ah,ac,ab,tI,tI,ag,ab,ah,ac,ab,ab,tI] [tI,ak,ab] ⟨144,.box 1 0::aN 30 [.con ag,.con tI,.var tI],bZ⟩ [(.exit 0,⟨144,.box 1 0::aN 30 [.con ag,.con tI],bZ⟩,[ak,ab])]
def CX (ρ:Type):ß ρ:=⟨[2,1],200,0,CY,fun(p:Val (tyL CY.cs)) (v:Val (.pair tI Br)) a b=>let A:=p.2.2.2.2.2.2.2.2.2;let B:=A.2.2.2.2;uw p.1 p.2.1 A.1 A.2.1 A.2.2.1 A.2.2.2.1 B.1 B.2.1 B.2.2.1 B.2.2.2.1 B.2.2.2.2 v.1 v.2.1 v.2.2 (fun c d e=>a (c,d,e)) (b 0)⟩
def CU:Ç:=Ls 2 [ac,tI,tI,tI,ag,ab,ah,ac,ab,tI,tI,ag,ab,ah,ac,ab,ab,tI] [tI,ak,ab] ⟨144,.box 1 0::aN 107 [.con ac,.con tI,.var tI],bZ⟩ [(.exit 4,⟨144,.box 1 0::aN 107 [.con ac,.con tI],bZ⟩,[ak,ab])]
def CT (ρ:Type):ß ρ:=⟨[2,1],200,4,CU,fun(p:Val (tyL CU.cs)) (v:Val (.pair tI Br)) a b=>let A:=p.2.2.2.2.2.2.2.2.2;let B:=A.2.2.2.2;ut p.1 p.2.1 A.1 A.2.1 A.2.2.1 A.2.2.2.1 B.1 B.2.1 B.2.2.1 B.2.2.2.1 B.2.2.2.2 v.1 v.2.1 v.2.2 (fun c d e=>a (c,d,e)) (b 0)⟩
def VI:List (Nat×á):=[(136,BM),(147,FT),(148,BN),(201,OO),(247,Xj),(248,Xh)]
def Tl (ρ:Type):List (ß ρ):=[CV ρ,CX ρ,CT ρ]
def sS (ρ:Type):Env ρ:=è VI (Tl ρ)
def rQ:á:=⟨[É],[Ì,ab,tI],fun(x:Val É)=>ic x⟩
def Qd:List (Nat×á):=[(72,rR),(132,Xi)]
def MM (ρ:Type):List (ß ρ):=[]
def Gb (ρ:Type):Env ρ:=è Qd (MM ρ)
def Ig:á:=⟨[Â,aj,tI,tI],[tI],fun(x:Val aZ)=>rJ x.1 x.2.1 x.2.2.1 x.2.2.2⟩
def Sw:Ç:=Ls 0 [aj,tI,tI,tI,ag,ab,ah,ac,ab,ai] [tI,tI] ⟨47,.any::.con aj::.var tI::.con tI::.box 0 0::aN 4 [.var tI],[bu]⟩ [(.exit 0,⟨47,[.any,.con aj,.var tI,.con tI,.box 0 0],[bu]⟩,[tI])]
def FW (ρ:Type):ß ρ:=⟨[],105,0,Sw,fun(p:Val (.pair aj aD)) (v:Val Ã) a b=>xN p.1 p.2.1 p.2.2.2.2.2.2.2.2.2 v.1 v.2 (fun c d=>a (c,d)) (b 0)⟩
def YU:List (Nat×á):=[(173,lE)]
def U7 (ρ:Type):List (ß ρ):=[FW ρ]
def IF (ρ:Type):Env ρ:=è YU (U7 ρ)
def vR:á:=⟨[aa,tI,ar,aF],[aa],fun(x:Val (.pair aa (.pair tI (.pair ar aF))))=>iN x.1 x.2.1 x.2.2.1 x.2.2.2⟩
def nI:Ç:=Ls 0 [tI,ar,aF,aa,tI] [tI,aa] ⟨28,[.any,.con tI,.con ar,.con aF,.any,.any,.any,.own 0,.any,.any,.con aa,.con tI,.var tI],bV⟩ [(.exit 0,⟨28,[.any,.con tI,.con ar,.con aF,.any,.any,.any,.own 0,.any,.any,.con aa,.con tI],bV⟩,[aa])]
def nH (ρ:Type):ß ρ:=⟨[],183,0,nI,fun(p:Val (tyL nI.cs)) (v:Val ŋ) a b=>ir p.1 p.2.1 p.2.2.1 p.2.2.2.1 p.2.2.2.2 v.1 v.2 (fun c d=>a (c,d)) (b 0)⟩
def BZ:List (Nat×á):=[(105,Ig)]
def Ay (ρ:Type):List (ß ρ):=[nH ρ]
def lH (ρ:Type):Env ρ:=è BZ (Ay ρ)
def iS:á:=⟨[Â,aj],[É],fun(x:Val aG)=>Α x.1 x.2⟩
def ql:Ç:=Ls 0 [ar,aF,ar,aF,ab,tI,tI,tI,tI,tI,ag,ab,ah,ac,ab,tI,tI,ag] [tI,ab] ⟨123,aN 2 (.con ar::.con aF::.box 0 0::.box 1 0::.box 2 0::.fnd 183 [Â,aj]::aN 18 [.con ab,.con tI,.var tI]),[bD,bo,bE,.rowc Ô,.rowv Ã]⟩ [(.exit 0,⟨123,aN 2 (.con ar::.con aF::.box 0 0::.box 1 0::.box 2 0::.fnd 183 [Â,aj]::aN 18 [.con ab,.con tI]),[bD,bo,bE,.rowc Ô,.rowv Ã]⟩,[ab])]
def qk (ρ:Type):ß ρ:=⟨[],104,0,ql,fun(p:Val (tyL ql.cs)) (v:Val aY) a b=>jE p.1 p.2.1 p.2.2.2.2.1 p.2.2.2.2.2.1 v.1 v.2 (fun c d=>a (c,d)) (b 0)⟩
def qj:Ç:=Ls 0 [ar,aF,ar,aF,ah,tI,tI,tI,tI,tI,ag,ab,ah,ac,ab,tI,tI,ag,ab] [tI,ah] ⟨123,aN 2 (.con ar::.con aF::.box 0 0::.box 1 0::.box 2 0::.fnd 183 [Â,aj]::aN 41 [.con ah,.con tI,.var tI]),b7⟩ [(.exit 2,⟨123,aN 2 (.con ar::.con aF::.box 0 0::.box 1 0::.box 2 0::.fnd 183 [Â,aj]::aN 41 [.con ah,.con tI]),b7⟩,[ah])]
def qi (ρ:Type):ß ρ:=⟨[],104,2,qj,fun(p:Val (tyL qj.cs)) (v:Val (.pair tI ah)) a b=>jD p.1 p.2.1 p.2.2.2.2.1 p.2.2.2.2.2.1 v.1 v.2 (fun c d=>a (c,d)) (b 0)⟩
def qg:Ç:=Ls 0 [ar,aF,ar,aF,ac,tI,tI,tI,tI,tI,ag,ab,ah,ac,ab,tI,tI,ag,ab,ah] [tI,ac] ⟨123,aN 2 (.con ar::.con aF::.box 0 0::.box 1 0::.box 2 0::.fnd 183 [Â,aj]::aN 64 [.con ac,.con tI,.var tI]),b8⟩ [(.exit 4,⟨123,aN 2 (.con ar::.con aF::.box 0 0::.box 1 0::.box 2 0::.fnd 183 [Â,aj]::aN 64 [.con ac,.con tI]),b8⟩,[ac])]
def qf (ρ:Type):ß ρ:=⟨[],104,4,qg,fun(p:Val (tyL qg.cs)) (v:Val aT) a b=>jC p.2.2.1 p.2.2.2.1 p.2.2.2.2.1 p.2.2.2.2.2.1 v.1 v.2 (fun c d=>a (c,d)) (b 0)⟩
def qe:Ç:=Ls 0 [ar,aF,ab,tI,tI,tI,tI,tI,ag,ab,ah,ac] [tI,ab] ⟨123,aN 2 (.con ar::.con aF::.box 0 0::.any::.box 1 0::aN 93 [.con ab,.con tI,.var tI]),b9⟩ [(.exit 6,⟨123,aN 2 (.con ar::.con aF::.box 0 0::.any::.box 1 0::aN 93 [.con ab,.con tI]),b9⟩,[ab])]
def qd (ρ:Type):ß ρ:=⟨[],104,6,qe,fun(p:Val (tyL qe.cs)) (v:Val aY) a b=>jB p.1 p.2.1 p.2.2.1 p.2.2.2.1 v.1 v.2 (fun c d=>a (c,d)) (b 0)⟩
def GF:List (Nat×á):=[(105,Ig),(183,vR)]
def rV (ρ:Type):List (ß ρ):=[qk ρ,qi ρ,qf ρ,qd ρ]
def ũ (ρ:Type):Env ρ:={è GF (rV ρ) with hint:=Qu [(78,183),(84,183)]}
def OK:á:=⟨[Ì,tI],[.bool],fun(x:Val (.pair Ì tI))=>yf x.1 x.2⟩
def Vo:List (Nat×á):=[]
def SU (ρ:Type):List (ß ρ):=[]
def NE (ρ:Type):Env ρ:=è Vo (SU ρ)
def vT:á:=⟨[Ì],[tI,tI],fun(x:Val Ì)=>pq x⟩
def Mk:Ç:=Ls 0 [ak,tI,tI,ak] [tI] ⟨57,.any::.box 0 0::aN 17 [.con ak,.con tI,.var tI],[bJ]⟩ [(.ret,⟨57,.any::.box 0 0::.var tI::.var tI::aN 15 [.con ak,.con tI],[bJ]⟩,[tI,tI]),(.exit 0,⟨57,.any::.box 0 0::aN 17 [.con ak,.con tI],[bJ]⟩,[])]
def zM (ρ:Type):ß ρ:=⟨[],126,0,Mk,fun(p:Val (.pair ak aR)) (v:Val tI) b a=>qD p.1 p.2.1 p.2.2.1 p.2.2.2 v (fun c=>b c) (a 0) (a 1)⟩
def SZ:List (Nat×á):=[(196,OK)]
def PF (ρ:Type):List (ß ρ):=[zM ρ]
def AP (ρ:Type):Env ρ:=è SZ (PF ρ)
def pR:á:=⟨[Ì,ao],[aa,.bool],fun(x:Val (.pair Ì ao))=>jX x.1 x.2⟩
def sQ:Ç:=Ls 2 [ao,ak,tI,tI,ak,aa,tI,ak,aq,aa] [tI,tI] ⟨140,.any::.con ao::.own 1::.box 2 0::aN 3 (.box 3 0::.own 4::.own 5::.var tI::aN 14 [.con ak,.con tI,.var tI]),[bJ,.rowc tI,bJ,.cells [.nils],.rowc .bool,.rowc tI]⟩ [(.exit 0,⟨140,.any::.con ao::.own 1::.box 2 0::aN 3 (.box 3 0::.own 4::.own 5::.var tI::aN 14 [.con ak,.con tI]),[bJ,.rowc tI,bJ,.cells [.nils],.rowc .bool,.rowc tI]⟩,[tI])]
def sP (ρ:Type):ß ρ:=⟨[2,3],197,0,sQ,fun(p:Val (tyL sQ.cs)) (v:Val Ã) a b=>ξ p.2.1 p.2.2.1 v.1 v.2 (fun c d=>a (c,d)) (b 0)⟩
def sO:Ç:=Ls 2 [ao,tI,tI,tI,ak,aa,tI,ak,aa] [tI,aq,aa] ⟨140,.any::.con ao::.own 1::.box 2 0::aN 3 (.box 3 0::.own 4::.own 5::.con tI::aN 27 [.con tI,.var tI]),ca⟩ [(.exit 2,⟨140,.any::.con ao::.own 1::.box 2 0::aN 3 (.box 3 0::.own 4::.own 5::.con tI::aN 27 [.con tI]),ca⟩,[aq,aa])]
def sN (ρ:Type):ß ρ:=⟨[2,3],197,2,sO,fun(p:Val (tyL sO.cs)) (v:Val (.pair tI aK)) a b=>ŏ p.2.2.1 p.2.2.2.2.2.1 v.1 v.2.1 v.2.2 (fun c d e=>a (c,d,e)) (b 0)⟩
def sL:Ç:=Ls 2 [ao,tI,tI,ak,tI,tI,ak,tI,ak,aa] [tI,aa,aq,aa] ⟨140,.any::.con ao::.own 1::.box 2 0::aN 3 (.box 3 0::.own 4::.own 5::.con tI::aN 3 (.con tI::aN 62 [.con ak,.con tI,.var tI])),cd⟩ [(.ret,⟨140,.any::.con ao::.own 1::.box 2 0::aN 2 (.var .bool::.box 3 0::.own 4::.own 5::.con tI::aN 3 (.con tI::aN 62 [.con ak,.con tI])),cd⟩,[.bool,aa,aq,aa]),(.exit 6,⟨140,.any::.con ao::.own 1::.box 2 0::aN 3 (.box 3 0::.own 4::.own 5::.con tI::aN 3 (.con tI::aN 62 [.con ak,.con tI])),cd⟩,[aa,aq,aa])]
def sK (ρ:Type):ß ρ:=⟨[2,3],197,6,sL,fun(p:Val (tyL sL.cs)) (v:Val (.pair tI (.pair aa aK))) b a=>iH p.1 p.2.1 p.2.2.1 p.2.2.2.1 p.2.2.2.2.1 v.1 v.2.1 v.2.2.1 v.2.2.2 (fun c d e f=>b (c,d,e,f)) (a 0) (a 1)⟩
def EI:Ç:=Ls 2 [ao,tI,tI,ak,tI,ak] [aa,aq,aa,aa] ⟨140,[.any,.con ao,.own 1,.box 2 0,.any,.any,.any,.box 3 0,.own 4,.own 5,.con tI],ce⟩ [(.ret,⟨140,[.any,.con ao,.own 1,.box 2 0,.any,.any,.var .bool,.box 3 0,.own 4,.own 5,.con tI],ce⟩,[.bool,aa,aq,aa,aa])]
def sM (ρ:Type):ß ρ:=⟨[2,3],197,4,EI,fun(p:Val (.pair ao bm)) (v:Val aL) a b=>Ĥ p.1 p.2.1 p.2.2.2.2.1 p.2.2.2.2.2 v.1 v.2.1 v.2.2.1 v.2.2.2 (fun c d e f=>a (c,d,e,f)) (b 0)⟩
def EH:Ç:=Ls 0 [tI,tI] [tI,aa] ⟨34,aN 6 (.own 0::.con tI::aN 13 [.con tI,.var tI]),bV⟩ [(.exit 0,⟨34,aN 6 (.own 0::.con tI::aN 13 [.con tI]),bV⟩,[aa])]
def sJ (ρ:Type):ß ρ:=⟨[],127,0,EH,fun(p:Val Ã) (v:Val ŋ) a b=>iG p.1 p.2 v.1 v.2 (fun c d=>a (c,d)) (b 0)⟩
def Jk:List (Nat×á):=[]
def G3 (ρ:Type):List (ß ρ):=[sP ρ,sN ρ,sK ρ,sM ρ,sJ ρ]
def Η (ρ:Type):Env ρ:=è Jk (G3 ρ)
def za:á:=⟨[Ì],[.bool,tI],fun(x:Val Ì)=>mj x⟩
def EM:List (Nat×á):=[(126,vT),(127,pR)]
def CF (ρ:Type):List (ß ρ):=[]
def vk (ρ:Type):Env ρ:=è EM (CF ρ)
def mu:á:=⟨[Â,aj],[.bool],fun(x:Val aG)=>ţ x.1 x.2⟩
def I6:List (Nat×á):=[(66,rQ),(104,iS),(155,za)]
def GJ (ρ:Type):List (ß ρ):=[]
def zr (ρ:Type):Env ρ:=è I6 (GJ ρ)
def Nk:á:=⟨[Â,aj],[tI],fun(x:Val aG)=>ĩ x.1 x.2⟩
def wj:Ç:=Ls 0 [tI,aj,tI,tI,aa,tI,tI,tI,ag,ab,ah,ac,ab,ai] [tI,tI] ⟨40,aN 2 (.box 0 0::aN 2 (.var tI::.con tI::aN 3 (.con aj::.con tI::.con tI::aN 4 [.con aa,.con tI,.var tI]))),[bu]⟩ [(.exit 2,⟨40,aN 2 (.box 0 0::aN 2 (.var tI::.con tI::aN 3 (.con aj::.con tI::.con tI::aN 4 [.con aa,.con tI]))),[bu]⟩,[tI])]
def wi (ρ:Type):ß ρ:=⟨[],116,2,wj,fun(p:Val (tyL wj.cs)) (v:Val Ã) a b=>let A:=p.2.2.2.2;nS p.1 A.1 A.2.1 A.2.2.2.2.2.2.2.2.2 v.1 v.2 (fun c d=>a (c,d)) (b 0)⟩
def IG:Ç:=Ls 0 [aj,tI,tI,tI,ag,ab,ah,ac,ab,ai] [tI,tI] ⟨40,aN 2 (.box 0 0::aN 2 (.var tI::aN 4 [.con aj,.con tI,.var tI])),[bu]⟩ [(.exit 0,⟨40,aN 2 (.box 0 0::aN 2 (.var tI::aN 4 [.con aj,.con tI])),[bu]⟩,[tI])]
def wm (ρ:Type):ß ρ:=⟨[],116,0,IG,fun(p:Val (.pair aj aD)) (v:Val Ã) a b=>nV p.1 p.2.1 p.2.2.2.2.2.2.2.2.2 v.1 v.2 (fun c d=>a (c,d)) (b 0)⟩
def O3:List (Nat×á):=[]
def LC (ρ:Type):List (ß ρ):=[wi ρ,wm ρ]
def pZ (ρ:Type):Env ρ:=è O3 (LC ρ)
def vU:á:=⟨[tI],[.bool],fun(x:Val tI)=>kK x⟩
def CO:List (Nat×á):=[]
def AW (ρ:Type):List (ß ρ):=[]
def sR (ρ:Type):Env ρ:=è CO (AW ρ)
def lF:á:=⟨[tI,tI],[tI],fun(x:Val Ã)=>ς x.1 x.2⟩
def yM:List (Nat×á):=[(234,vU)]
def wX (ρ:Type):List (ß ρ):=[]
def pk (ρ:Type):Env ρ:=è yM (wX ρ)
def Eg:á:=⟨[aj,aj,ar],[tI],fun(x:Val (.pair aj (.pair aj ar)))=>i6 x.1 x.2.1 x.2.2⟩
def O4:List (Nat×á):=[(116,Nk),(180,lF)]
def LK (ρ:Type):List (ß ρ):=[]
def FY (ρ:Type):Env ρ:=è O4 (LK ρ)
def þ:ZM:=⟨aj,[tI,tI],179,Â,fun(xs:Val af) (x:Val Ã) (m:Val Â)=>â xs x.1 x.2 m⟩
def ks:Ç:=Ls 2 [tI,tI,tI,tI,tI,ag,ab,ah,ac,ab,ai] [tI,af] ⟨53,.own 0::.con tI::.con tI::.fn 179 [(1,0)]::aN 4 [.con tI,.var tI],cf⟩ [(.exit 2,⟨53,.own 0::.con tI::.con tI::.fn 179 [(1,0)]::aN 4 [.con tI],cf⟩,[af])]
def ż (ρ:Type):ß ρ:=⟨[],273,2,ks,fun(p:Val bg) (v:Val aB) a b=>let A:=p.2.2.2.2;let B:=A.2.2.2.2;ã p.1 p.2.2.2.1 A.1 A.2.1 A.2.2.1 A.2.2.2.1 B.1 B.2.1 B.2.2 v.1 v.2 (fun c d=>a (c,d)) (b 0)⟩
def ku:Ç:=Ls 2 [tI,tI,tI,tI,ag,ab,ah,ac,ab,ai] [tI,af] ⟨53,.own 0::.con tI::.con tI::.fn 179 [(1,0)]::aN 4 [.var tI],cf⟩ [(.exit 0,⟨53,[.own 0,.con tI,.con tI,.fn 179 [(1,0)]],cf⟩,[af])]
def Ž (ρ:Type):ß ρ:=⟨[],273,0,ku,fun(p:Val (.pair tI aD)) (v:Val aB) a b=>let A:=p.2.2.2.2;Ć p.1 p.2.1 p.2.2.1 p.2.2.2.1 A.1 A.2.1 A.2.2.1 A.2.2.2.1 A.2.2.2.2.1 A.2.2.2.2.2 v.1 v.2 (fun c d=>a (c,d)) (b 0)⟩
def lO:List (Nat×á):=[(179,Eg)]
def Κ (ρ:Type):List (ß ρ):=[ż ρ,Ž ρ]
def ð (ρ:Type):Env ρ:={è lO (Κ ρ) with hint:=Qu [(22,179)]}
def ħ:ZM:=⟨aj,[tI,tI,tI],179,Â,fun(xs:Val af) (x:Val Ō) (m:Val Â)=>ī xs x.1 x.2.1 x.2.2 m⟩
def pK:Ç:=Ls 2 [tI,tI,tI,tI,tI,ag,ab,ah,ac,ab,ai] [tI,af] ⟨38,.own 0::.con tI::.con tI::.con tI::aN 6 [.var tI],cf⟩ [(.exit 0,⟨38,[.own 0,.con tI,.con tI,.con tI],cf⟩,[af])]
def jf (ρ:Type):ß ρ:=⟨[4,7],317,0,pK,fun(p:Val bg) (v:Val aB) a b=>ą p.1 p.2.1 p.2.2.1 v.1 v.2 (fun c d=>a (c,d)) (b 0)⟩
def pJ:Ç:=Ls 2 [tI,tI,tI,tI,tI,ag,ab,ah,ac,ab,ai] [tI,af] ⟨38,.own 0::.con tI::.con tI::.con tI::aN 6 [.var tI],cf⟩ [(.exit 0,⟨38,[.own 0,.con tI,.con tI,.con tI],cf⟩,[af])]
def je (ρ:Type):ß ρ:=⟨[6,11],317,0,pJ,fun(p:Val bg) (v:Val aB) a b=>κ p.1 p.2.1 p.2.2.1 v.1 v.2 (fun c d=>a (c,d)) (b 0)⟩
def pL:Ç:=Ls 2 [tI,tI,tI,ag,ab,ah,ac,ab,ai] [tI,tI,af] ⟨58,.own 0::.any::.con tI::.any::.fn 179 [(1,0)]::aN 5 [.var tI,.var tI],cf⟩ [(.exit 0,⟨58,.own 0::.any::.con tI::.any::.fn 179 [(1,0)]::aN 5 [.var tI],cf⟩,[tI,af])]
def jg (ρ:Type):ß ρ:=⟨[],300,0,pL,fun(p:Val aD) (v:Val (.pair tI aB)) a b=>Ĩ p.1 v.1 v.2.1 v.2.2 (fun c d e=>a (c,d,e)) (b 0)⟩
def pI:Ç:=Ls 2 [tI,tI,tI,tI,tI,ag,ab,ah,ac,ab,ai] [tI,af] ⟨38,.own 0::.con tI::.con tI::.con tI::aN 6 [.var tI],cf⟩ [(.exit 0,⟨38,[.own 0,.con tI,.con tI,.con tI],cf⟩,[af])]
def jd (ρ:Type):ß ρ:=⟨[8,7],317,0,pI,fun(p:Val bg) (v:Val aB) a b=>ι p.1 p.2.1 p.2.2.1 v.1 v.2 (fun c d=>a (c,d)) (b 0)⟩
def su:List (Nat×á):=[]
def jq (ρ:Type):List (ß ρ):=[jf ρ,je ρ,jg ρ,jd ρ]
def ù (ρ:Type):Env ρ:=è su (jq ρ)
def ke:ZM:=⟨aj,[tI,tI,tI],179,Â,fun(xs:Val af) (x:Val Ō) (m:Val Â)=>Ď xs x.1 x.2.1 x.2.2 m⟩
def ă:Ç:=Ls 2 [tI,af,tI,tI,ag,ab,ah,ac,ab,ai] [tI,tI] ⟨220,.own 0::.con tI::aN 2 (.fn 179 [(1,0)]::aN 5 [.var tI,.var tI]),cg⟩ [(.exit 0,⟨220,.own 0::.con tI::aN 2 (.fn 179 [(1,0)]::aN 5 [.var tI]),cg⟩,[tI])]
def ŝ (rec:Val af→Int→Int→Int→Val Â→Option ((Val af)×(Val Â))) (ρ:Type):ß ρ:=⟨[],274,0,ă,fun(p:Val aw) (v:Val Ã) a b=>ó rec p.1 p.2.1 p.2.2.1 p.2.2.2.1 p.2.2.2.2.1 p.2.2.2.2.2.1 p.2.2.2.2.2.2.1 p.2.2.2.2.2.2.2.1 p.2.2.2.2.2.2.2.2.1 p.2.2.2.2.2.2.2.2.2 v.1 v.2 (fun c d=>a (c,d)) (b 0)⟩
def Ă:Ç:=Ls 2 [tI,tI,tI,ag,ab,ah,ac,ab,ai] [tI,af] ⟨220,.own 0::aN 9 [.con tI,.any,.any,.var tI],cf⟩ [(.exit 2,⟨220,.own 0::aN 9 [.con tI],cf⟩,[af])]
def Ŝ (rec:Val af→Int→Int→Int→Val Â→Option ((Val af)×(Val Â))) (ρ:Type):ß ρ:=⟨[],274,2,Ă,fun(p:Val aD) (v:Val aB) a b=>ë rec p.1 v.1 v.2 (fun c d=>a (c,d)) (b 0)⟩
def ā:Ç:=Ls 2 [tI,af,tI,tI,ag,ab,ah,ac,ab,ai] [tI,tI] ⟨220,.own 0::.any::.con tI::.any::.fn 179 [(1,0)]::aN 9 [.var tI,.var tI],cg⟩ [(.exit 4,⟨220,.own 0::.any::.con tI::.any::.fn 179 [(1,0)]::aN 9 [.var tI],cg⟩,[tI])]
def ś (rec:Val af→Int→Int→Int→Val Â→Option ((Val af)×(Val Â))) (ρ:Type):ß ρ:=⟨[],274,4,ā,fun(p:Val aw) (v:Val Ã) a b=>ò rec p.1 p.2.1 p.2.2.1 p.2.2.2.1 p.2.2.2.2.1 p.2.2.2.2.2.1 p.2.2.2.2.2.2.1 p.2.2.2.2.2.2.2.1 p.2.2.2.2.2.2.2.2.1 p.2.2.2.2.2.2.2.2.2 v.1 v.2 (fun c d=>a (c,d)) (b 0)⟩
def Ā:Ç:=Ls 2 [tI,tI,tI,ag,ab,ah,ac,ab,ai] [tI,af] ⟨220,.own 0::aN 13 [.con tI,.any,.any,.var tI],cf⟩ [(.exit 6,⟨220,.own 0::aN 13 [.con tI],cf⟩,[af])]
def Ś (rec:Val af→Int→Int→Int→Val Â→Option ((Val af)×(Val Â))) (ρ:Type):ß ρ:=⟨[],274,6,Ā,fun(p:Val aD) (v:Val aB) a b=>ê rec p.1 v.1 v.2 (fun c d=>a (c,d)) (b 0)⟩
def ÿ:Ç:=Ls 2 [tI,tI,tI,tI,tI,tI,af,tI,tI,ag,ab,ah,ac,ab,ai] [tI,tI] ⟨220,.own 0::.con tI::.con tI::.con tI::.fn 179 [(1,0)]::aN 13 [.con tI,.con tI,.var tI,.var tI,.con tI],cg⟩ [(.exit 8,⟨220,.own 0::.con tI::.con tI::.con tI::.fn 179 [(1,0)]::aN 13 [.con tI,.con tI,.var tI,.any,.con tI],cg⟩,[tI])]
def ř (rec:Val af→Int→Int→Int→Val Â→Option ((Val af)×(Val Â))) (ρ:Type):ß ρ:=⟨[],274,8,ÿ,fun(p:Val aM) (v:Val Ã) a b=>Ü rec p.2.2.2.2.2.1 p.2.2.2.2.2.2.1 p.2.2.2.2.2.2.2.1 p.2.2.2.2.2.2.2.2.1 p.2.2.2.2.2.2.2.2.2.1 p.2.2.2.2.2.2.2.2.2.2.1 p.2.2.2.2.2.2.2.2.2.2.2.1 p.2.2.2.2.2.2.2.2.2.2.2.2.1 p.2.2.2.2.2.2.2.2.2.2.2.2.2.1 p.2.2.2.2.2.2.2.2.2.2.2.2.2.2 v.1 v.2 (fun c d=>a (c,d)) (b 0)⟩
def pE (rec:Val af→Int→Int→Int→Val Â→Option ((Val af)×(Val Â))):List (Nat×á):=[(179,Eg)]
def pD (rec:Val af→Int→Int→Int→Val Â→Option ((Val af)×(Val Â))):List (Nat×Yg):=[(274,.row ⟨aj,[tI,tI,tI],179,Â,fun(xs:Val af) (x:Val Ō) (m:Val Â)=>rec xs x.1 x.2.1 x.2.2 m⟩),(300,.row ħ)]
def iD (rec:Val af→Int→Int→Int→Val Â→Option ((Val af)×(Val Â))) (ρ:Type):List (ß ρ):=[ŝ rec ρ,Ŝ rec ρ,ś rec ρ,Ś rec ρ,ř rec ρ]
def Æ (rec:Val af→Int→Int→Int→Val Â→Option ((Val af)×(Val Â))) (ρ:Type):Env ρ:={Xq (pE rec) (iD rec ρ) (pD rec) with hint:=Qu [(40,179),(92,179),(158,179)]}
def ě:ZM:=⟨aj,[tI],179,Â,fun(xs:Val af) (x:Val tI) (m:Val Â)=>Ī xs x m⟩
def pH:Ç:=Ls 2 [tI,tI] [tI,tI,af,tI,tI,ag,ab,ah,ac,ab,ai] ⟨63,[.own 0,.con tI,.fn 179 [(1,0)],.any,.any,.any,.con tI,.var tI,.var tI],ci⟩ [(.exit 0,⟨63,[.own 0,.con tI,.fn 179 [(1,0)],.any,.any,.any,.con tI,.var tI],ci⟩,[tI,af,tI,tI,ag,ab,ah,ac,ab,ai])]
def jc (ρ:Type):ß ρ:=⟨[],233,0,pH,fun(p:Val Ã) (v:Val (.pair tI aw)) a b=>θ p.1 p.2 v.1 v.2.1 v.2.2.1 v.2.2.2.1 v.2.2.2.2.1 v.2.2.2.2.2.1 v.2.2.2.2.2.2.1 v.2.2.2.2.2.2.2.1 v.2.2.2.2.2.2.2.2.1 v.2.2.2.2.2.2.2.2.2.1 v.2.2.2.2.2.2.2.2.2.2 (fun c d e f g h i j k l m=>a (c,d,e,f,g,h,i,j,k,l,m)) (b 0)⟩
def pF:Ç:=Ls 2 [tI,tI] [tI,tI,af,tI,tI,ag,ab,ah,ac,ab,ai] ⟨63,[.own 0,.con tI,.fn 179 [(1,0)],.any,.any,.any,.con tI,.var tI,.var tI],ci⟩ [(.exit 4,⟨63,[.own 0,.con tI,.fn 179 [(1,0)],.any,.any,.any,.con tI,.var tI],ci⟩,[tI,af,tI,tI,ag,ab,ah,ac,ab,ai])]
def ja (ρ:Type):ß ρ:=⟨[],233,4,pF,fun(p:Val Ã) (v:Val (.pair tI aw)) a b=>ζ p.1 p.2 v.1 v.2.1 v.2.2.1 v.2.2.2.1 v.2.2.2.2.1 v.2.2.2.2.2.1 v.2.2.2.2.2.2.1 v.2.2.2.2.2.2.2.1 v.2.2.2.2.2.2.2.2.1 v.2.2.2.2.2.2.2.2.2.1 v.2.2.2.2.2.2.2.2.2.2 (fun c d e f g h i j k l m=>a (c,d,e,f,g,h,i,j,k,l,m)) (b 0)⟩
def pG:Ç:=Ls 2 [tI] [tI,af,tI,tI,ag,ab,ah,ac,ab,ai] ⟨63,[.own 0,.con tI,.fn 179 [(1,0)],.any,.any,.any,.var tI],ci⟩ [(.exit 2,⟨63,[.own 0,.con tI,.fn 179 [(1,0)]],ci⟩,[af,tI,tI,ag,ab,ah,ac,ab,ai])]
def jb (ρ:Type):ß ρ:=⟨[],233,2,pG,fun(p:Val tI) (v:Val aw) a b=>η p v.1 v.2.1 v.2.2.1 v.2.2.2.1 v.2.2.2.2.1 v.2.2.2.2.2.1 v.2.2.2.2.2.2.1 v.2.2.2.2.2.2.2.1 v.2.2.2.2.2.2.2.2.1 v.2.2.2.2.2.2.2.2.2 (fun c d e f g h i j k l=>a (c,d,e,f,g,h,i,j,k,l)) (b 0)⟩
def sr:List (Nat×á):=[]
def sq:List (Nat×Yg):=[(273,.row þ),(274,.row ke)]
def jp (ρ:Type):List (ß ρ):=[jc ρ,ja ρ,jb ρ]
def č (ρ:Type):Env ρ:=Xq sr (jp ρ) sq
def OI:á:=⟨[Â],[af],fun(x:Val Â)=>DA x⟩
def kp:Tpl:=⟨13,[.any,.any,.box 3 0],[.cells [.con tI,.con tI,.con ag,.con ab,.con ah,.con ac,.con ab,.con ai],.cells [.con tI,.con tI,.con ag,.con ab,.con ah,.con ac,.con ab,.con ai],.dead,.cells [.own 4],.rowv aj]⟩
def nX (ρ:Type):D0 ρ:=⟨[1,1,1,3,1,1],230,0,4,[tI,tI,ag,ab,ah,ac,ab,ai,tI,tI,ag,ab,ah,ac,ab,ai],[af],kp,po,fun(p:Val ax) (v:Val af) y a=>AF v y (fun b=>a b)⟩
def Cg:Ç:=Ls 5 [tI,tI,tI,ag,ab,ah,ac,ab,ai,tI,tI,ag,ab,ah,ac,ab,ai,ai,af] [tI] ⟨19,.own 4::.fn 158 [(0,0)]::aN 5 [.con tI,.var tI],[bu,bu,bM,bN,.rowc aj]⟩ [(.ret,⟨19,[.own 4,.fn 158 [(0,0)],.any,.any,.var tI,.any,.any,.con tI],[bu,bu,bM,bN,.rowc aj]⟩,[tI]),(.exit 0,⟨19,.own 4::.fn 158 [(0,0)]::aN 5 [.con tI],[bu,bu,bM,bN,.rowc aj]⟩,[])]
def Cf (ρ:Type):ß ρ:=⟨[1,3,1,2],186,0,Cg,fun(p:Val (tyL Cg.cs)) (v:Val tI) b a=>let A:=p.2.2.2.2;tP p.1 p.2.1 p.2.2.1 p.2.2.2.1 A.1 A.2.1 A.2.2.1 A.2.2.2.1 A.2.2.2.2.1 A.2.2.2.2.2.2.2.2.2.2.2.2.2.2 v (fun c=>b c) (a 0) (a 1)⟩
def Ce:Ç:=Ls 5 [tI,tI,ag,ab,ah,ac,ab,ai,tI,tI,ag,ab,ah,ac,ab,ai,ai] [tI,tI,af] ⟨42,[.own 4,.fn 158 [(0,0)],.any,.any,.any,.var tI,.var tI],[bu,bu,bM,bN,.rowv aj]⟩ [(.exit 0,⟨42,[.own 4,.fn 158 [(0,0)],.any,.any,.any,.var tI],[bu,bu,bM,bN,.rowv aj]⟩,[tI,af])]
def Cd (ρ:Type):ß ρ:=⟨[1,3],157,0,Ce,fun(p:Val (tyL Ce.cs)) (v:Val (.pair tI aB)) a b=>let A:=p.2.2.2.2;lL p.1 p.2.1 p.2.2.1 p.2.2.2.1 A.1 A.2.1 A.2.2.1 A.2.2.2.1 v.1 v.2.1 v.2.2 (fun c d e=>a (c,d,e)) (b 0)⟩
def I3 (ρ:Type):List (D0 ρ):=[nX ρ]
def Ve:List (Nat×á):=[(79,mu)]
def Vd:List (Nat×Yg):=[(233,.row ě)]
def F3 (ρ:Type):List (ß ρ):=[Cf ρ,Cd ρ]
def δ (ρ:Type):Env ρ:={Xq Ve (F3 ρ) Vd with ranges:=Ż (I3 ρ)}
def UV:á:=⟨[Â],[af,tI],fun(x:Val Â)=>KE x⟩
def YW:List (Nat×á):=[(80,iz),(81,OI)]
def Vk (ρ:Type):List (ß ρ):=[]
def SP (ρ:Type):Env ρ:=è YW (Vk ρ)
def xL:á:=⟨[Â],[af],fun(x:Val Â)=>qT x⟩
def km:Tpl:=⟨13,[.any,.any,.box 2 0],[.cells [.con tI,.con tI,.con ag,.con ab,.con ah,.con ac,.con ab,.con ai],.dead,.cells [.own 3],.rowv aj]⟩
def nW (ρ:Type):D0 ρ:=⟨[1,3,1,1],230,0,3,[tI,tI,ag,ab,ah,ac,ab,ai],[af],km,po,fun(p:Val ae) (v:Val af) y a=>Ar v y (fun b=>a b)⟩
def IH (ρ:Type):List (D0 ρ):=[nW ρ]
def Vb:List (Nat×á):=[]
def Va:List (Nat×Yg):=[(233,.row ě)]
def FX (ρ:Type):List (ß ρ):=[]
def iV (ρ:Type):Env ρ:={Xq Vb (FX ρ) Va with ranges:=Ż (IH ρ)}
def nQ:á:=⟨[Â],[aj,.bool],fun(x:Val Â)=>ú x⟩
def Ch:Ç:=Ls 1 [af,tI,tI,tI,ag,ab,ah,ac,ab,ai] [tI] ⟨21,.any::.fn 159 [(0,0)]::aN 7 [.con af,.con tI,.var tI],[bu]⟩ [(.ret,⟨21,[.any,.fn 159 [(0,0)],.any,.any,.var aj,.var .bool,.any,.any,.any,.con af,.con tI],[bu]⟩,[aj,.bool]),(.exit 0,⟨21,.any::.fn 159 [(0,0)]::aN 7 [.con af,.con tI],[bu]⟩,[])]
def qo (ρ:Type):ß ρ:=⟨[1,3],99,0,Ch,fun(p:Val (.pair af aD)) (v:Val tI) b a=>let A:=p.2.2.2.2;jF p.1 p.2.1 p.2.2.1 p.2.2.2.1 A.1 A.2.1 A.2.2.1 A.2.2.2.1 A.2.2.2.2.1 A.2.2.2.2.2 v (fun c=>b c) (a 0) (a 1)⟩
def GM:List (Nat×á):=[(79,mu),(96,xL)]
def Es (ρ:Type):List (ß ρ):=[qo ρ]
def oS (ρ:Type):Env ρ:=è GM (Es ρ)
def RT:á:=⟨[Â],[aj,tI],fun(x:Val Â)=>DD x⟩
def SL:List (Nat×á):=[(80,iz),(82,nQ)]
def Pl (ρ:Type):List (ß ρ):=[]
def Jd (ρ:Type):Env ρ:=è SL (Pl ρ)
def tF:á:=⟨[aa,aa],[.bool],fun(x:Val (.pair aa aa))=>i7 x.1 x.2⟩
def Cw:Ç:=Ls 0 [aa,aa] [tI] ⟨26,[.con aa,.con aa,.any,.any,.any,.var tI],[]⟩ [(.ret,⟨26,[.con aa,.con aa,.any,.any,.var .bool],[]⟩,[.bool]),(.exit 0,⟨26,[.con aa,.con aa],[]⟩,[])]
def qy (ρ:Type):ß ρ:=⟨[],35,0,Cw,fun(p:Val (.pair aa aa)) (v:Val tI) b a=>jH p.1 p.2 v (fun c=>b c) (a 0) (a 1)⟩
def G0:List (Nat×á):=[]
def EE (ρ:Type):List (ß ρ):=[qy ρ]
def ph (ρ:Type):Env ρ:=è G0 (EE ρ)
def vS:á:=⟨[aj,aj],[.bool],fun(x:Val (.pair aj aj))=>nf x.1 x.2⟩
def ED:Ç:=Ls 0 [aj,aj] [tI] ⟨29,[.con aj,.con aj,.any,.any,.any,.var tI],[]⟩ [(.ret,⟨29,[.con aj,.con aj,.any,.any,.var .bool],[]⟩,[.bool]),(.exit 0,⟨29,[.con aj,.con aj],[]⟩,[])]
def sI (ρ:Type):ß ρ:=⟨[],26,0,ED,fun(p:Val (.pair aj aj)) (v:Val tI) b a=>kE p.1 p.2 v (fun c=>b c) (a 0) (a 1)⟩
def Jj:List (Nat×á):=[(35,tF)]
def GY (ρ:Type):List (ß ρ):=[sI ρ]
def rt (ρ:Type):Env ρ:=è Jj (GY ρ)
def BF:á:=⟨[Â,tI,tI],[tI],fun(x:Val (.pair Â Ã))=>ta x.1 x.2.1 x.2.2⟩
def zi:Ç:=Ls 2 [ag,tI,tI,tI,ag,ab,ah,ac,ab,ai,tI] [tI] ⟨19,.con ag::.fn 169 [(1,0)]::aN 5 [.con tI,.var tI],[bu,br]⟩ [(.ret,⟨19,[.con ag,.fn 169 [(1,0)],.any,.any,.var tI,.any,.any,.con tI],[bu,br]⟩,[tI]),(.exit 0,⟨19,.con ag::.fn 169 [(1,0)]::aN 5 [.con tI],[bu,br]⟩,[])]
def zh (ρ:Type):ß ρ:=⟨[3,4,1,2],229,0,zi,fun(p:Val (tyL zi.cs)) (v:Val tI) b a=>qm p.1 p.2.1 p.2.2.2.2.2.2.2.2.2.2 v (fun c=>b c) (a 0) (a 1)⟩
def SB:List (Nat×á):=[]
def O8 (ρ:Type):List (ß ρ):=[zh ρ]
def AE (ρ:Type):Env ρ:=è SB (O8 ρ)
def Nr:á:=⟨[aa,aa],[aa,aa,tI],fun(x:Val (.pair aa aa))=>oE x.1 x.2⟩
def Qh:List (Nat×á):=[(148,BN),(172,Eh)]
def MP (ρ:Type):List (ß ρ):=[]
def Gc (ρ:Type):Env ρ:=è Qh (MP ρ)
def BH:á:=⟨[Â,tI],[.bool,tI],fun(x:Val (.pair Â tI))=>og x.1 x.2⟩
def qu:Ç:=Ls 6 [tI,tI,tI,ag,ab,ah,ac,ab,ai,tI,tI,tI,ag,ab,ah,ac,ab,ai,tI,tI,ac] [tI] ⟨19,.own 5::.fn 171 [(3,0)]::aN 5 [.con tI,.var tI],cj⟩ [(.ret,⟨19,[.own 5,.fn 171 [(3,0)],.any,.any,.var tI,.any,.any,.con tI],cj⟩,[tI]),(.exit 0,⟨19,.own 5::.fn 171 [(3,0)]::aN 5 [.con tI],cj⟩,[])]
def qt (ρ:Type):ß ρ:=⟨[7,2,1,5,1,2],175,0,qu,fun(p:Val (tyL qu.cs)) (v:Val tI) b a=>jG p.1 p.2.2.2.2.2.2.2.2.2.1 p.2.2.2.2.2.2.2.2.2.2.2.2.2.2.2.2.2.2.2.2 v (fun c=>b c) (a 0) (a 1)⟩
def qr:Ç:=Ls 6 [tI,tI,ag,ab,ah,ac,ab,ai,tI,tI,tI,ag,ab,ah,ac,ab,ai,tI,tI] [tI,tI,ac] ⟨42,[.own 5,.fn 171 [(3,0)],.any,.any,.any,.var tI,.var tI],[bu,br,bu,bO,bP,.rowv å]⟩ [(.exit 0,⟨42,[.own 5,.fn 171 [(3,0)],.any,.any,.any,.var tI],[bu,br,bu,bO,bP,.rowv å]⟩,[tI,ac])]
def qq (ρ:Type):ß ρ:=⟨[7,2,1,5],151,0,qr,fun(p:Val (tyL qr.cs)) (v:Val (.pair tI aT)) a b=>Ÿ p.2.2.2.2.2.2.2.2.1 v.1 v.2.1 v.2.2 (fun c d e=>a (c,d,e)) (b 0)⟩
def GO:List (Nat×á):=[(80,iz),(82,nQ),(88,BF),(91,Nr),(92,ŗ)]
def Ex (ρ:Type):List (ß ρ):=[qt ρ,qq ρ]
def kq (ρ:Type):Env ρ:=è GO (Ex ρ)
def OH:á:=⟨[Â,aa],[Â],fun(x:Val (.pair Â aa))=>yc x.1 x.2⟩
def Cb:Ç:=Ls 7 [tI,tI,tI,ag,ab,ah,ac,ab,ai,aa,tI,tI,tI,tI,ag,ab,ah,ac,ab,ai,tI,tI,ac] [tI] ⟨19,.own 6::.fn 171 [(4,0)]::aN 5 [.con tI,.var tI],cm⟩ [(.ret,⟨19,[.own 6,.fn 171 [(4,0)],.any,.any,.var tI,.any,.any,.con tI],cm⟩,[tI]),(.exit 0,⟨19,.own 6::.fn 171 [(4,0)]::aN 5 [.con tI],cm⟩,[])]
def Ca (ρ:Type):ß ρ:=⟨[1,2,1,5,1,2],175,0,Cb,fun(p:Val (tyL Cb.cs)) (v:Val tI) b a=>tO p.1 p.2.2.2.2.2.2.2.2.2.1 p.2.2.2.2.2.2.2.2.2.2.2.2.2.2.2.2.2.2.2.2.2.2 v (fun c=>b c) (a 0) (a 1)⟩
def B9:Ç:=Ls 7 [tI,tI,ag,ab,ah,ac,ab,ai,aa,tI,tI,tI,tI,ag,ab,ah,ac,ab,ai,tI,tI] [tI,tI,ac] ⟨42,[.own 6,.fn 171 [(4,0)],.any,.any,.any,.var tI,.var tI],[bu,bn,bP,bu,bQ,bP,.rowv å]⟩ [(.exit 0,⟨42,[.own 6,.fn 171 [(4,0)],.any,.any,.any,.var tI],[bu,bn,bP,bu,bQ,bP,.rowv å]⟩,[tI,ac])]
def B8 (ρ:Type):ß ρ:=⟨[1,2,1,5],151,0,B9,fun(p:Val (tyL B9.cs)) (v:Val (.pair tI aT)) a b=>lK p.2.2.2.2.2.2.2.2.1 v.1 v.2.1 v.2.2 (fun c d e=>a (c,d,e)) (b 0)⟩
def Vc:List (Nat×á):=[(92,ŗ)]
def Sy (ρ:Type):List (ß ρ):=[Ca ρ,B8 ρ]
def xO (ρ:Type):Env ρ:=è Vc (Sy ρ)
def Xe:á:=⟨[Â],[aa,tI],fun(x:Val Â)=>HI x⟩
def Pp:Ç:=Ls 0 [ac,tI,tI,tI,ag,ab,ah,ac,ab,ai] [tI,aa] ⟨66,.any::.box 0 0::aN 5 (.own 1::aN 19 [.con ac,.con tI,.var tI]),[bu,.rowv tI]⟩ [(.exit 0,⟨66,.any::.box 0 0::aN 5 (.own 1::aN 19 [.con ac,.con tI]),[bu,.rowv tI]⟩,[aa])]
def Cs (ρ:Type):ß ρ:=⟨[],29,0,Pp,fun(p:Val (.pair ac aD)) (v:Val ŋ) a b=>tT p.1 p.2.1 v.1 v.2 (fun c d=>a (c,d)) (b 0)⟩
def Po:Ç:=Ls 0 [tI,tI,ag,ab,ah,ac,ab,ai] [aa,tI] ⟨66,.any::.box 0 0::aN 5 [.var aa,.any,.any,.var tI],[bu]⟩ [(.exit 2,⟨66,.any::.box 0 0::aN 5 [.var aa],[bu]⟩,[aa])]
def Cr (ρ:Type):ß ρ:=⟨[],29,2,Po,fun(p:Val ae) (v:Val ay) a b=>let A:=p.2.2.2.2;oT p.1 p.2.1 p.2.2.1 p.2.2.2.1 A.1 A.2.1 A.2.2.1 A.2.2.2 v.1 v.2 (fun c d=>a (c,d)) (b 0)⟩
def Vj:List (Nat×á):=[(80,iz),(82,nQ),(87,OH),(93,iq)]
def SM (ρ:Type):List (ß ρ):=[Cs ρ,Cr ρ]
def xP (ρ:Type):Env ρ:=è Vj (SM ρ)
def Nn:á:=⟨[aa,tI],[aa],fun(x:Val ay)=>g9 x.1 x.2⟩
def I7:Ç:=Ls 0 [tI,aa,tI] [tI,aa] ⟨26,[.any,.con tI,.any,.any,.any,.own 0,.any,.any,.con aa,.con tI,.var tI],bV⟩ [(.exit 0,⟨26,[.any,.con tI,.any,.any,.any,.own 0,.any,.any,.con aa,.con tI],bV⟩,[aa])]
def wz (ρ:Type):ß ρ:=⟨[],98,0,I7,fun(p:Val (.pair tI ay)) (v:Val ŋ) a b=>nY p.1 p.2.1 p.2.2 v.1 v.2 (fun c d=>a (c,d)) (b 0)⟩
def Pe:List (Nat×á):=[]
def L2 (ρ:Type):List (ß ρ):=[wz ρ]
def wA (ρ:Type):Env ρ:=è Pe (L2 ρ)
def FR:á:=⟨[Â,aa],[aa,tI],fun(x:Val (.pair Â aa))=>qU x.1 x.2⟩
def sl:Ç:=Ls 3 [ac,tI,tI,tI,ag,ab,ah,ac,ab,ai,aa,tI] [tI] ⟨19,.con ac::.fn 95 [(2,0)]::aN 5 [.con tI,.var tI],[bu,bn,br]⟩ [(.ret,⟨19,[.con ac,.fn 95 [(2,0)],.any,.any,.var tI,.any,.any,.con tI],[bu,bn,br]⟩,[tI]),(.exit 0,⟨19,.con ac::.fn 95 [(2,0)]::aN 5 [.con tI],[bu,bn,br]⟩,[])]
def sk (ρ:Type):ß ρ:=⟨[9,4,1,2],175,0,sl,fun(p:Val (tyL sl.cs)) (v:Val tI) b a=>kr p.1 p.2.1 p.2.2.2.2.2.2.2.2.2.2.2 v (fun c=>b c) (a 0) (a 1)⟩
def sn:Ç:=Ls 0 [aa,tI,tI,tI,ag,ab,ah,ac,ab,ai,aa] [tI] ⟨135,aN 2 (.box 0 0::.box 1 0::aN 28 [.con aa,.con tI,.var tI]),[bu,bn]⟩ [(.ret,⟨135,aN 2 (.box 0 0::.box 1 0::.nils::.var tI::aN 26 [.con aa,.con tI]),[bu,bn]⟩,[tI]),(.exit 0,⟨135,aN 2 (.box 0 0::.box 1 0::aN 28 [.con aa,.con tI]),[bu,bn]⟩,[])]
def sm (ρ:Type):ß ρ:=⟨[],30,0,sn,fun(p:Val (tyL sn.cs)) (v:Val tI) b a=>ε p.1 p.2.1 p.2.2.2.2.2.2.2.1 v (fun c=>b c) (a 0) (a 1)⟩
def sj:Ç:=Ls 0 [tI,tI,ag,ab,ah,ac,ab,ai,aa] [tI] ⟨135,aN 2 (.box 0 0::.box 1 0::aN 5 [.var tI]),[bu,bn]⟩ [(.ret,⟨135,[.any,.any,.box 0 0,.box 1 0,.nils,.var tI],[bu,bn]⟩,[tI]),(.exit 2,⟨135,[.any,.any,.box 0 0,.box 1 0],[bu,bn]⟩,[])]
def si (ρ:Type):ß ρ:=⟨[],30,2,sj,fun(p:Val (tyL sj.cs)) (v:Val tI) b a=>iC p.2.2.2.2.2.2.2.2 v (fun c=>b c) (a 0) (a 1)⟩
def sh:Ç:=Ls 4 [af,tI,tI,tI,ag,ab,ah,ac,ab,ai,aa,tI] [tI] ⟨21,.any::.fn 100 [(3,0),(2,0)]::aN 7 [.con af,.con tI,.var tI],[bu,bn,br,bR]⟩ [(.ret,⟨21,[.any,.fn 100 [(3,0),(2,0)],.any,.any,.var aj,.var .bool,.any,.any,.any,.con af,.con tI],[bu,bn,br,bR]⟩,[aj,.bool]),(.exit 0,⟨21,.any::.fn 100 [(3,0),(2,0)]::aN 7 [.con af,.con tI],[bu,bn,br,bR]⟩,[])]
def sg (ρ:Type):ß ρ:=⟨[21,2],99,0,sh,fun(p:Val (tyL sh.cs)) (v:Val tI) b a=>let A:=p.2.2.2.2;let B:=A.2.2.2.2;iB p.1 p.2.1 p.2.2.1 p.2.2.2.1 A.1 A.2.1 A.2.2.1 A.2.2.2.1 B.1 B.2.1 B.2.2.1 B.2.2.2 v (fun c=>b c) (a 0) (a 1)⟩
def sd:Ç:=Ls 4 [aa,aa,aa,tI,aa,aa,tI,tI,ag,ab,ah,ac,ab,ai] [tI] ⟨36,.con aa::.con aa::aN 7 [.con aa,.con tI,.var tI],cn⟩ [(.ret,⟨36,.con aa::.con aa::aN 2 (.var tI::aN 4 [.con aa,.con tI]),cn⟩,[tI]),(.exit 0,⟨36,.con aa::.con aa::aN 7 [.con aa,.con tI],cn⟩,[])]
def sc (ρ:Type):ß ρ:=⟨[29,14],101,0,sd,fun(p:Val (tyL sd.cs)) (v:Val tI) b a=>Ŭ p.2.1 p.2.2.1 p.2.2.2.1 v (fun c=>b c) (a 0) (a 1)⟩
def sa:Ç:=Ls 0 [af,aa,tI,tI,aa,tI,tI,tI,aa,aa,tI,tI,ag,ab,ah,ac,ab,ai] [tI] ⟨135,aN 3 (.box 0 0::aN 6 (.con af::.any::.box 1 0::.own 2::aN 2 (.con aa::.con tI::.con tI::.con aa::aN 57 (.con tI::.con tI::aN 23 [.own 2,.con tI,.var tI])))),cn⟩ [(.exit 5,⟨135,aN 3 (.box 0 0::aN 6 (.con af::.any::.box 1 0::.own 2::aN 2 (.con aa::.con tI::.con tI::.con aa::aN 57 (.con tI::.con tI::aN 23 [.own 2,.con tI])))),cn⟩,[]),(.exit 6,⟨135,aN 3 (.box 0 0::aN 6 (.con af::.any::.box 1 0::.own 2::aN 2 (.con aa::.con tI::.con tI::.con aa::aN 57 (.con tI::.con tI::aN 23 [.own 2,.con tI])))),cn⟩,[])]
def rZ (ρ:Type):ß ρ:=⟨[],30,6,sa,fun(p:Val (tyL sa.cs)) (v:Val tI) b a=>Ŏ p.2.2.2.1 p.2.2.2.2.2.2.2.1 p.2.2.2.2.2.2.2.2.2.1 v (fun c=>b c) (a 0) (a 1)⟩
def rY:Ç:=Ls 0 [af,aa,tI,tI,aa,tI,tI,af,tI,aa,tI,tI,ag,ab,ah,ac,ab,ai] [tI,aa] ⟨135,aN 3 (.box 0 0::aN 6 (.con af::.any::.box 1 0::.own 2::aN 2 (.con aa::.con tI::.con tI::.con aa::aN 57 (.con tI::.con tI::aN 34 [.con af,.con tI,.var tI])))),cp⟩ [(.exit 5,⟨135,aN 3 (.box 0 0::aN 6 (.con af::.any::.box 1 0::.own 2::aN 2 (.con aa::.con tI::.con tI::.con aa::aN 57 (.con tI::.con tI::aN 34 [.con af,.con tI])))),cp⟩,[aa]),(.exit 8,⟨135,aN 3 (.box 0 0::aN 6 (.con af::.any::.box 1 0::.own 2::aN 2 (.con aa::.con tI::.con tI::.con aa::aN 57 (.con tI::.con tI::aN 34 [.con af,.con tI])))),cp⟩,[aa])]
def rX (ρ:Type):ß ρ:=⟨[],30,8,rY,fun(p:Val (tyL rY.cs)) (v:Val ŋ) b a=>let A:=p.2.2.2.2.2.2.2;let B:=A.2.2.2.2;let C:=B.2.2.2.2;ō p.2.2.2.1 A.1 A.2.1 A.2.2.1 A.2.2.2.1 B.1 B.2.1 B.2.2.1 B.2.2.2.1 C.1 C.2.1 C.2.2 v.1 v.2 (fun c d=>b (c,d)) (a 0) (a 1)⟩
def sf:Ç:=Ls 0 [af,tI,aa,tI,tI,ag,ab,ah,ac,ab,ai] [aa,tI,tI,aa] ⟨135,aN 3 (.box 0 0::aN 6 (.con af::.any::.box 1 0::.own 2::aN 2 (.var aa::.var tI::aN 59 [.con tI,.var tI]))),cp⟩ [(.exit 4,⟨135,aN 3 (.box 0 0::aN 6 (.con af::.any::.box 1 0::.own 2::aN 3 (.var tI::aN 59 [.con tI]))),cp⟩,[tI,aa])]
def se (ρ:Type):ß ρ:=⟨[],30,4,sf,fun(p:Val (tyL sf.cs)) (v:Val (.pair aa aO)) a b=>let A:=p.2.2.2.2;let B:=A.2.2.2.2;ŭ p.1 p.2.1 p.2.2.1 p.2.2.2.1 A.1 A.2.1 A.2.2.1 A.2.2.2.1 B.1 B.2.1 B.2.2 v.1 v.2.1 v.2.2.1 v.2.2.2 (fun c d e f=>a (c,d,e,f)) (b 0)⟩
def Ja:List (Nat×á):=[(79,mu),(80,iz),(87,OH),(96,xL),(98,Nn),(180,lF)]
def GQ (ρ:Type):List (ß ρ):=[sk ρ,sm ρ,si ρ,sg ρ,sc ρ,rZ ρ,rX ρ,se ρ]
def į (ρ:Type):Env ρ:=è Ja (GQ ρ)
def OJ:á:=⟨[Â],[af,tI],fun(x:Val Â)=>DB x⟩
def Vi:List (Nat×á):=[(80,iz),(96,xL)]
def SI (ρ:Type):List (ß ρ):=[]
def ND (ρ:Type):Env ρ:=è Vi (SI ρ)
def Sb:á:=⟨[É,Ã],[tI,tI],fun(x:Val aJ)=>pv x.1 x.2⟩
def TC:List (Nat×á):=[(72,rR),(135,Ũ),(136,BM)]
def Qf (ρ:Type):List (ß ρ):=[]
def J5 (ρ:Type):Env ρ:=è TC (Qf ρ)
def Xk:á:=⟨[É,Ã],[É,tI],fun(x:Val aJ)=>HM x.1 x.2⟩
def Df:Ç:=Ls 6 [tI,tI,tI,ag,ab,ah,ac,ab,tI,tI,tI,tI,tI,tI,ag,ab,ah,ac,ab,tI,tI,tI,tI,ac,tI,tI,ag,ab,ah,ab] [tI,ac] ⟨50,.any::.box 6 0::.box 7 0::.own 8::aN 21 [.own 8,.con tI,.var tI],cq⟩ [(.exit 0,⟨50,.any::.box 6 0::.box 7 0::.own 8::aN 21 [.own 8,.con tI],cq⟩,[ac])]
def De (ρ:Type):ß ρ:=⟨[1,2,4,1],202,0,Df,fun(p:Val (tyL Df.cs)) (v:Val aT) a b=>uG p.1 v.1 v.2 (fun c d=>a (c,d)) (b 0)⟩
def VN:List (Nat×á):=[(72,rR)]
def TA (ρ:Type):List (ß ρ):=[De ρ]
def E7 (ρ:Type):Env ρ:=è VN (TA ρ)
def RV:á:=⟨[Ì,aa],[tI],fun(x:Val bi)=>DF x.1 x.2⟩
def Mg:Ç:=Ls 0 [aa,tI,tI,ak] [tI] ⟨37,aN 2 (.box 0 0::aN 16 [.con aa,.con tI,.var tI]),[bJ]⟩ [(.ret,⟨37,aN 2 (.box 0 0::.any::.var tI::aN 14 [.con aa,.con tI]),[bJ]⟩,[tI]),(.exit 0,⟨37,aN 2 (.box 0 0::aN 16 [.con aa,.con tI]),[bJ]⟩,[])]
def zz (ρ:Type):ß ρ:=⟨[],133,0,Mg,fun(p:Val (.pair aa aR)) (v:Val tI) b a=>qz p.1 p.2.1 p.2.2.1 p.2.2.2 v (fun c=>b c) (a 0) (a 1)⟩
def SW:List (Nat×á):=[(126,vT),(127,pR),(196,OK)]
def Pz (ρ:Type):List (ß ρ):=[zz ρ]
def AO (ρ:Type):Env ρ:=è SW (Pz ρ)
def Np:á:=⟨[Ì,ao,tI],[aa],fun(x:Val (.pair Ì (.pair ao tI)))=>td x.1 x.2.1 x.2.2⟩
def wV:Ç:=Ls 0 [ao,tI,tI,tI,ak] [tI,aa] ⟨29,.any::.con ao::.con tI::.box 0 0::aN 3 (.own 1::aN 5 [.con tI,.var tI]),[bJ,.rowv tI]⟩ [(.exit 0,⟨29,.any::.con ao::.con tI::.box 0 0::aN 3 (.own 1::aN 5 [.con tI]),[bJ,.rowv tI]⟩,[aa])]
def wU (ρ:Type):ß ρ:=⟨[],134,0,wV,fun(p:Val (tyL wV.cs)) (v:Val ŋ) a b=>ob p.2.2.1 v.1 v.2 (fun c d=>a (c,d)) (b 0)⟩
def wT:Ç:=Ls 2 [ao,ak,tI,tI,ak,aa,tI,ak,aq,aa] [tI,tI] ⟨140,.any::.con ao::.own 1::.box 2 0::aN 3 (.box 3 0::.own 4::.own 5::.var tI::aN 14 [.con ak,.con tI,.var tI]),[bJ,.rowc tI,bJ,.cells [.nils],.rowc .bool,.rowc tI]⟩ [(.exit 0,⟨140,.any::.con ao::.own 1::.box 2 0::aN 3 (.box 3 0::.own 4::.own 5::.var tI::aN 14 [.con ak,.con tI]),[bJ,.rowc tI,bJ,.cells [.nils],.rowc .bool,.rowc tI]⟩,[tI])]
def wS (ρ:Type):ß ρ:=⟨[8,3],197,0,wT,fun(p:Val (tyL wT.cs)) (v:Val Ã) a b=>ug p.2.1 p.2.2.1 v.1 v.2 (fun c d=>a (c,d)) (b 0)⟩
def wR:Ç:=Ls 2 [ao,tI,tI,tI,ak,aa,tI,ak,aa] [tI,aq,aa] ⟨140,.any::.con ao::.own 1::.box 2 0::aN 3 (.box 3 0::.own 4::.own 5::.con tI::aN 27 [.con tI,.var tI]),ca⟩ [(.exit 2,⟨140,.any::.con ao::.own 1::.box 2 0::aN 3 (.box 3 0::.own 4::.own 5::.con tI::aN 27 [.con tI]),ca⟩,[aq,aa])]
def wQ (ρ:Type):ß ρ:=⟨[8,3],197,2,wR,fun(p:Val (tyL wR.cs)) (v:Val (.pair tI aK)) a b=>ue p.2.2.1 p.2.2.2.2.2.1 v.1 v.2.1 v.2.2 (fun c d e=>a (c,d,e)) (b 0)⟩
def wO:Ç:=Ls 2 [ao,tI,tI,ak,tI,tI,ak,tI,ak,aa] [tI,aa,aq,aa] ⟨140,.any::.con ao::.own 1::.box 2 0::aN 3 (.box 3 0::.own 4::.own 5::.con tI::aN 3 (.con tI::aN 62 [.con ak,.con tI,.var tI])),cd⟩ [(.ret,⟨140,.any::.con ao::.own 1::.box 2 0::aN 2 (.var .bool::.box 3 0::.own 4::.own 5::.con tI::aN 3 (.con tI::aN 62 [.con ak,.con tI])),cd⟩,[.bool,aa,aq,aa]),(.exit 6,⟨140,.any::.con ao::.own 1::.box 2 0::aN 3 (.box 3 0::.own 4::.own 5::.con tI::aN 3 (.con tI::aN 62 [.con ak,.con tI])),cd⟩,[aa,aq,aa])]
def wN (ρ:Type):ß ρ:=⟨[8,3],197,6,wO,fun(p:Val (tyL wO.cs)) (v:Val (.pair tI (.pair aa aK))) b a=>CE p.1 p.2.1 p.2.2.1 p.2.2.2.1 p.2.2.2.2.1 v.1 v.2.1 v.2.2.1 v.2.2.2 (fun c d e f=>b (c,d,e,f)) (a 0) (a 1)⟩
def Jo:Ç:=Ls 2 [ao,tI,tI,ak,tI,ak] [aa,aq,aa,aa] ⟨140,[.any,.con ao,.own 1,.box 2 0,.any,.any,.any,.box 3 0,.own 4,.own 5,.con tI],ce⟩ [(.ret,⟨140,[.any,.con ao,.own 1,.box 2 0,.any,.any,.var .bool,.box 3 0,.own 4,.own 5,.con tI],ce⟩,[.bool,aa,aq,aa,aa])]
def wP (ρ:Type):ß ρ:=⟨[8,3],197,4,Jo,fun(p:Val (.pair ao bm)) (v:Val aL) a b=>ud p.1 p.2.1 p.2.2.2.2.1 p.2.2.2.2.2 v.1 v.2.1 v.2.2.1 v.2.2.2 (fun c d e f=>a (c,d,e,f)) (b 0)⟩
def Py:List (Nat×á):=[]
def Md (ρ:Type):List (ß ρ):=[wU ρ,wS ρ,wQ ρ,wN ρ,wP ρ]
def iI (ρ:Type):Env ρ:=è Py (Md ρ)
def RW:á:=⟨[Ì],[ab,tI],fun(x:Val Ì)=>tf x⟩
def Mi:Ç:=Ls 1 [aa,tI,tI,ak,tI,ak] [tI,aa] ⟨28,.any::.box 1 0::aN 2 (.con aa::.own 2::aN 7 [.con tI,.var tI]),[bJ,bJ,.rowv tI]⟩ [(.exit 0,⟨28,.any::.box 1 0::aN 2 (.con aa::.own 2::aN 7 [.con tI]),[bJ,bJ,.rowv tI]⟩,[aa])]
def zB (ρ:Type):ß ρ:=⟨[4,1],237,0,Mi,fun(p:Val (.pair aa bm)) (v:Val ŋ) a b=>qB p.2.1 p.2.2.2.2.1 p.2.2.2.2.2 v.1 v.2 (fun c d=>a (c,d)) (b 0)⟩
def Mh:Ç:=Ls 0 [aa,tI,aa] [tI,ab] ⟨39,aN 5 (.con aa::.own 0::.own 1::aN 12 [.con tI,.var tI]),[.rowc tI,.rowv Ã]⟩ [(.exit 0,⟨39,aN 5 (.con aa::.own 0::.own 1::aN 12 [.con tI]),[.rowc tI,.rowv Ã]⟩,[ab])]
def zA (ρ:Type):ß ρ:=⟨[],185,0,Mh,fun(p:Val aV) (v:Val aY) a b=>qA p.1 p.2.1 p.2.2 v.1 v.2 (fun c d=>a (c,d)) (b 0)⟩
def SX:List (Nat×á):=[(133,RV),(134,Np)]
def PB (ρ:Type):List (ß ρ):=[zB ρ,zA ρ]
def uh (ρ:Type):Env ρ:=è SX (PB ρ)
def Nl:á:=⟨[É,Ã],[Ã,tI],fun(x:Val aJ)=>yd x.1 x.2⟩
def O7:List (Nat×á):=[(66,rQ),(68,Sb),(69,Xk),(185,RW)]
def LO (ρ:Type):List (ß ρ):=[]
def FZ (ρ:Type):Env ρ:=è O7 (LO ρ)
def No:á:=⟨[Â,tI,tI],[ak,tI],fun(x:Val (.pair Â Ã))=>ye x.1 x.2.1 x.2.2⟩
def wH:Ç:=Ls 0 [tI,tI,af,tI,tI,tI,ag,ab,ah,ac,ab,ai] [tI,aP] ⟨113,.any::.con tI::.con tI::.box 0 0::aN 7 (.omp 1::aN 30 [.con af,.con tI,.var tI]),[bu,.mapv tI Ã]⟩ [(.ret,⟨113,.any::.con tI::.con tI::.box 0 0::aN 2 (.nils::.var tI::aN 3 (.omp 1::aN 30 [.con af,.con tI])),[bu,.mapv tI Ã]⟩,[tI,aP]),(.exit 0,⟨113,.any::.con tI::.con tI::.box 0 0::aN 7 (.omp 1::aN 30 [.con af,.con tI]),[bu,.mapv tI Ã]⟩,[aP])]
def wG (ρ:Type):ß ρ:=⟨[],42,0,wH,fun(p:Val (tyL wH.cs)) (v:Val (.pair tI aP)) b a=>let A:=p.2.2.2.2;let B:=A.2.2.2.2;oa p.1 p.2.1 p.2.2.1 p.2.2.2.1 A.1 A.2.1 A.2.2.1 A.2.2.2.1 B.1 B.2.1 B.2.2.1 B.2.2.2 v.1 v.2 (fun c d=>b (c,d)) (a 0) (a 1)⟩
def wF:Ç:=Ls 0 [ag,tI,aP] [tI,ak] ⟨113,aN 11 (.omp 0::aN 7 (.own 1::aN 70 [.con ag,.con tI,.var tI])),[.mapc tI Ã,.rowv Ō]⟩ [(.exit 2,⟨113,aN 11 (.omp 0::aN 7 (.own 1::aN 70 [.con ag,.con tI])),[.mapc tI Ã,.rowv Ō]⟩,[ak])]
def wE (ρ:Type):ß ρ:=⟨[],42,2,wF,fun(p:Val (tyL wF.cs)) (v:Val Ì) a b=>nZ p.1 p.2.1 p.2.2 v.1 v.2 (fun c d=>a (c,d)) (b 0)⟩
def Pn:List (Nat×á):=[(80,iz),(81,OI),(88,BF),(104,iS),(105,Ig),(106,Nl)]
def L5 (ρ:Type):List (ß ρ):=[wG ρ,wE ρ]
def qw (ρ:Type):Env ρ:=è Pn (L5 ρ)
def RP:á:=⟨[Â,aj],[.bool],fun(x:Val aG)=>Dy x.1 x.2⟩
def jo:Tpl:=⟨13,[.any,.any,.box 2 0],[.cells [.con tI,.con tI,.con ag,.con ab,.con ah,.con ac,.con ab,.con ai],.dead,.cells [.own 3],.rowv tI]⟩
def mf (ρ:Type):D0 ρ:=⟨[7,8,1,1,1,1],298,0,3,[tI,tI,ag,ab,ah,ac,ab,ai],[aa],jo,Dj,fun(p:Val ae) (v:Val aa) y a=>wq v y (fun b=>a b)⟩
def LQ:Ç:=Ls 0 [aj,tI,tI,tI,ag,ab,ah,ac,ab,ai] [tI] ⟨42,aN 2 (.box 0 0::aN 11 [.con aj,.con tI,.var tI]),[bu]⟩ [(.ret,⟨42,aN 2 (.box 0 0::.any::.var .bool::aN 9 [.con aj,.con tI]),[bu]⟩,[.bool]),(.exit 0,⟨42,aN 2 (.box 0 0::aN 11 [.con aj,.con tI]),[bu]⟩,[])]
def zj (ρ:Type):ß ρ:=⟨[],154,0,LQ,fun(p:Val (.pair aj aD)) (v:Val tI) b a=>qn p.1 p.2.1 p.2.2.2.2.2.2.2.2.2 v (fun c=>b c) (a 0) (a 1)⟩
def F0 (ρ:Type):List (D0 ρ):=[mf ρ]
def SD:List (Nat×á):=[(220,RO)]
def Cc (ρ:Type):List (ß ρ):=[zj ρ]
def Ε (ρ:Type):Env ρ:={è SD (Cc ρ) with ranges:=Ż (F0 ρ)}
def BG:á:=⟨[Â,aj],[tI],fun(x:Val aG)=>tc x.1 x.2⟩
def SG:List (Nat×á):=[(80,iz),(154,RP)]
def Pf (ρ:Type):List (ß ρ):=[]
def I8 (ρ:Type):Env ρ:=è SG (Pf ρ)
def aaA:á:=⟨[Â,aj,tI,tI],[tI,tI],fun(x:Val aZ)=>QB x.1 x.2.1 x.2.2.1 x.2.2.2⟩
def YV:List (Nat×á):=[(78,BG),(88,BF),(105,Ig)]
def Vf (ρ:Type):List (ß ρ):=[]
def SH (ρ:Type):Env ρ:=è YV (Vf ρ)
def RU:á:=⟨[Ì,tI,tI],[aj],fun(x:Val (.pair Ì Ã))=>DE x.1 x.2.1 x.2.2⟩
def NL:Ç:=Ls 0 [tI,tI,tI,tI,ak] [tI,aa] ⟨45,.any::.con tI::.con tI::.box 0 0::aN 3 (.own 1::aN 7 [.con tI,.var tI]),[bJ,.rowv tI]⟩ [(.exit 0,⟨45,.any::.con tI::.con tI::.box 0 0::aN 3 (.own 1::aN 7 [.con tI]),[bJ,.rowv tI]⟩,[aa])]
def NK (ρ:Type):ß ρ:=⟨[],128,0,NL,fun(p:Val (tyL NL.cs)) (v:Val ŋ) a b=>xQ p.2.2.1 v.1 v.2 (fun c d=>a (c,d)) (b 0)⟩
def NI:Ç:=Ls 4 [aa,tI,aj,tI,ak] [tI,aa] ⟨53,.con aa::.box 1 0::aN 2 (.own 4::aN 7 [.con tI,.var tI]),cr⟩ [(.exit 0,⟨53,.con aa::.box 1 0::aN 2 (.own 4::aN 7 [.con tI]),cr⟩,[aa])]
def NH (ρ:Type):ß ρ:=⟨[12,8],198,0,NI,fun(p:Val (tyL NI.cs)) (v:Val ŋ) a b=>Px p.2.1 v.1 v.2 (fun c d=>a (c,d)) (b 0)⟩
def NG:Ç:=Ls 4 [aa,ak,tI,aj,tI,ak] [tI,aa] ⟨53,.con aa::aN 3 (.own 4::aN 16 [.con ak,.con tI,.var tI]),cr⟩ [(.exit 2,⟨53,.con aa::aN 3 (.own 4::aN 16 [.con ak,.con tI]),cr⟩,[aa])]
def NF (ρ:Type):ß ρ:=⟨[12,8],198,2,NG,fun(p:Val (tyL NG.cs)) (v:Val ŋ) a b=>CD p.1 p.2.1 p.2.2.1 v.1 v.2 (fun c d=>a (c,d)) (b 0)⟩
def YX:Ç:=Ls 0 [tI,tI,ak] [tI,aj] ⟨45,aN 9 (.own 0::.fn 198 [(1,0)]::aN 18 [.con tI,.var tI]),[.rowv aa,bJ]⟩ [(.exit 2,⟨45,aN 9 (.own 0::.fn 198 [(1,0)]::aN 18 [.con tI]),[.rowv aa,bJ]⟩,[aj])]
def NJ (ρ:Type):ß ρ:=⟨[],128,2,YX,fun(p:Val aR) (v:Val ba) a b=>Hz p.1 p.2.1 p.2.2 v.1 v.2 (fun c d=>a (c,d)) (b 0)⟩
def adA:List (Nat×á):=[]
def aaZ (ρ:Type):List (ß ρ):=[NK ρ,NH ρ,NF ρ,NJ ρ]
def EK (ρ:Type):Env ρ:=è adA (aaZ ρ)
def RX:á:=⟨[Ì],[aa,tI],fun(x:Val Ì)=>ng x⟩
def Mj:Ç:=Ls 0 [tI,tI,ak] [tI,af] ⟨93,.any::.box 0 0::aN 6 (.own 1::aN 24 [.con tI,.var tI]),[bJ,.rowv aj]⟩ [(.exit 0,⟨93,.any::.box 0 0::aN 6 (.own 1::aN 24 [.con tI]),[bJ,.rowv aj]⟩,[af])]
def zL (ρ:Type):ß ρ:=⟨[],64,0,Mj,fun(p:Val aR) (v:Val aB) a b=>mQ p.1 p.2.1 p.2.2 v.1 v.2 (fun c d=>a (c,d)) (b 0)⟩
def zE:Ç:=Ls 3 [tI,aj,ak,tI,tI,ak,af,tI,tI,tI,tI,ak] [tI,tI,tI,aa] ⟨73,.any::.var tI::.con tI::.con aj::.fn 129 []::.box 3 0::aN 5 (.own 4::.var tI::aN 7 [.con ak,.con tI,.var tI]),cu⟩ [(.exit 2,⟨73,.any::.var tI::.con tI::.con aj::.fn 129 []::.box 3 0::aN 5 (.own 4::.var tI::aN 7 [.con ak,.con tI]),cu⟩,[tI,tI,aa])]
def zD (ρ:Type):ß ρ:=⟨[22,10],130,2,zE,fun(p:Val (tyL zE.cs)) (v:Val (.pair tI aO)) a b=>F4 p.1 p.2.1 p.2.2.1 p.2.2.2.1 v.1 v.2.1 v.2.2.1 v.2.2.2 (fun c d e f=>a (c,d,e,f)) (b 0)⟩
def zG:Ç:=Ls 3 [aj,tI,ak,af,tI,tI,tI,tI,ak] [tI,tI,tI,aa] ⟨73,.any::.var tI::.var tI::.con aj::.fn 129 []::.box 3 0::aN 5 [.own 4,.var tI],cu⟩ [(.exit 0,⟨73,aN 3 (.con aj::.fn 129 []::.box 3 0::aN 5 [.own 4]),cu⟩,[aa])]
def zF (ρ:Type):ß ρ:=⟨[22,10],130,0,zG,fun(p:Val (tyL zG.cs)) (v:Val (.pair tI aO)) a b=>wW p.1 p.2.2.2.2.2.2.2.2 v.1 v.2.1 v.2.2.1 v.2.2.2 (fun c d e f=>a (c,d,e,f)) (b 0)⟩
def zI:Ç:=Ls 0 [tI,ak,tI,tI,ak,af] [tI] ⟨93,.any::.box 0 0::aN 6 (.own 1::.any::.fn 129 []::.con tI::aN 37 [.con ak,.con tI,.var tI]),[bJ,.rowc aj]⟩ [(.exit 2,⟨93,.any::.box 0 0::aN 6 (.own 1::.any::.fn 129 []::.con tI::aN 37 [.con ak,.con tI]),[bJ,.rowc aj]⟩,[]),(.ret,⟨93,.any::.box 0 0::.own 2::.var tI::aN 4 (.own 1::.any::.fn 129 []::.con tI::aN 37 [.con ak,.con tI]),[bJ,.rowc aj,.rowv tI]⟩,[tI,aa]),(.exit 4,⟨93,.any::.box 0 0::aN 6 (.own 1::.any::.fn 129 []::.con tI::aN 37 [.con ak,.con tI]),[bJ,.rowc aj]⟩,[])]
def zH (ρ:Type):ß ρ:=⟨[],64,4,zI,fun(p:Val (tyL zI.cs)) (v:Val tI) b a=>mP p.1 p.2.1 p.2.2.1 p.2.2.2.1 p.2.2.2.2.1 p.2.2.2.2.2 v (fun c=>b c) (a 0) (a 1) (a 2)⟩
def zK:Ç:=Ls 0 [tI,ak,af] [tI] ⟨93,.any::.box 0 0::aN 6 [.own 1,.any,.fn 129 [],.var tI],[bJ,.rowc aj]⟩ [(.exit 2,⟨93,.any::.box 0 0::aN 6 [.own 1,.any,.fn 129 []],[bJ,.rowc aj]⟩,[]),(.ret,⟨93,.any::.box 0 0::.own 2::.var tI::aN 4 [.own 1,.any,.fn 129 []],[bJ,.rowc aj,.rowv tI]⟩,[tI,aa])]
def zJ (ρ:Type):ß ρ:=⟨[],64,2,zK,fun(p:Val (tyL zK.cs)) (v:Val tI) b a=>qC p.1 p.2.1 p.2.2 v (fun c=>b c) (a 0) (a 1)⟩
def SY:List (Nat×á):=[(126,vT),(127,pR),(128,RU)]
def PD (ρ:Type):List (ß ρ):=[zL ρ,zD ρ,zF ρ,zH ρ,zJ ρ]
def jO (ρ:Type):Env ρ:=è SY (PD ρ)
def RS:á:=⟨[Â],[aj,tI],fun(x:Val Â)=>DC x⟩
def L4:Ç:=Ls 0 [af,tI,tI,tI,ag,ab,ah,ac,ab,ai] [tI,aj] ⟨46,.any::.box 0 0::aN 3 (.own 1::aN 13 [.con af,.con tI,.var tI]),[bu,.rowv aa]⟩ [(.ret,⟨46,.any::.box 0 0::.nils::.var tI::.any::.own 1::aN 13 [.con af,.con tI],[bu,.rowv aa]⟩,[tI,aj]),(.exit 0,⟨46,.any::.box 0 0::aN 3 (.own 1::aN 13 [.con af,.con tI]),[bu,.rowv aa]⟩,[aj])]
def zu (ρ:Type):ß ρ:=⟨[],59,0,L4,fun(p:Val (.pair af aD)) (v:Val ba) b a=>let A:=p.2.2.2.2;qv p.1 p.2.1 p.2.2.1 p.2.2.2.1 A.1 A.2.1 A.2.2.1 A.2.2.2.1 A.2.2.2.2.1 A.2.2.2.2.2 v.1 v.2 (fun c d=>b (c,d)) (a 0) (a 1)⟩
def SK:List (Nat×á):=[(64,RX),(66,rQ),(80,iz),(96,xL),(104,iS)]
def Pj (ρ:Type):List (ß ρ):=[zu ρ]
def AJ (ρ:Type):Env ρ:=è SK (Pj ρ)
def Ih:á:=⟨[Ì,aa],[tI],fun(x:Val bi)=>uO x.1 x.2⟩
def G5:Ç:=Ls 1 [aa,tI,tI,ak] [tI] ⟨19,.con aa::.fn 238 [(0,0)]::aN 5 [.con tI,.var tI],[bJ]⟩ [(.ret,⟨19,[.con aa,.fn 238 [(0,0)],.any,.any,.var tI,.any,.any,.con tI],[bJ]⟩,[tI]),(.exit 0,⟨19,.con aa::.fn 238 [(0,0)]::aN 5 [.con tI],[bJ]⟩,[])]
def vh (ρ:Type):ß ρ:=⟨[3,2,1,2],260,0,G5,fun(p:Val (.pair aa aR)) (v:Val tI) b a=>mg p.1 p.2.1 p.2.2.2 v (fun c=>b c) (a 0) (a 1)⟩
def Mc:List (Nat×á):=[]
def Jl (ρ:Type):List (ß ρ):=[vh ρ]
def t8 (ρ:Type):Env ρ:=è Mc (Jl ρ)
def Xf:á:=⟨[Ì,tI,aa],[tI,tI,.bool],fun(x:Val (.pair Ì ŋ))=>HJ x.1 x.2.1 x.2.2⟩
def Pu:Ç:=Ls 0 [aa,tI,tI,ak] [tI,tI,tI] ⟨37,.any::.var tI::.any::.box 0 0::aN 5 [.var tI,.any,.any,.any,.con aa,.con tI,.var tI],[bJ]⟩ [(.ret,⟨37,aN 3 (.box 0 0::aN 2 (.var tI::.var tI::.var .bool::aN 4 [.con aa,.con tI])),[bJ]⟩,[tI,tI,.bool]),(.exit 0,⟨37,.any::.var tI::.any::.box 0 0::aN 5 [.var tI,.any,.any,.any,.con aa,.con tI],[bJ]⟩,[tI,tI])]
def Cx (ρ:Type):ß ρ:=⟨[],189,0,Pu,fun(p:Val (.pair aa aR)) (v:Val Ō) b a=>t7 p.1 p.2.1 p.2.2.2 v.1 v.2.1 v.2.2 (fun c d e=>b (c,d,e)) (a 0) (a 1)⟩
def Vn:List (Nat×á):=[]
def SQ (ρ:Type):List (ß ρ):=[Cx ρ]
def EG (ρ:Type):Env ρ:=è Vn (SQ ρ)
def zb:á:=⟨[Ì,aa],[tI],fun(x:Val bi)=>ml x.1 x.2⟩
def EN:List (Nat×á):=[(126,vT),(188,Ih),(189,Xf)]
def CI (ρ:Type):List (ß ρ):=[]
def vl (ρ:Type):Env ρ:=è EN (CI ρ)
def y0:á:=⟨[Â,aj],[tI],fun(x:Val aG)=>jt x.1 x.2⟩
def oV:Ç:=Ls 0 [aj,af,tI,tI,tI,ag,ab,ah,ac,ab,ai] [tI] ⟨47,.any::.con aj::.box 0 0::aN 21 [.con af,.con tI,.var tI],[bu]⟩ [(.ret,⟨47,.any::.con aj::.box 0 0::.any::.var tI::aN 19 [.con af,.con tI],[bu]⟩,[tI]),(.exit 0,⟨47,.any::.con aj::.box 0 0::aN 21 [.con af,.con tI],[bu]⟩,[])]
def oU (ρ:Type):ß ρ:=⟨[],60,0,oV,fun(p:Val (tyL oV.cs)) (v:Val tI) b a=>let A:=p.2.2.2.2;let B:=A.2.2.2.2;iX p.1 p.2.1 p.2.2.1 p.2.2.2.1 A.1 A.2.1 A.2.2.1 A.2.2.2.1 B.1 B.2.1 B.2.2 v (fun c=>b c) (a 0) (a 1)⟩
def EC:List (Nat×á):=[(66,rQ),(80,iz),(96,xL),(104,iS),(122,zb)]
def Ct (ρ:Type):List (ß ρ):=[oU ρ]
def nq (ρ:Type):Env ρ:=è EC (Ct ρ)
def FQ:á:=⟨[ac],[Â],fun(x:Val ac)=>Ţ x⟩
def IE:List (Nat×á):=[]
def GA (ρ:Type):List (ß ρ):=[]
def ze (ρ:Type):Env ρ:=è IE (GA ρ)
def If:á:=⟨[],[.bool],fun(_:Unit)=>gT⟩
def LB:List (Nat×á):=[(19,UV),(20,RT),(26,vS),(28,BH),(29,Xe),(30,FR),(35,tF),(40,OJ),(42,No),(49,aaA),(59,RS),(60,y0),(77,FQ)]
def IB (ρ:Type):List (ß ρ):=[]
def BV (ρ:Type):Env ρ:=è LB (IB ρ)
def FS:á:=⟨[Â,aj],[.bool,tI],fun(x:Val aG)=>qV x.1 x.2⟩
def Jf:List (Nat×á):=[(78,BG),(79,mu)]
def GS (ρ:Type):List (ß ρ):=[]
def zw (ρ:Type):Env ρ:=è Jf (GS ρ)
def BI:á:=⟨[Â,aj],[É,tI],fun(x:Val aG)=>oh x.1 x.2⟩
def GP:List (Nat×á):=[(78,BG),(104,iS)]
def Ez (ρ:Type):List (ß ρ):=[]
def wB (ρ:Type):Env ρ:=è GP (Ez ρ)
def mc:á:=⟨[Â,tI],[.bool],fun(x:Val (.pair Â tI))=>rI x.1 x.2⟩
def oO:Ç:=Ls 0 [af,aj,.bool,tI,tI,tI,ag,ab,ah,ac,ab,ai,tI,tI,ag,ab,ah,ac,ab] [.bool,tI] ⟨164,[.any,.any,.box 0 0,.any,.any,.con af,.any,.any,.any,.con aj,.box 1 0,.any,.any,.con .bool,.con tI,.var .bool,.var tI],bX⟩ [(.exit 0,⟨164,[.any,.any,.box 0 0,.any,.any,.con af,.any,.any,.any,.con aj,.box 1 0,.any,.any,.con .bool,.con tI,.var .bool],bX⟩,[.bool])]
def oN (ρ:Type):ß ρ:=⟨[],5,0,oO,fun(p:Val (tyL oO.cs)) (v:Val aH) a b=>Χ p.1 p.2.1 v.1 v.2 (fun c d=>a (c,d)) (b 0)⟩
def Aq:Ç:=Ls 0 [tI,tI,ag,ab,ah,ac,ab,ai,tI,tI,ag,ab,ah,ac,ab] [tI] ⟨164,aN 2 (.box 0 0::aN 7 (.box 1 0::aN 6 [.var tI])),bX⟩ [(.ret,⟨164,aN 2 (.box 0 0::.any::.var .bool::aN 5 [.box 1 0]),bX⟩,[.bool]),(.exit 2,⟨164,aN 2 (.box 0 0::aN 7 [.box 1 0]),bX⟩,[])]
def oM (ρ:Type):ß ρ:=⟨[],5,2,Aq,fun(p:Val au) (v:Val tI) b a=>iU p.2.2.2.2.2.1 p.2.2.2.2.2.2.2.2.2.2.2.2.2.1 v (fun c=>b c) (a 0) (a 1)⟩
def Em:List (Nat×á):=[(15,Nj),(17,If),(18,FS),(19,UV),(26,vS),(40,OJ),(41,BI)]
def BW (ρ:Type):List (ß ρ):=[oN ρ,oM ρ]
def jA (ρ:Type):Env ρ:=è Em (BW ρ)
end Go.Proofs.ZzM
end
