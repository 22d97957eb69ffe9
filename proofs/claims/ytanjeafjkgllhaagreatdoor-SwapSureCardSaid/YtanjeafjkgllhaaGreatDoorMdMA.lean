/- lemmas -/
import Derived.Test.YtanjeafjkgllhaaGreatDoorAmC
import Derived.Test.YtanjeafjkgllhaaGreatDoorAmD
import Derived.Test.YtanjeafjkgllhaaGreatDoorAmF
import Derived.KernelRfl
import Derived.Test.YtanjeafjkgllhaaGreatDoorMdTA
import Derived.Test.YtanjeafjkgllhaaGreatDoorProg
set_option linter.all false
noncomputable section
set_option maxRecDepth 100000
namespace Go.Proofs.ZzM
open Go Go.Am
variable [LC]
def KC:Nat->Bool
  |49=>true
  |50=>true
  |135=>true
  |143=>true
  |300=>true
  |301=>true
  |302=>true
  |_=>false
def SK:Nat->Bool
  |137=>true
  |_=>false
def xv:Nat->Bool
  |260=>true
  |_=>false
def isInl:Nat->Bool
  |2=>true
  |32=>true
  |39=>true
  |40=>true
  |58=>true
  |64=>true
  |65=>true
  |66=>true
  |69=>true
  |70=>true
  |71=>true
  |72=>true
  |73=>true
  |81=>true
  |82=>true
  |91=>true
  |92=>true
  |93=>true
  |98=>true
  |99=>true
  |113=>true
  |117=>true
  |119=>true
  |120=>true
  |121=>true
  |123=>true
  |125=>true
  |126=>true
  |127=>true
  |131=>true
  |138=>true
  |139=>true
  |140=>true
  |142=>true
  |144=>true
  |151=>true
  |152=>true
  |159=>true
  |160=>true
  |162=>true
  |163=>true
  |164=>true
  |165=>true
  |166=>true
  |168=>true
  |173=>true
  |174=>true
  |175=>true
  |176=>true
  |177=>true
  |182=>true
  |183=>true
  |184=>true
  |193=>true
  |194=>true
  |195=>true
  |202=>true
  |208=>true
  |209=>true
  |211=>true
  |215=>true
  |217=>true
  |218=>true
  |221=>true
  |222=>true
  |223=>true
  |225=>true
  |226=>true
  |227=>true
  |236=>true
  |237=>true
  |240=>true
  |242=>true
  |252=>true
  |255=>true
  |256=>true
  |257=>true
  |258=>true
  |259=>true
  |261=>true
  |262=>true
  |263=>true
  |268=>true
  |269=>true
  |270=>true
  |271=>true
  |272=>true
  |273=>true
  |275=>true
  |276=>true
  |280=>true
  |283=>true
  |284=>true
  |294=>true
  |305=>true
  |307=>true
  |308=>true
  |310=>true
  |311=>true
  |322=>true
  |323=>true
  |332=>true
  |333=>true
  |336=>true
  |337=>true
  |340=>true
  |341=>true
  |371=>true
  |_=>false
def isFz:Nat->Bool
  |62=>true
  |112=>true
  |_=>false
def isEat:Nat->Nat->Bool
  |61,2=>true
  |61,3=>true
  |138,25=>true
  |284,0=>true
  |_,_=>false
def afj:w9 Nat->Nat->Bool
  |_,_=>false
abbrev Na {ρ:Type} (E:Env ρ) (f:Nat) (ts rs:w9 Ty) (x:Val (tyL ts)) (k:Val (tyL rs)->w8 ρ):w8 ρ:=topK E f (UX ts x) (fun h v=>Ã (af3 rs h v) k)
abbrev Ls (p:Nat) (c v:w9 Ty) (h:Tpl) (e:w9 (Exit×Tpl×w9 Ty)):Å:=⟨p,c,v,h,e,false⟩
def á {ρ:Type} (pt:w9 (Nat×đ)) (tab:w9 (Ĉ ρ)):Env ρ :=
  {P:=Tryz.prog,eat:=isEat,clone:=KC,sort:=SK,compact:=xv,inl:=isInl,fz:=isFz,stop:=afj,pure:=PV pt,loops:=Ε tab}
def ND {ρ:Type} (pt:w9 (Nat×đ)) (tab:w9 (Ĉ ρ)) (xt:w9 (Nat×TQ)):Env ρ:={á pt tab with ext:=extT xt}
def mkEnvU {ρ:Type} (pt:w9 (Nat×đ)) (tab:w9 (Ĉ ρ)) (us:w9 aeV):Env ρ :=
  {P:=Tryz.prog,eat:=isEat,clone:=KC,sort:=SK,compact:=xv,inl:=isInl,fz:=isFz,stop:=afj,pure:=PV pt,loops:=WF (á pt tab) us}
abbrev bt:jC:=.cells [.con ab]
abbrev bu:jC:=.cells [.con tI,.con tI,.con ae,.con aa,.con af,.con ac,.con aa]
abbrev bw:jC:=.cells [.con tI,.con tI,.con tI,.con tI,.con tI,.con tI,.con tI,.con tI]
abbrev bz:jC:=.cells [.con tI,.con tI,.con tI,.con tI]
abbrev bB:jC:=.cells [.con tI]
abbrev bC:jC:=.cells [.con tI,.con tI,.con ab,.con ab,.con tI,.con tI,.con tI,.con tI]
abbrev bD:jC:=.cells [.con tI,.con tI,.con ae,.con aa,.con af,.con ac,.con aa,.con aj]
abbrev bE:jC:=.cells [.con tI,.con ab]
abbrev bG:jC:=.cells [.omp 3]
abbrev bH:jC:=.cells [.con tI,.con tI,.nils,.nils,.nils,.nils,.nils]
abbrev bI:jC:=.cells [.con tI,.con tI,.own 3,.own 4,.nils,.nils,.nils]
abbrev bJ:jC:=.cells [.con tI,.con tI,.own 3,.own 4,.own 5,.nils,.nils]
abbrev bK:jC:=.cells [.con tI,.con tI,.own 3,.own 4,.own 5,.own 6,.nils]
abbrev bL:jC:=.cells [.con tI,.con tI,.own 2,.own 3,.own 4,.own 5,.own 6]
abbrev bM:jC:=.cells [.con tI,.con tI]
abbrev bN:jC:=.cells [.con tI,.con tI,.con ae,.con aa,.con af,.con ac,.con aa,.con aa,.con tI,.own 3,.own 4]
abbrev bO:jC:=.cells [.con tI,.con tI,.con ae,.con aa,.con af,.con ac,.con aa,.con aa,.con tI,.own 2,.own 3]
abbrev bP:jC:=.cells [.con tI,.con am]
abbrev bQ:jC:=.cells [.own 6]
abbrev bR:jC:=.cells [.var tI,.var tI,.var ae,.var aa,.var af,.var ac,.var aa,.var aj]
abbrev bS:jC:=.cells [.con aj]
abbrev bT:jC:=.cells [.own 4]
abbrev bU:jC:=.cells [.con tI,.con tI,.own 9,.own 10,.own 11,.con ac,.own 12]
abbrev bV:jC:=.cells [.con tI,.con tI,.nils,.nils,.nils,.nils,.nils,.nils]
abbrev bW:jC:=.cells [.fn 139 [(1,0)]]
abbrev bX:jC:=.cells [.fn 66 [(0,0),(1,0)]]
abbrev bY:jC:=.cells [.fn 66 [(3,0),(0,0)]]
abbrev bZ:jC:=.cells [.fn 73 [(1,0)]]
abbrev b7:jC:=.cells [.con tI,.con tI,.con tI]
abbrev b8:jC:=.cells [.con tI,.con tI,.con ae,.con aa,.con af,.con ac,.con aa,.own 6]
abbrev b9:w9 jC:=[.rowv tI]
abbrev ca:w9 jC:=[bu,bC,.rowc tI]
abbrev cd:w9 jC:=[bu,bE,bG,.mapc tI tI]
abbrev ce:w9 jC:=[bH,bu,bJ,.rowc Ö,.rowc Ç,.rowv jm]
abbrev cf:w9 jC:=[bH,bu,bK,.rowc Ö,.rowc Ç,.rowc jm,.rowv Ü]
abbrev cg:w9 jC:=[bH,bL,.rowc Ö,.rowc Ç,.rowc jm,.rowc Ü,.rowv Ç]
abbrev ci:w9 jC:=[bu,bO,.rowv Ō,.rowv Ç]
abbrev cj:w9 jC:=[bP,.rowc tI,bP,bQ,.rowv .bool,.rowc tI,.rowv tI]
abbrev cm:w9 jC:=[bP,.rowv tI,bP,bQ,.rowv .bool,.rowc tI,.rowv tI]
abbrev cn:w9 jC:=[bP,.rowv tI,bP,bQ,.rowv .bool,.rowv tI,.rowv tI]
abbrev cp:w9 jC:=[.rowv ak,bD]
abbrev cq:w9 jC:=[.rowc ak,bD]
abbrev cr:w9 jC:=[.rowv ak,bR]
abbrev cw:w9 jC:=[bu,bM,bH,bu,bH,.dead,bU,bH,.rowv Ü,.rowc Ö,.rowc Ç,.rowc jm,.rowc Ç]
abbrev cz:w9 jC:=[bD,bt,bV,bD,bW,bV,.rowc Ü]
abbrev cA:w9 jC:=[bt,bY,.rowc tI,bD]
abbrev cB:w9 jC:=[bt,bY,.rowv tI,bD]
abbrev cD:w9 jC:=[bD,bB,bD,bZ,bV,.rowc Ü]
abbrev cE:w9 jC:=[.rowc ab,bP,.dead,.dead,.rowv tI]
abbrev cF:w9 jC:=[bP,.rowc ak,b7,bP,.rowv tI]
abbrev cG:w9 jC:=[bu,.rowv .str]
abbrev cH:w9 jC:=[bu,bu]
variable [LC]
def iE:đ:=⟨[ak],[ab],fun(x:bx)=>ĝ x⟩
def lg:Å:=Ls 0 [ak,ak,tI] [tI,tI] ⟨36,.con ak::aN 2 (.var tI::aN 5 [.con ak,.con tI,.var tI]),[]⟩ [(.exit 0,⟨36,.con ak::aN 2 (.var tI::aN 5 [.con ak,.con tI]),[]⟩,[tI])]
def lf (ρ:Type):Ĉ ρ:=⟨[],62,0,lg,fun(p:Val (tyL lg.cs)) (v:bl) a b=>Ŵ p.2.1 p.2.2 v.1 v.2 (fun c d=>a (c,d)) (b 0)⟩
def uh:Å:=Ls 0 [ak,tI] [tI,ab] ⟨36,aN 6 (.own 0::aN 18 [.con ak,.con tI,.var tI]),b9⟩ [(.exit 2,⟨36,aN 6 (.own 0::aN 18 [.con ak,.con tI]),b9⟩,[ab])]
def la (ρ:Type):Ĉ ρ:=⟨[],62,2,uh,fun(p:nx) (v:ek) a b=>Ė p.1 p.2 v.1 v.2 (fun c d=>a (c,d)) (b 0)⟩
def jA (ρ:Type):Env ρ:=á [] [lf ρ,la ρ]
def Kz:afB:=⟨264,ab,ab,yh⟩
def Ν:Tpl:=⟨37,.any::.box 1 0::.box 2 0::.any::.box 3 0::aN 6 [.con ab,.con tI,.con tI],[.acc ab,.cells [.con ab],.cells [.yld],.cells [.con tI]]⟩
def jf (al:bx) (rec:ag->w8 (bx)) (ρ:Type):Eo ρ:=⟨[],264,2,4,[ab,tI,tI,ab,tI],[ak],Ν,⟨264,ab,ab,rec⟩,fun(p:Val aX) (v:bx) y a=>oV al rec p.2.2.2.2 v y (fun b=>a b)⟩
def ś:Å:=Ls 2 [ab,tI,ab] [tI,ak] ⟨37,.any::.box 1 0::.box 2 0::aN 8 [.con ab,.con tI,.var tI],[.acc ab,bt,.cells [.yld]]⟩ [(.exit 0,⟨37,.any::.box 1 0::.box 2 0::aN 8 [.con ab,.con tI],[.acc ab,bt,.cells [.yld]]⟩,[ak])]
def lV (al:bx) (rec:ag->w8 (bx)) (ρ:Type):Ĉ ρ:=⟨[],264,0,ś,fun(p:Val bc) (v:Val bj) a b=>oW al rec p.1 p.2.1 p.2.2 v.1 v.2 (fun c d=>a (c,d)) (b 0)⟩
def wC (al:bx) (rec:ag->w8 (bx)) (ρ:Type):w9 (Eo ρ):=[jf al rec ρ]
def vf (al:bx) (rec:ag->w8 (bx)) (ρ:Type):w9 (Ĉ ρ):=[lV al rec ρ]
def ù (al:bx) (rec:ag->w8 (bx)) (ρ:Type):Env ρ:={á [(62,iE)] (vf al rec ρ) with ranges:=Ş (wC al rec ρ),yld:=some ⟨ab,al,false⟩}
def pA:afB:=⟨210,aj,ak,l8⟩
def Ţ:Tpl:=⟨27,.any::.box 1 0::.box 2 0::.box 3 0::aN 11 [.con ab],[.acc ak,.cells [.con aj],.cells [.yld],.cells [.con ab]]⟩
def υ (al:an) (rec:b6->w8 (an)) (ρ:Type):Eo ρ:=⟨[],210,2,4,[ab,aj,ab],[ah],Ţ,⟨210,aj,ak,rec⟩,fun(p:Val bm) (v:an) y a=>lX al rec p.2.2 v y (fun b=>a b)⟩
def ţ:Tpl:=⟨27,[.any,.box 1 0,.box 2 0],[.acc ak,.cells [.con aj],.cells [.yld]]⟩
def χ (al:an) (rec:b6->w8 (an)) (ρ:Type):Eo ρ:=⟨[],210,0,3,[aj],[ah],ţ,Kz,fun(p:b6) (v:an) y a=>lY al rec p v y (fun b=>a b)⟩
def sk (al:an) (rec:b6->w8 (an)) (ρ:Type):w9 (Eo ρ):=[υ al rec ρ,χ al rec ρ]
def qG (al:an) (rec:b6->w8 (an)) (ρ:Type):w9 (Ĉ ρ):=[]
def ç (al:an) (rec:b6->w8 (an)) (ρ:Type):Env ρ:={á [] (qG al rec ρ) with ranges:=Ş (sk al rec ρ),yld:=some ⟨ak,al,false⟩}
def DR:afB:=⟨243,ab,tI,yf⟩
def č:Å:=Ls 2 [ab,tI,ab] [tI,ab] ⟨16,.yld::aN 4 [.con ab,.con tI,.var tI],[.acc tI,bt]⟩ [(.exit 0,⟨16,.yld::aN 4 [.con ab,.con tI],[.acc tI,bt]⟩,[ab])]
def ź (al:ag) (rec:ag->w8 (ag)) (ρ:Type):Ĉ ρ:=⟨[],243,0,č,fun(p:Val bc) (v:ek) a b=>ψ al rec p.1 p.2.1 v.1 v.2 (fun c d=>a (c,d)) (b 0)⟩
def sO (al:ag) (rec:ag->w8 (ag)) (ρ:Type):w9 (Ĉ ρ):=[ź al rec ρ]
def ă (al:ag) (rec:ag->w8 (ag)) (ρ:Type):Env ρ:={á [] (sO al rec ρ) with yld:=some ⟨tI,al,false⟩}
def sd:đ:=⟨[Ç,tI,tI],[.bool],fun(x:ni)=>ű x.1 x.2.1 x.2.2⟩
def Sn (ρ:Type):Env ρ:=á [] []
def kj:đ:=⟨[tI,tI,tI],[.bool],fun(x:pc)=>Ē x.1 x.2.1 x.2.2⟩
def Si (ρ:Type):Env ρ:=á [] []
def we:đ:=⟨[tI],[.bool],fun(x:Int)=>lz x⟩
def UG (ρ:Type):Env ρ:=á [(220,kj)] []
def O1:đ:=⟨[tI],[(.int .u64)],fun(x:Int)=>rB x⟩
def Yp (ρ:Type):Env ρ:=á [] []
def Ui:đ:=⟨[(.int .u64),(.int .u64)],[(.int .u64)],fun(x:js)=>K3 x.1 x.2⟩
def Sc:Å:=Ls 0 [] [(.int .u64),(.int .u64)] ⟨12,[.var (.int .u64),.var (.int .u64)],[]⟩ [(.exit 0,⟨12,[.var (.int .u64)],[]⟩,[(.int .u64)])]
def Gn (ρ:Type):Ĉ ρ:=⟨[],304,0,Sc,fun(p:Unit) (v:js) a b=>ya v.1 v.2 (fun c d=>a (c,d)) (b 0)⟩
def Sd (ρ:Type):Env ρ:=á [] [Gn ρ]
def Cf:đ:=⟨[Ç],[.bool],fun(x:bl)=>tF x⟩
def UE (ρ:Type):Env ρ:=á [(303,O1),(304,Ui)] []
def IA:đ:=⟨[Ö],[.bool],fun(x:pl)=>uJ x⟩
def DC (ρ:Type):Env ρ:=á [(114,sd),(200,we),(220,kj),(254,Cf)] []
def wg:đ:=⟨[Ë],[tI],fun(x:b5)=>Ŧ x⟩
def nM:Å:=Ls 0 [ae,tI,tI,tI,ae,aa,af,ac,aa] [tI] ⟨31,.any::.box 0 0::aN 4 [.con ae,.con tI,.var tI],[bu]⟩ [(.ret,⟨31,[.any,.box 0 0,.var tI,.any,.any,.any,.con ae,.con tI],[bu]⟩,[tI]),(.exit 0,⟨31,.any::.box 0 0::aN 4 [.con ae,.con tI],[bu]⟩,[])]
def nJ (ρ:Type):Ĉ ρ:=⟨[],115,0,nM,fun(p:Val (tyL nM.cs)) (v:Int) b a=>iG p.1 p.2.1 p.2.2.2.2.1 v (fun c=>b c) (a 0) (a 1)⟩
def tf (ρ:Type):Env ρ:=á [(198,IA)] [nJ ρ]
def tS:đ:=⟨[Ë],[ax],fun(x:b5)=>ĸ x⟩
def Hj:Å:=Ls 0 [ae,tI] [tI,ax] ⟨20,aN 3 (.omp 0::aN 4 [.con ae,.con tI,.var tI]),[.mapv tI Ö]⟩ [(.exit 0,⟨20,aN 3 (.omp 0::aN 4 [.con ae,.con tI]),[.mapv tI Ö]⟩,[ax])]
def vq (ρ:Type):Ĉ ρ:=⟨[],116,0,Hj,fun(p:Val (.pair ae tI)) (v:Val (.pair tI ax)) a b=>ml p.1 p.2 v.1 v.2 (fun c d=>a (c,d)) (b 0)⟩
def Dj (ρ:Type):Env ρ:=á [] [vq ρ]
def lR:đ:=⟨[ab,tI],[tI],fun(x:l7)=>Ω x.1 x.2⟩
def vA:Å:=Ls 0 [ab,tI,tI] [tI] ⟨19,.con ab::.con tI::aN 5 [.con tI,.var tI],[]⟩ [(.ret,⟨19,[.con ab,.con tI,.any,.any,.var tI,.any,.any,.con tI],[]⟩,[tI]),(.exit 0,⟨19,.con ab::.con tI::aN 5 [.con tI],[]⟩,[])]
def lN (ρ:Type):Ĉ ρ:=⟨[],94,0,vA,fun(p:Val (.pair ab Ç)) (v:Int) b a=>Δ p.1 p.2.1 p.2.2 v (fun c=>b c) (a 0) (a 1)⟩
def pp (ρ:Type):Env ρ:=á [] [lN ρ]
def Ő:đ:=⟨[ab,tI],[.bool],fun(x:l7)=>à x.1 x.2⟩
def vB (ρ:Type):Env ρ:=á [(94,lR)] []
def O2:đ:=⟨[Ë,Ö],[ab],fun(x:Val (.pair Ë Ö))=>oj x.1 x.2⟩
def Px:Å:=Ls 0 [ac,tI,tI,tI,ae,aa,af,ac,aa,tI,tI,tI,tI,tI,tI,tI,tI] [tI,ab] ⟨59,aN 2 (.box 0 0::.box 1 0::.any::.own 2::aN 8 [.con ac,.con tI,.var tI]),[bu,bw,.rowv tI]⟩ [(.exit 0,⟨59,aN 2 (.box 0 0::.box 1 0::.any::.own 2::aN 8 [.con ac,.con tI]),[bu,bw,.rowv tI]⟩,[ab])]
def DE (ρ:Type):Ĉ ρ:=⟨[],205,0,Px,fun(p:Val (.pair ac aP)) (v:ek) a b=>uA p.1 p.2.1 p.2.2.2.2.2.2.2.2.2.1 v.1 v.2 (fun c d=>a (c,d)) (b 0)⟩
def Pw:Å:=Ls 0 [aa,tI,tI,tI,tI,tI,tI,tI,tI,tI] [tI,ab] ⟨59,aN 3 (.box 0 0::.any::.own 1::aN 32 [.con aa,.con tI,.var tI]),[bw,.rowv tI]⟩ [(.exit 2,⟨59,aN 3 (.box 0 0::.any::.own 1::aN 32 [.con aa,.con tI]),[bw,.rowv tI]⟩,[ab])]
def DD (ρ:Type):Ĉ ρ:=⟨[],205,2,Pw,fun(p:Val bn) (v:ek) a b=>uz p.1 p.2.1 p.2.2.1 v.1 v.2 (fun c d=>a (c,d)) (b 0)⟩
def E9 (ρ:Type):Env ρ:=á [(75,Ő)] [DE ρ,DD ρ]
def Ci:đ:=⟨[Ë],[aa],fun(x:b5)=>pK x⟩
def Ak:Å:=Ls 0 [ae,tI,tI,ab,tI,tI,tI,ae,aa,af,ac,aa,tI,tI,tI,tI,tI,tI,tI,tI] [tI,aa] ⟨33,.any::.box 0 0::.any::.own 1::.any::.box 2 0::aN 3 (.con ae::.con tI::.con tI::aN 5 [.con ab,.con tI,.var tI]),[bu,.rowv Ç,bw]⟩ [(.exit 2,⟨33,.any::.box 0 0::.any::.own 1::.any::.box 2 0::aN 3 (.con ae::.con tI::.con tI::aN 5 [.con ab,.con tI]),[bu,.rowv Ç,bw]⟩,[aa])]
def Aj (ρ:Type):Ĉ ρ:=⟨[],118,2,Ak,fun(p:Val (tyL Ak.cs)) (v:wl) a b=>qV p.2.2.2.1 p.2.2.2.2.1 p.2.2.2.2.2.2.2.2.2.2.2.2.1 v.1 v.2 (fun c d=>a (c,d)) (b 0)⟩
def Ao:Å:=Ls 0 [ae,tI,tI,tI,ae,aa,af,ac,aa] [tI,aa] ⟨33,.any::.box 0 0::.any::.own 1::aN 5 [.con ae,.con tI,.var tI],[bu,.rowv Ç]⟩ [(.exit 0,⟨33,.any::.box 0 0::.any::.own 1::aN 5 [.con ae,.con tI],[bu,.rowv Ç]⟩,[aa])]
def Al (ρ:Type):Ĉ ρ:=⟨[],118,0,Ao,fun(p:Val (tyL Ao.cs)) (v:wl) a b=>let A:=p.2.2.2.2;qW p.1 p.2.1 p.2.2.1 p.2.2.2.1 A.1 A.2.1 A.2.2.1 A.2.2.2.1 A.2.2.2.2 v.1 v.2 (fun c d=>a (c,d)) (b 0)⟩
def Bw (ρ:Type):Env ρ:=á [(205,O2)] [Aj ρ,Al ρ]
def mi:đ:=⟨[ax,tI,tI],[tI],fun(x:Val (.pair ax Ç))=>ix x.1 x.2.1 x.2.2⟩
def Hk (ρ:Type):Env ρ:=á [] []
def Uk:đ:=⟨[tI,tI,(.ptr ax)],[tI],fun(x:Val (.pair tI (.pair tI (.ptr ax))))=>Ĺ x.1 x.2.1 x.2.2⟩
def Ps (ρ:Type):Env ρ:=á [(200,we),(201,mi)] []
def O3:đ:=⟨[Ë,ax,tI],[tI],fun(x:Val bp)=>Ŷ x.1 x.2.1 x.2.2⟩
def rg:Å:=Ls 2 [af,tI,tI,tI,ae,aa,af,ac,aa,tI,tI,tI,tI] [tI] ⟨19,.con af::.fn 255 [(1,0)]::aN 5 [.con tI,.var tI],[bu,bz]⟩ [(.ret,⟨19,[.con af,.fn 255 [(1,0)],.any,.any,.var tI,.any,.any,.con tI],[bu,bz]⟩,[tI]),(.exit 0,⟨19,.con af::.fn 255 [(1,0)]::aN 5 [.con tI],[bu,bz]⟩,[])]
def qZ (ρ:Type):Ĉ ρ:=⟨[9,5,1,2],262,0,rg,fun(p:Val (tyL rg.cs)) (v:Int) b a=>let A:=p.2.2.2.2.2.2.2.2.2;jX p.1 p.2.1 A.1 A.2.1 A.2.2.1 v (fun c=>b c) (a 0) (a 1)⟩
def qY:Å:=Ls 2 [aa,tI,tI,tI,ae,aa,af,ac,aa,tI,tI,tI,tI] [tI] ⟨19,.con aa::.fn 256 [(1,0)]::aN 5 [.con tI,.var tI],[bu,bz]⟩ [(.ret,⟨19,[.con aa,.fn 256 [(1,0)],.any,.any,.var tI,.any,.any,.con tI],[bu,bz]⟩,[tI]),(.exit 0,⟨19,.con aa::.fn 256 [(1,0)]::aN 5 [.con tI],[bu,bz]⟩,[])]
def qX (ρ:Type):Ĉ ρ:=⟨[9,10,1,2],305,0,qY,fun(p:Val (tyL qY.cs)) (v:Int) b a=>let A:=p.2.2.2.2.2.2.2.2.2;Ű p.1 p.2.1 A.1 A.2.1 A.2.2.1 v (fun c=>b c) (a 0) (a 1)⟩
def lh (ρ:Type):Env ρ:=á [(114,sd),(201,mi),(220,kj)] [qZ ρ,qX ρ]
def EM:đ:=⟨[ab],[.bool],fun(x:ag)=>mf x⟩
def J6:Å:=Ls 0 [ab,ab,tI] [tI] ⟨32,.con ab::aN 4 [.con ab,.con tI,.var tI],[]⟩ [(.ret,⟨32,[.con ab,.any,.var .bool,.any,.any,.con ab,.con tI],[]⟩,[.bool]),(.exit 0,⟨32,.con ab::aN 4 [.con ab,.con tI],[]⟩,[])]
def xn (ρ:Type):Ĉ ρ:=⟨[],145,0,J6,fun(p:Val (.pair ab aH)) (v:Int) b a=>od p.1 p.2.1 p.2.2 v (fun c=>b c) (a 0) (a 1)⟩
def Gs (ρ:Type):Env ρ:=á [(220,kj)] [xn ρ]
def Cj:đ:=⟨[ab,ab],[ab],fun(x:im)=>ŵ x.1 x.2⟩
def DB:Å:=Ls 2 [tI,ab,ab] [tI] ⟨19,.own 1::.fn 222 [(0,0)]::aN 5 [.con tI,.var tI],[bt,.rowc tI]⟩ [(.ret,⟨19,[.own 1,.fn 222 [(0,0)],.any,.any,.var tI,.any,.any,.con tI],[bt,.rowc tI]⟩,[tI]),(.exit 0,⟨19,.own 1::.fn 222 [(0,0)]::aN 5 [.con tI],[bt,.rowc tI]⟩,[])]
def DA (ρ:Type):Ĉ ρ:=⟨[1,3,1,2],208,0,DB,fun(p:Val (tyL DB.cs)) (v:Int) b a=>uw p.1 p.2.1 p.2.2 v (fun c=>b c) (a 0) (a 1)⟩
def Pv:Å:=Ls 2 [ab] [tI,tI,ab] ⟨42,[.own 1,.fn 222 [(0,0)],.any,.any,.any,.var tI,.var tI],[bt,.rowv tI]⟩ [(.exit 0,⟨42,[.own 1,.fn 222 [(0,0)],.any,.any,.any,.var tI],[bt,.rowv tI]⟩,[tI,ab])]
def Dz (ρ:Type):Ĉ ρ:=⟨[1,3],221,0,Pv,fun(p:ag) (v:Val aT) a b=>ke p v.1 v.2.1 v.2.2 (fun c d e=>a (c,d,e)) (b 0)⟩
def E8 (ρ:Type):Env ρ:=á [(75,Ő)] [DA ρ,Dz ρ]
def O4:đ:=⟨[Ë,tI,tI],[jm,.bool],fun(x:nR)=>uK x.1 x.2.1 x.2.2⟩
def DG:Å:=Ls 4 [af,tI,tI,tI,ae,aa,af,ac,aa,tI,tI,tI,tI,tI,tI] [tI] ⟨19,.con af::.fn 263 [(1,0),(2,0)]::aN 5 [.con tI,.var tI],[bu,bB,bB,bz]⟩ [(.ret,⟨19,[.con af,.fn 263 [(1,0),(2,0)],.any,.any,.var tI,.any,.any,.con tI],[bu,bB,bB,bz]⟩,[tI]),(.exit 0,⟨19,.con af::.fn 263 [(1,0),(2,0)]::aN 5 [.con tI],[bu,bB,bB,bz]⟩,[])]
def DF (ρ:Type):Ĉ ρ:=⟨[1,3],262,0,DG,fun(p:Val (tyL DG.cs)) (v:Int) b a=>uC p.1 p.2.1 p.2.2.2.2.2.2.2.2.2.1 p.2.2.2.2.2.2.2.2.2.2.1 v (fun c=>b c) (a 0) (a 1)⟩
def N0 (ρ:Type):Env ρ:=á [(220,kj)] [DF ρ]
def GM:đ:=⟨[Ë,ax,tI],[tI],fun(x:Val bp)=>Ľ x.1 x.2.1 x.2.2⟩
def mZ:Å:=Ls 2 [ac,tI,tI,tI,ae,aa,af,ac,aa,tI,tI,ab,ab,tI,tI,tI,tI] [tI] ⟨19,.con ac::.fn 259 [(1,0)]::aN 5 [.con tI,.var tI],[bu,bC]⟩ [(.ret,⟨19,[.con ac,.fn 259 [(1,0)],.any,.any,.var tI,.any,.any,.con tI],[bu,bC]⟩,[tI]),(.exit 0,⟨19,.con ac::.fn 259 [(1,0)]::aN 5 [.con tI],[bu,bC]⟩,[])]
def mY (ρ:Type):Ĉ ρ:=⟨[4,5,1,2],140,0,mZ,fun(p:Val (tyL mZ.cs)) (v:Int) b a=>gQ p.1 p.2.1 p.2.2.2.2.2.2.2.2.2.1 v (fun c=>b c) (a 0) (a 1)⟩
def mV:Å:=Ls 0 [ax,ab,tI,tI,tI,ab,tI,tI,tI,ae,aa,af,ac,aa,tI,tI,ab,ab,tI,tI,tI,tI,ab] [tI] ⟨140,.any::.con ax::.any::.box 0 0::aN 3 (.box 1 0::.con ab::.any::.con tI::aN 65 [.own 2,.con tI,.con tI,.any,.any,.any,.con ab,.con tI,.var tI]),ca⟩ [(.ret,⟨140,.any::.con ax::.any::.box 0 0::aN 2 (.var tI::.box 1 0::.con ab::.any::.con tI::aN 65 [.own 2,.con tI,.con tI,.any,.any,.any,.con ab,.con tI]),ca⟩,[tI]),(.exit 2,⟨140,.any::.con ax::.any::.box 0 0::aN 3 (.box 1 0::.con ab::.any::.con tI::aN 65 [.own 2,.con tI,.con tI,.any,.any,.any,.con ab,.con tI]),ca⟩,[])]
def mU (ρ:Type):Ĉ ρ:=⟨[],204,2,mV,fun(p:Val (tyL mV.cs)) (v:Int) b a=>let A:=p.2.2.2.2.2;ω p.1 p.2.2.1 A.1 A.2.1 A.2.2.2.2.2.2.2.2.2.2.1 v (fun c=>b c) (a 0) (a 1)⟩
def mX:Å:=Ls 0 [ax,ab,tI,tI,tI,ae,aa,af,ac,aa,tI,tI,ab,ab,tI,tI,tI,tI,ab] [tI] ⟨140,.any::.con ax::.any::.box 0 0::aN 3 (.box 1 0::.con ab::aN 67 [.own 2,.con tI,.var tI]),ca⟩ [(.ret,⟨140,.any::.con ax::.any::.box 0 0::aN 2 (.var tI::.box 1 0::.con ab::aN 67 [.own 2,.con tI]),ca⟩,[tI]),(.exit 0,⟨140,.any::.con ax::.any::.box 0 0::aN 3 (.box 1 0::.con ab::aN 67 [.own 2,.con tI]),ca⟩,[])]
def mW (ρ:Type):Ĉ ρ:=⟨[],204,0,mX,fun(p:Val (tyL mX.cs)) (v:Int) b a=>ń p.1 p.2.1 p.2.2.1 p.2.2.2.2.2.2.2.2.2.2.2.1 p.2.2.2.2.2.2.2.2.2.2.2.2.2.2.2.2.2.2 v (fun c=>b c) (a 0) (a 1)⟩
def mT:Å:=Ls 0 [ab,tI,tI,tI,ae,aa,af,ac,aa,tI,tI,ab,ab,tI,tI,tI,tI] [tI] ⟨140,aN 3 (.box 0 0::aN 3 (.box 1 0::aN 90 [.con ab,.con tI,.var tI])),[bu,bC]⟩ [(.ret,⟨140,aN 3 (.box 0 0::aN 2 (.var tI::.box 1 0::aN 90 [.con ab,.con tI])),[bu,bC]⟩,[tI]),(.exit 4,⟨140,aN 3 (.box 0 0::aN 3 (.box 1 0::aN 90 [.con ab,.con tI])),[bu,bC]⟩,[])]
def mS (ρ:Type):Ĉ ρ:=⟨[],204,4,mT,fun(p:Val (tyL mT.cs)) (v:Int) b a=>let A:=p.2.2.2.2;Ń p.1 p.2.1 p.2.2.1 p.2.2.2.1 A.1 A.2.1 A.2.2.1 A.2.2.2.1 A.2.2.2.2.1 A.2.2.2.2.2.2.1 v (fun c=>b c) (a 0) (a 1)⟩
def Ŋ (ρ:Type):Env ρ:=á [(62,iE),(114,sd),(145,EM),(146,Cj),(200,we),(201,mi),(207,O4),(220,kj)] [mY ρ,mU ρ,mW ρ,mS ρ]
def oS:đ:=⟨[Ë],[tI],fun(x:b5)=>ŧ x⟩
def Q8:đ:=⟨[ab],[(.pair tI (.pair tI Ō))],fun(x:ag)=>DY x⟩
variable [LC]
def Ns:đ:=⟨[Â],[.bool],fun(x:a7)=>yn x⟩
def wq:Å:=Ls 0 [tI,tI,ae,aa,af,ac,aa,aj,tI,tI,ae,aa,af,ac,aa] [tI] ⟨90,[.any,.box 0 0,.any,.box 1 0,.var tI],[bD,bu]⟩ [(.ret,⟨90,[.any,.box 0 0,.var .bool,.box 1 0],[bD,bu]⟩,[.bool]),(.exit 0,⟨90,[.any,.box 0 0,.any,.box 1 0],[bD,bu]⟩,[])]
def wo (ρ:Type):Ĉ ρ:=⟨[],5,0,wq,fun(p:Val (tyL wq.cs)) (v:Int) b a=>nX p.2.2.2.2.2.2.2.2.2.2.2.2.2.1 v (fun c=>b c) (a 0) (a 1)⟩
def wn:Å:=Ls 0 [tI,tI,ae,aa,af,ac,aa,aj,tI,tI,ae,aa,af,ac,aa] [tI] ⟨90,[.any,.box 0 0,.any,.box 1 0,.any,.var tI],[bD,bu]⟩ [(.ret,⟨90,[.any,.box 0 0,.var .bool,.box 1 0],[bD,bu]⟩,[.bool]),(.exit 2,⟨90,[.any,.box 0 0,.any,.box 1 0],[bD,bu]⟩,[])]
def wm (ρ:Type):Ĉ ρ:=⟨[],5,2,wn,fun(p:Val (tyL wn.cs)) (v:Int) b a=>kO p.2.2.2.2.2.2.2.1 v (fun c=>b c) (a 0) (a 1)⟩
def wt (ρ:Type):Env ρ:=á [] [wo ρ,wm ρ]
def Rq:đ:=⟨[Ë,tI,ab],[tI],fun(x:Val (.pair Ë ī))=>D8 x.1 x.2.1 x.2.2⟩
def Aq:Å:=Ls 1 [ab,tI,tI,tI,ae,aa,af,ac,aa] [tI] ⟨19,.con ab::.fn 261 []::aN 5 [.con tI,.var tI],[bu]⟩ [(.ret,⟨19,[.con ab,.fn 261 [],.any,.any,.var tI,.any,.any,.con tI],[bu]⟩,[tI]),(.exit 0,⟨19,.con ab::.fn 261 []::aN 5 [.con tI],[bu]⟩,[])]
def Ap (ρ:Type):Ĉ ρ:=⟨[4,1,1,2],208,0,Aq,fun(p:Val (tyL Aq.cs)) (v:Int) b a=>rh p.1 p.2.1 v (fun c=>b c) (a 0) (a 1)⟩
def J9 (ρ:Type):Env ρ:=á [(54,oS),(116,tS),(200,we)] [Ap ρ]
def Wc:đ:=⟨[Ë,tI,tI],[.bool,tI],fun(x:nR)=>yw x.1 x.2.1 x.2.2⟩
def Yt (ρ:Type):Env ρ:=á [(206,Rq),(207,O4)] []
def Ra:đ:=⟨[Ë,aj,tI],[tI],fun(x:Val (.pair Ë (.pair aj tI)))=>D0 x.1 x.2.1 x.2.2⟩
def zx:Å:=Ls 0 [aj,tI,tI,tI,ae,aa,af,ac,aa,tI,ab] [tI] ⟨104,[.any,.con aj,.con tI,.box 0 0,.any,.any,.any,.box 1 0,.var tI],[bu,bE]⟩ [(.ret,⟨104,[.any,.con aj,.con tI,.box 0 0,.any,.any,.var tI,.box 1 0],[bu,bE]⟩,[tI]),(.exit 0,⟨104,[.any,.con aj,.con tI,.box 0 0,.any,.any,.any,.box 1 0],[bu,bE]⟩,[])]
def zw (ρ:Type):Ĉ ρ:=⟨[],55,0,zx,fun(p:Val (tyL zx.cs)) (v:Int) b a=>mD p.2.2.2.2.2.2.2.2.2.2 v (fun c=>b c) (a 0) (a 1)⟩
def zu:Å:=Ls 0 [aj,tI,ae,tI,tI,tI,ae,aa,af,ac,aa,tI,ab] [tI,bg] ⟨104,.any::.con aj::.con tI::.box 0 0::aN 3 (.box 1 0::.any::.box 2 0::aN 50 [.con ae,.con tI,.var tI]),[bu,bE,bG,.mapv tI tI]⟩ [(.exit 2,⟨104,.any::.con aj::.con tI::.box 0 0::aN 3 (.box 1 0::.any::.box 2 0::aN 50 [.con ae,.con tI]),[bu,bE,bG,.mapv tI tI]⟩,[bg])]
def zr (ρ:Type):Ĉ ρ:=⟨[],55,2,zu,fun(p:Val (tyL zu.cs)) (v:Val (.pair tI bg)) a b=>mC p.2.2.1 p.2.2.2.1 v.1 v.2 (fun c d=>a (c,d)) (b 0)⟩
def L6:Å:=Ls 4 [ab,tI,tI,tI,ae,aa,af,ac,aa,tI,ab,bg] [tI] ⟨19,.con ab::.fn 119 [(2,0)]::aN 5 [.con tI,.var tI],cd⟩ [(.ret,⟨19,[.con ab,.fn 119 [(2,0)],.any,.any,.var tI,.any,.any,.con tI],cd⟩,[tI]),(.exit 0,⟨19,.con ab::.fn 119 [(2,0)]::aN 5 [.con tI],cd⟩,[])]
def zq (ρ:Type):Ĉ ρ:=⟨[18,3,1,2],208,0,L6,fun(p:Val aM) (v:Int) b a=>mB p.1 p.2.1 p.2.2.2.2.2.2.2.2.2.2.2 v (fun c=>b c) (a 0) (a 1)⟩
def L5:Å:=Ls 4 [ab,tI,tI,tI,ae,aa,af,ac,aa,tI,ab,bg] [tI] ⟨19,.con ab::.fn 120 [(1,0),(2,0)]::aN 5 [.con tI,.var tI],cd⟩ [(.ret,⟨19,[.con ab,.fn 120 [(1,0),(2,0)],.any,.any,.var tI,.any,.any,.con tI],cd⟩,[tI]),(.exit 0,⟨19,.con ab::.fn 120 [(1,0),(2,0)]::aN 5 [.con tI],cd⟩,[])]
def zp (ρ:Type):Ĉ ρ:=⟨[20,3,1,2],208,0,L5,fun(p:Val aM) (v:Int) b a=>kp p.1 p.2.1 p.2.2.2.2.2.2.2.2.2.1 p.2.2.2.2.2.2.2.2.2.2.2 v (fun c=>b c) (a 0) (a 1)⟩
def L4:Å:=Ls 4 [ab,tI,tI,tI,ae,aa,af,ac,aa,tI,ab,bg] [tI] ⟨19,.con ab::.fn 121 [(0,0),(1,0)]::aN 5 [.con tI,.var tI],cd⟩ [(.ret,⟨19,[.con ab,.fn 121 [(0,0),(1,0)],.any,.any,.var tI,.any,.any,.con tI],cd⟩,[tI]),(.exit 0,⟨19,.con ab::.fn 121 [(0,0),(1,0)]::aN 5 [.con tI],cd⟩,[])]
def zo (ρ:Type):Ĉ ρ:=⟨[24,3,1,2],208,0,L4,fun(p:Val aM) (v:Int) b a=>let A:=p.2.2.2.2;ļ p.1 p.2.1 p.2.2.1 p.2.2.2.1 A.1 A.2.1 A.2.2.1 A.2.2.2.1 A.2.2.2.2.1 A.2.2.2.2.2.1 v (fun c=>b c) (a 0) (a 1)⟩
def kd (ρ:Type):Env ρ:=á [(122,Wc)] [zw ρ,zr ρ,zq ρ,zp ρ,zo ρ]
def Λ:đ:=⟨[Â],[tI],fun(x:a7)=>Œ x⟩
def Ml:Å:=Ls 0 [aj,tI,tI,tI,tI,tI,ae,aa,af,ac,aa,aj] [tI,tI] ⟨50,.any::.box 0 0::aN 2 (.var tI::aN 15 (.con aj::.con tI::.con tI::aN 15 [.con tI,.var tI])),[bD]⟩ [(.exit 2,⟨50,.any::.box 0 0::aN 2 (.var tI::aN 15 (.con aj::.con tI::.con tI::aN 15 [.con tI])),[bD]⟩,[tI])]
def zG (ρ:Type):Ĉ ρ:=⟨[],16,2,Ml,fun(p:Val (.pair aj bo)) (v:bl) a b=>mG p.2.2.2.1 v.1 v.2 (fun c d=>a (c,d)) (b 0)⟩
def Mm:Å:=Ls 0 [aj,tI,tI,tI,ae,aa,af,ac,aa,aj] [tI,tI] ⟨50,.any::.box 0 0::aN 2 (.var tI::aN 15 [.con aj,.con tI,.var tI]),[bD]⟩ [(.ret,⟨50,.any::.box 0 0::.var tI::aN 17 [.con aj,.con tI],[bD]⟩,[tI]),(.exit 0,⟨50,.any::.box 0 0::aN 2 (.var tI::aN 15 [.con aj,.con tI]),[bD]⟩,[tI])]
def zH (ρ:Type):Ĉ ρ:=⟨[],16,0,Mm,fun(p:Val (.pair aj aK)) (v:bl) b a=>let A:=p.2.2.2.2;qL p.1 p.2.1 p.2.2.1 p.2.2.2.1 A.1 A.2.1 A.2.2.1 A.2.2.2.1 A.2.2.2.2.1 A.2.2.2.2.2 v.1 v.2 (fun c d=>b (c,d)) (a 0) (a 1)⟩
def Bp (ρ:Type):Env ρ:=á [(54,oS),(55,Ra)] [zG ρ,zH ρ]
def EK:đ:=⟨[Â,ak,tI,tI],[tI],fun(x:Val (.pair Â (.pair ak Ç)))=>pG x.1 x.2.1 x.2.2.1 x.2.2.2⟩
def RK:Å:=Ls 0 [ak,tI,tI,tI,ae,aa,af,ac,aa,aj] [tI,tI] ⟨47,.any::.con ak::.var tI::.con tI::.box 0 0::aN 4 [.var tI],[bD]⟩ [(.exit 0,⟨47,[.any,.con ak,.var tI,.con tI,.box 0 0],[bD]⟩,[tI])]
def F5 (ρ:Type):Ĉ ρ:=⟨[],41,0,RK,fun(p:Val (.pair ak aK)) (v:bl) a b=>xY p.1 p.2.1 p.2.2.2.2.2.2.2.2.2 v.1 v.2 (fun c d=>a (c,d)) (b 0)⟩
def RL (ρ:Type):Env ρ:=á [(94,lR)] [F5 ρ]
def vW:đ:=⟨[ab,tI,aD,aO],[ab],fun(x:Val (.pair ab (.pair tI (.pair aD aO))))=>iU x.1 x.2.1 x.2.2.1 x.2.2.2⟩
def nH:Å:=Ls 0 [tI,aD,aO,ab,tI] [tI,ab] ⟨28,[.any,.con tI,.con aD,.con aO,.any,.any,.any,.own 0,.any,.any,.con ab,.con tI,.var tI],b9⟩ [(.exit 0,⟨28,[.any,.con tI,.con aD,.con aO,.any,.any,.any,.own 0,.any,.any,.con ab,.con tI],b9⟩,[ab])]
def nF (ρ:Type):Ĉ ρ:=⟨[],136,0,nH,fun(p:Val (tyL nH.cs)) (v:ek) a b=>iF p.1 p.2.1 p.2.2.1 p.2.2.2.1 p.2.2.2.2 v.1 v.2 (fun c d=>a (c,d)) (b 0)⟩
def sj (ρ:Type):Env ρ:=á [(41,EK)] [nF ρ]
def kJ:đ:=⟨[Â,ak],[Ë],fun(x:Val bf)=>gX x.1 x.2⟩
def qC:Å:=Ls 0 [aD,aO,aD,aO,aa,tI,tI,tI,tI,tI,ae,aa,af,ac,aa,tI,tI,ae] [tI,aa] ⟨123,aN 2 (.con aD::.con aO::.box 0 0::.box 1 0::.box 2 0::.fnd 136 [Â,ak]::aN 18 [.con aa,.con tI,.var tI]),[bH,bu,bI,.rowc Ö,.rowv Ç]⟩ [(.exit 0,⟨123,aN 2 (.con aD::.con aO::.box 0 0::.box 1 0::.box 2 0::.fnd 136 [Â,ak]::aN 18 [.con aa,.con tI]),[bH,bu,bI,.rowc Ö,.rowv Ç]⟩,[aa])]
def qB (ρ:Type):Ĉ ρ:=⟨[],61,0,qC,fun(p:Val (tyL qC.cs)) (v:wl) a b=>jV p.1 p.2.1 p.2.2.2.2.1 p.2.2.2.2.2.1 v.1 v.2 (fun c d=>a (c,d)) (b 0)⟩
def qA:Å:=Ls 0 [aD,aO,aD,aO,af,tI,tI,tI,tI,tI,ae,aa,af,ac,aa,tI,tI,ae,aa] [tI,af] ⟨123,aN 2 (.con aD::.con aO::.box 0 0::.box 1 0::.box 2 0::.fnd 136 [Â,ak]::aN 41 [.con af,.con tI,.var tI]),ce⟩ [(.exit 2,⟨123,aN 2 (.con aD::.con aO::.box 0 0::.box 1 0::.box 2 0::.fnd 136 [Â,ak]::aN 41 [.con af,.con tI]),ce⟩,[af])]
def qz (ρ:Type):Ĉ ρ:=⟨[],61,2,qA,fun(p:Val (tyL qA.cs)) (v:Val (.pair tI af)) a b=>jU p.1 p.2.1 p.2.2.2.2.1 p.2.2.2.2.2.1 v.1 v.2 (fun c d=>a (c,d)) (b 0)⟩
def qy:Å:=Ls 0 [aD,aO,aD,aO,ac,tI,tI,tI,tI,tI,ae,aa,af,ac,aa,tI,tI,ae,aa,af] [tI,ac] ⟨123,aN 2 (.con aD::.con aO::.box 0 0::.box 1 0::.box 2 0::.fnd 136 [Â,ak]::aN 64 [.con ac,.con tI,.var tI]),cf⟩ [(.exit 4,⟨123,aN 2 (.con aD::.con aO::.box 0 0::.box 1 0::.box 2 0::.fnd 136 [Â,ak]::aN 64 [.con ac,.con tI]),cf⟩,[ac])]
def qx (ρ:Type):Ĉ ρ:=⟨[],61,4,qy,fun(p:Val (tyL qy.cs)) (v:Val aZ) a b=>jT p.2.2.1 p.2.2.2.1 p.2.2.2.2.1 p.2.2.2.2.2.1 v.1 v.2 (fun c d=>a (c,d)) (b 0)⟩
def qw:Å:=Ls 0 [aD,aO,aa,tI,tI,tI,tI,tI,ae,aa,af,ac] [tI,aa] ⟨123,aN 2 (.con aD::.con aO::.box 0 0::.any::.box 1 0::aN 93 [.con aa,.con tI,.var tI]),cg⟩ [(.exit 6,⟨123,aN 2 (.con aD::.con aO::.box 0 0::.any::.box 1 0::aN 93 [.con aa,.con tI]),cg⟩,[aa])]
def qv (ρ:Type):Ĉ ρ:=⟨[],61,6,qw,fun(p:Val (tyL qw.cs)) (v:wl) a b=>jS p.1 p.2.1 p.2.2.1 p.2.2.2.1 v.1 v.2 (fun c d=>a (c,d)) (b 0)⟩
def š (ρ:Type):Env ρ:={á [(41,EK),(136,vW)] [qB ρ,qz ρ,qx ρ,qv ρ] with hint:=PM [(78,136),(84,136)]}
def Š:đ:=⟨[aa,Ç],[tI],fun(x:Val (.pair aa Ç))=>Ę x.1 x.2⟩
def lJ:Å:=Ls 0 [aa,tI,tI,tI] [tI] ⟨19,[.con aa,.any,.any,.box 0 0,.any,.any,.any,.con tI,.var tI],[bM]⟩ [(.ret,⟨19,[.con aa,.any,.any,.box 0 0,.var tI,.any,.any,.con tI],[bM]⟩,[tI]),(.exit 0,⟨19,[.con aa,.any,.any,.box 0 0,.any,.any,.any,.con tI],[bM]⟩,[])]
def Α (ρ:Type):Ĉ ρ:=⟨[],214,0,lJ,fun(p:Val (.pair aa Ō)) (v:Int) b a=>Ĝ p.1 p.2.1 p.2.2.1 p.2.2.2 v (fun c=>b c) (a 0) (a 1)⟩
def ii (ρ:Type):Env ρ:=á [] [Α ρ]
def FY:đ:=⟨[(.ptr AU),ab,tI],[tI],fun(x:Val (.pair (.ptr AU) aH))=>ky x.1 x.2.1 x.2.2⟩
def MF (ρ:Type):Env ρ:=á [(214,Š)] []
def V8:đ:=⟨[Ë,Ö,tI,tI],[tI],fun(x:Val (.pair Ë (.pair Ö Ç)))=>yv x.1 x.2.1 x.2.2.1 x.2.2.2⟩
def Dx:Å:=Ls 0 [tI,tI,af,tI,tI,tI,ae,aa,af,ac,aa,tI,tI,tI,tI,tI,tI,tI,tI] [tI,tI] ⟨88,aN 2 (.con tI::.con tI::.box 0 0::.box 1 0::aN 3 (.var tI::aN 7 [.con af,.con tI,.var tI])),[bu,bw]⟩ [(.exit 0,⟨88,aN 2 (.con tI::.con tI::.box 0 0::.box 1 0::aN 3 (.var tI::aN 7 [.con af,.con tI])),[bu,bw]⟩,[tI])]
def Dw (ρ:Type):Ĉ ρ:=⟨[],281,0,Dx,fun(p:Val (tyL Dx.cs)) (v:bl) a b=>ut p.1 p.2.1 p.2.2.1 p.2.2.2.1 p.2.2.2.2.2.2.2.2.2.2.2.1 v.1 v.2 (fun c d=>a (c,d)) (b 0)⟩
def Dv:Å:=Ls 0 [tI,tI,tI,aa,tI,tI,tI,tI,tI,tI,tI,tI,tI] [tI,ab] ⟨88,aN 2 (.con tI::.con tI::.any::.box 0 0::aN 3 (.con tI::aN 3 (.own 1::aN 39 [.con aa,.con tI,.var tI]))),[bw,.rowv tI]⟩ [(.exit 2,⟨88,aN 2 (.con tI::.con tI::.any::.box 0 0::aN 3 (.con tI::aN 3 (.own 1::aN 39 [.con aa,.con tI]))),[bw,.rowv tI]⟩,[ab])]
def Du (ρ:Type):Ĉ ρ:=⟨[],281,2,Dv,fun(p:Val (tyL Dv.cs)) (v:ek) a b=>ur p.1 p.2.1 p.2.2.2.1 p.2.2.2.2.1 p.2.2.2.2.2.1 v.1 v.2 (fun c d=>a (c,d)) (b 0)⟩
def E7 (ρ:Type):Env ρ:=á [(220,kj)] [Dw ρ,Du ρ]
def uZ:đ:=⟨[ax,ab],[Ç],fun(x:Val (.pair ax ab))=>ik x.1 x.2⟩
def Dk (ρ:Type):Env ρ:=á [] []
def sc:đ:=⟨[aa],[tI],fun(x:a8)=>jO x⟩
def MD:Å:=Ls 0 [aa,tI] [tI] ⟨15,aN 5 [.con aa,.con tI,.var tI],[]⟩ [(.ret,⟨15,[.any,.any,.var tI,.any,.any,.con aa,.con tI],[]⟩,[tI]),(.exit 0,⟨15,aN 5 [.con aa,.con tI],[]⟩,[])]
def Ae (ρ:Type):Ĉ ρ:=⟨[],327,0,MD,fun(p:rd) (v:Int) b a=>qU p.1 p.2 v (fun c=>b c) (a 0) (a 1)⟩
def JU (ρ:Type):Env ρ:=á [(254,Cf)] [Ae ρ]
def A4:đ:=⟨[tI,tI],[Ç,tI],fun(x:bl)=>pJ x.1 x.2⟩
def Pp (ρ:Type):Env ρ:=á [(303,O1),(304,Ui)] []
def aad:đ:=⟨[Ç,Ç],[Ç,tI],fun(x:ni)=>PX x.1 x.2⟩
def aaZ (ρ:Type):Env ρ:=á [(327,sc),(334,A4)] []
def Ch:đ:=⟨[Ç,Ç],[Ç],fun(x:ni)=>uI x.1 x.2⟩
def JZ (ρ:Type):Env ρ:=á [(330,aad)] []
def Uj:đ:=⟨[Ç,Ç],[tI],fun(x:ni)=>K4 x.1 x.2⟩
def aaX (ρ:Type):Env ρ:=á [] []
def zk:đ:=⟨[ŋ],[.bool],fun(x:ni)=>rU x⟩
def Hg (ρ:Type):Env ρ:=á [(327,sc),(339,Uj)] []
def aae:đ:=⟨[Ç,Ç],[Ç,tI],fun(x:ni)=>K6 x.1 x.2⟩
def aa1 (ρ:Type):Env ρ:=á [(327,sc),(334,A4)] []
def Rm:đ:=⟨[ŋ,Ç],[ŋ,tI],fun(x:Val (.pair ŋ Ç))=>K5 x.1 x.2⟩
def Gq:w9 (Nat×đ):=[(254,Cf),(335,zk),(338,aae),(339,Uj)]
def uj (ρ:Type):w9 (Ĉ ρ):=[]
def Gp:w9 aeV:=[⟨[3,2],336,0,4⟩]
def Sg (ρ:Type):Env ρ:=á Gq (uj ρ)
def Bt (ρ:Type):Env ρ:=mkEnvU Gq (uj ρ) Gp
def Cg:đ:=⟨[Ç,Ç],[ŋ],fun(x:ni)=>oi x.1 x.2⟩
def JY (ρ:Type):Env ρ:=á [(331,Rm)] []
def Ny:đ:=⟨[Ë,Ü],[ŋ],fun(x:Val (.pair Ë Ü))=>tG x.1 x.2⟩
def Sq (ρ:Type):Env ρ:=á [(116,tS),(146,Cj),(324,uZ),(325,Ch),(326,Cg)] []
def Rp:đ:=⟨[Ë,Ü],[Ç],fun(x:Val (.pair Ë Ü))=>xB x.1 x.2⟩
def UH (ρ:Type):Env ρ:=á [] []
def Iz:đ:=⟨[tI,tI],[tI],fun(x:bl)=>D5 x.1 x.2⟩
def UD (ρ:Type):Env ρ:=á [] []
def Rn:đ:=⟨[Ç],[tI,tI],fun(x:bl)=>D6 x⟩
def UF (ρ:Type):Env ρ:=á [(327,sc),(328,Iz)] []
def V5:đ:=⟨[Ç],[tI,tI],fun(x:bl)=>HW x⟩
def Yq (ρ:Type):Env ρ:=á [(327,sc),(328,Iz)] []
def V6:đ:=⟨[Ë,Ü],[Ç],fun(x:Val (.pair Ë Ü))=>yu x.1 x.2⟩
def Yr (ρ:Type):Env ρ:=á [(312,Ny),(313,Rp),(314,Rn),(315,V5)] []
def V7:đ:=⟨[Ë],[(.ptr AU)],fun(x:b5)=>HX x⟩
def Dr:Å:=Ls 2 [tI,ab,tI,ae,tI,tI,tI,tI,ae,aa,af,ac,aa,tI,tI,ae,aa,af,ac,aa,aa,tI,tI,tI,tI,tI,tI,tI,tI,tI] [tI,am,aa] ⟨144,.box 1 0::.any::.con tI::.box 2 0::.con ab::.con tI::.var tI::aN 24 [.con ae,.con tI,.con tI],[bu,bN,bw,.rowv Ō,.rowv Ç]⟩ [(.exit 2,⟨144,.box 1 0::.any::.con tI::.box 2 0::.con ab::.con tI::aN 25 [.con ae,.con tI,.con tI],[bu,bN,bw,.rowv Ō,.rowv Ç]⟩,[am,aa])]
def Dq (ρ:Type):Ĉ ρ:=⟨[2,1],223,2,Dr,fun(p:Val (tyL Dr.cs)) (v:kw) a b=>let A:=p.2.2.2.2.2.2.2.2.2.2.2.2.2;let B:=A.2.2.2.2;let C:=B.2.2.2.2.2;let D:=C.2.2.2.2;un p.1 p.2.1 p.2.2.1 A.1 A.2.1 A.2.2.1 A.2.2.2.1 B.1 B.2.1 B.2.2.1 C.1 C.2.1 C.2.2.1 C.2.2.2.1 D.1 D.2.1 D.2.2.1 D.2.2.2 v.1 v.2.1 v.2.2 (fun c d e=>a (c,d,e)) (b 0)⟩
def Dt:Å:=Ls 2 [ae,tI,tI,tI,ae,aa,af,ac,aa,tI,tI,ae,aa,af,ac,aa,aa,tI] [tI,am,aa] ⟨144,.box 1 0::aN 30 [.con ae,.con tI,.var tI],ci⟩ [(.exit 0,⟨144,.box 1 0::aN 30 [.con ae,.con tI],ci⟩,[am,aa])]
def Ds (ρ:Type):Ĉ ρ:=⟨[2,1],223,0,Dt,fun(p:Val (tyL Dt.cs)) (v:kw) a b=>let A:=p.2.2.2.2.2.2.2.2.2;let B:=A.2.2.2.2;uq p.1 p.2.1 A.1 A.2.1 A.2.2.1 A.2.2.2.1 B.1 B.2.1 B.2.2.1 B.2.2.2.1 B.2.2.2.2 v.1 v.2.1 v.2.2 (fun c d e=>a (c,d,e)) (b 0)⟩
def Dp:Å:=Ls 2 [ac,tI,tI,tI,ae,aa,af,ac,aa,tI,tI,ae,aa,af,ac,aa,aa,tI] [tI,am,aa] ⟨144,.box 1 0::aN 107 [.con ac,.con tI,.var tI],ci⟩ [(.exit 4,⟨144,.box 1 0::aN 107 [.con ac,.con tI],ci⟩,[am,aa])]
def Dn (ρ:Type):Ĉ ρ:=⟨[2,1],223,4,Dp,fun(p:Val (tyL Dp.cs)) (v:kw) a b=>let A:=p.2.2.2.2.2.2.2.2.2;let B:=A.2.2.2.2;uk p.1 p.2.1 A.1 A.2.1 A.2.2.1 A.2.2.2.1 B.1 B.2.1 B.2.2.1 B.2.2.2.1 B.2.2.2.2 v.1 v.2.1 v.2.2 (fun c d e=>a (c,d,e)) (b 0)⟩
def yb (ρ:Type):Env ρ:=á [(118,Ci),(146,Cj),(205,O2),(279,FY),(281,V8),(282,V6)] [Dq ρ,Ds ρ,Dn ρ]
def se:đ:=⟨[Ë],[Ó,aa,tI],fun(x:b5)=>jk x⟩
def Su (ρ:Type):Env ρ:=á [(54,oS),(147,V7)] []
def O0:đ:=⟨[Ó,tI],[.bool],fun(x:Val (.pair Ó tI))=>yr x.1 x.2⟩
def Yn (ρ:Type):Env ρ:=á [] []
def vZ:đ:=⟨[Ó],[tI,tI],fun(x:ew)=>pI x⟩
def MB:Å:=Ls 0 [am,tI,tI,am] [tI] ⟨57,.any::.box 0 0::aN 17 [.con am,.con tI,.var tI],[bP]⟩ [(.ret,⟨57,.any::.box 0 0::.var tI::.var tI::aN 15 [.con am,.con tI],[bP]⟩,[tI,tI]),(.exit 0,⟨57,.any::.box 0 0::aN 17 [.con am,.con tI],[bP]⟩,[])]
def Ad (ρ:Type):Ĉ ρ:=⟨[],148,0,MB,fun(p:Val (.pair am aV)) (v:Int) b a=>qT p.1 p.2.1 p.2.2.1 p.2.2.2 v (fun c=>b c) (a 0) (a 1)⟩
def JS (ρ:Type):Env ρ:=á [(224,O0)] [Ad ρ]
def qj:đ:=⟨[Ó,ay],[ab,.bool],fun(x:Val (.pair Ó ay))=>kv x.1 x.2⟩
def tc:Å:=Ls 2 [ay,am,tI,tI,am,ab,tI,am,aB,ab] [tI,tI] ⟨140,.any::.con ay::.own 1::.box 2 0::aN 3 (.box 3 0::.own 4::.own 5::.var tI::aN 14 [.con am,.con tI,.var tI]),[bP,.rowc tI,bP,.cells [.nils],.rowc .bool,.rowc tI]⟩ [(.exit 0,⟨140,.any::.con ay::.own 1::.box 2 0::aN 3 (.box 3 0::.own 4::.own 5::.var tI::aN 14 [.con am,.con tI]),[bP,.rowc tI,bP,.cells [.nils],.rowc .bool,.rowc tI]⟩,[tI])]
def ta (ρ:Type):Ĉ ρ:=⟨[2,3],225,0,tc,fun(p:Val (tyL tc.cs)) (v:bl) a b=>iQ p.2.1 p.2.2.1 v.1 v.2 (fun c d=>a (c,d)) (b 0)⟩
def s9:Å:=Ls 2 [ay,tI,tI,tI,am,ab,tI,am,ab] [tI,aB,ab] ⟨140,.any::.con ay::.own 1::.box 2 0::aN 3 (.box 3 0::.own 4::.own 5::.con tI::aN 27 [.con tI,.var tI]),cj⟩ [(.exit 2,⟨140,.any::.con ay::.own 1::.box 2 0::aN 3 (.box 3 0::.own 4::.own 5::.con tI::aN 27 [.con tI]),cj⟩,[aB,ab])]
def s8 (ρ:Type):Ĉ ρ:=⟨[2,3],225,2,s9,fun(p:Val (tyL s9.cs)) (v:rm) a b=>Ť p.2.2.1 p.2.2.2.2.2.1 v.1 v.2.1 v.2.2 (fun c d e=>a (c,d,e)) (b 0)⟩
def sZ:Å:=Ls 2 [ay,tI,tI,am,tI,tI,am,tI,am,ab] [tI,ab,aB,ab] ⟨140,.any::.con ay::.own 1::.box 2 0::aN 3 (.box 3 0::.own 4::.own 5::.con tI::aN 3 (.con tI::aN 62 [.con am,.con tI,.var tI])),cm⟩ [(.ret,⟨140,.any::.con ay::.own 1::.box 2 0::aN 2 (.var .bool::.box 3 0::.own 4::.own 5::.con tI::aN 3 (.con tI::aN 62 [.con am,.con tI])),cm⟩,[.bool,ab,aB,ab]),(.exit 6,⟨140,.any::.con ay::.own 1::.box 2 0::aN 3 (.box 3 0::.own 4::.own 5::.con tI::aN 3 (.con tI::aN 62 [.con am,.con tI])),cm⟩,[ab,aB,ab])]
def sY (ρ:Type):Ĉ ρ:=⟨[2,3],225,6,sZ,fun(p:Val (tyL sZ.cs)) (v:io) b a=>iP p.1 p.2.1 p.2.2.1 p.2.2.2.1 p.2.2.2.2.1 v.1 v.2.1 v.2.2.1 v.2.2.2 (fun c d e f=>b (c,d,e,f)) (a 0) (a 1)⟩
def EY:Å:=Ls 2 [ay,tI,tI,am,tI,am] [ab,aB,ab,ab] ⟨140,[.any,.con ay,.own 1,.box 2 0,.any,.any,.any,.box 3 0,.own 4,.own 5,.con tI],cn⟩ [(.ret,⟨140,[.any,.con ay,.own 1,.box 2 0,.any,.any,.var .bool,.box 3 0,.own 4,.own 5,.con tI],cn⟩,[.bool,ab,aB,ab,ab])]
def s7 (ρ:Type):Ĉ ρ:=⟨[2,3],225,4,EY,fun(p:Val (.pair ay bq)) (v:Val aR) a b=>ķ p.1 p.2.1 p.2.2.2.2.1 p.2.2.2.2.2 v.1 v.2.1 v.2.2.1 v.2.2.2 (fun c d e f=>a (c,d,e,f)) (b 0)⟩
def EX:Å:=Ls 0 [tI,tI] [tI,ab] ⟨34,aN 6 (.own 0::.con tI::aN 13 [.con tI,.var tI]),b9⟩ [(.exit 0,⟨34,aN 6 (.own 0::.con tI::aN 13 [.con tI]),b9⟩,[ab])]
def sX (ρ:Type):Ĉ ρ:=⟨[],149,0,EX,fun(p:bl) (v:ek) a b=>iO p.1 p.2 v.1 v.2 (fun c d=>a (c,d)) (b 0)⟩
def Ż (ρ:Type):Env ρ:=á [] [ta ρ,s8 ρ,sY ρ,s7 ρ,sX ρ]
def zi:đ:=⟨[Ó],[.bool,tI],fun(x:ew)=>mr x⟩
def He (ρ:Type):Env ρ:=á [(148,vZ),(149,qj)] []
def qi:đ:=⟨[Â,ak],[.bool],fun(x:Val bf)=>θ x.1 x.2⟩
def Md (ρ:Type):Env ρ:=á [(61,kJ),(76,se),(141,zi)] []
def wd:đ:=⟨[tI],[.bool],fun(x:Int)=>lq x⟩
def E4 (ρ:Type):Env ρ:=á [] []
def lS:đ:=⟨[tI,tI],[tI],fun(x:bl)=>δ x.1 x.2⟩
def Bu (ρ:Type):Env ρ:=á [(213,wd)] []
def Nt:đ:=⟨[Â,ak],[tI],fun(x:Val bf)=>Ĩ x.1 x.2⟩
def wx:Å:=Ls 0 [tI,ak,tI,tI,ab,tI,tI,tI,ae,aa,af,ac,aa,aj] [tI,tI] ⟨40,aN 2 (.box 0 0::aN 2 (.var tI::.con tI::aN 3 (.con ak::.con tI::.con tI::aN 4 [.con ab,.con tI,.var tI]))),[bD]⟩ [(.exit 2,⟨40,aN 2 (.box 0 0::aN 2 (.var tI::.con tI::aN 3 (.con ak::.con tI::.con tI::aN 4 [.con ab,.con tI]))),[bD]⟩,[tI])]
def ww (ρ:Type):Ĉ ρ:=⟨[],130,2,wx,fun(p:Val (tyL wx.cs)) (v:bl) a b=>let A:=p.2.2.2.2;nY p.1 A.1 A.2.1 A.2.2.2.2.2.2.2.2.2 v.1 v.2 (fun c d=>a (c,d)) (b 0)⟩
def IU:Å:=Ls 0 [ak,tI,tI,tI,ae,aa,af,ac,aa,aj] [tI,tI] ⟨40,aN 2 (.box 0 0::aN 2 (.var tI::aN 4 [.con ak,.con tI,.var tI])),[bD]⟩ [(.exit 0,⟨40,aN 2 (.box 0 0::aN 2 (.var tI::aN 4 [.con ak,.con tI])),[bD]⟩,[tI])]
def wy (ρ:Type):Ĉ ρ:=⟨[],130,0,IU,fun(p:Val (.pair ak aK)) (v:bl) a b=>nZ p.1 p.2.1 p.2.2.2.2.2.2.2.2.2 v.1 v.2 (fun c d=>a (c,d)) (b 0)⟩
def wz (ρ:Type):Env ρ:=á [] [ww ρ,wy ρ]
def EL:đ:=⟨[ak,ak,aD],[tI],fun(x:Val (.pair ak (.pair ak aD)))=>jj x.1 x.2.1 x.2.2⟩
def RN (ρ:Type):Env ρ:=á [(129,lS),(130,Nt)] []
def û:Zj:=⟨ak,[tI,tI],128,Â,fun(xs:an) (x:bl) (m:a7)=>ä xs x.1 x.2 m⟩
def kX:Å:=Ls 2 [tI,tI,tI,tI,tI,ae,aa,af,ac,aa,aj] [tI,ah] ⟨53,.own 0::.con tI::.con tI::.fn 128 [(1,0)]::aN 4 [.con tI,.var tI],cp⟩ [(.exit 2,⟨53,.own 0::.con tI::.con tI::.fn 128 [(1,0)]::aN 4 [.con tI],cp⟩,[ah])]
def Ų (ρ:Type):Ĉ ρ:=⟨[],265,2,kX,fun(p:Val bo) (v:hO) a b=>let A:=p.2.2.2.2;let B:=A.2.2.2.2;å p.1 p.2.2.2.1 A.1 A.2.1 A.2.2.1 A.2.2.2.1 B.1 B.2.1 B.2.2 v.1 v.2 (fun c d=>a (c,d)) (b 0)⟩
def kY:Å:=Ls 2 [tI,tI,tI,tI,ae,aa,af,ac,aa,aj] [tI,ah] ⟨53,.own 0::.con tI::.con tI::.fn 128 [(1,0)]::aN 4 [.var tI],cp⟩ [(.exit 0,⟨53,[.own 0,.con tI,.con tI,.fn 128 [(1,0)]],cp⟩,[ah])]
def ų (ρ:Type):Ĉ ρ:=⟨[],265,0,kY,fun(p:Val (.pair tI aK)) (v:hO) a b=>let A:=p.2.2.2.2;Ć p.1 p.2.1 p.2.2.1 p.2.2.2.1 A.1 A.2.1 A.2.2.1 A.2.2.2.1 A.2.2.2.2.1 A.2.2.2.2.2 v.1 v.2 (fun c d=>a (c,d)) (b 0)⟩
def ð (ρ:Type):Env ρ:={á [(128,EL)] [Ų ρ,ų ρ] with hint:=PM [(22,128)]}
def Ħ:Zj:=⟨ak,[tI,tI,tI],128,Â,fun(xs:an) (x:pc) (m:a7)=>Ī xs x.1 x.2.1 x.2.2 m⟩
def pX:Å:=Ls 2 [tI,tI,tI,tI,tI,ae,aa,af,ac,aa,aj] [tI,ah] ⟨38,.own 0::.con tI::.con tI::.con tI::aN 6 [.var tI],cp⟩ [(.exit 0,⟨38,[.own 0,.con tI,.con tI,.con tI],cp⟩,[ah])]
def jt (ρ:Type):Ĉ ρ:=⟨[4,7],322,0,pX,fun(p:Val bo) (v:hO) a b=>ą p.1 p.2.1 p.2.2.1 v.1 v.2 (fun c d=>a (c,d)) (b 0)⟩
def pW:Å:=Ls 2 [tI,tI,tI,tI,tI,ae,aa,af,ac,aa,aj] [tI,ah] ⟨38,.own 0::.con tI::.con tI::.con tI::aN 6 [.var tI],cp⟩ [(.exit 0,⟨38,[.own 0,.con tI,.con tI,.con tI],cp⟩,[ah])]
def jr (ρ:Type):Ĉ ρ:=⟨[6,11],322,0,pW,fun(p:Val bo) (v:hO) a b=>Χ p.1 p.2.1 p.2.2.1 v.1 v.2 (fun c d=>a (c,d)) (b 0)⟩
def pY:Å:=Ls 2 [tI,tI,tI,ae,aa,af,ac,aa,aj] [tI,tI,ah] ⟨58,.own 0::.any::.con tI::.any::.fn 128 [(1,0)]::aN 5 [.var tI,.var tI],cp⟩ [(.exit 0,⟨58,.own 0::.any::.con tI::.any::.fn 128 [(1,0)]::aN 5 [.var tI],cp⟩,[tI,ah])]
def ju (ρ:Type):Ĉ ρ:=⟨[],306,0,pY,fun(p:Val aK) (v:rn) a b=>ħ p.1 v.1 v.2.1 v.2.2 (fun c d e=>a (c,d,e)) (b 0)⟩
def pV:Å:=Ls 2 [tI,tI,tI,tI,tI,ae,aa,af,ac,aa,aj] [tI,ah] ⟨38,.own 0::.con tI::.con tI::.con tI::aN 6 [.var tI],cp⟩ [(.exit 0,⟨38,[.own 0,.con tI,.con tI,.con tI],cp⟩,[ah])]
def jq (ρ:Type):Ĉ ρ:=⟨[8,7],322,0,pV,fun(p:Val bo) (v:hO) a b=>Υ p.1 p.2.1 p.2.2.1 v.1 v.2 (fun c d=>a (c,d)) (b 0)⟩
def ö (ρ:Type):Env ρ:=á [] [jt ρ,jr ρ,ju ρ,jq ρ]
def kK:Zj:=⟨ak,[tI,tI,tI],128,Â,fun(xs:an) (x:pc) (m:a7)=>Ċ xs x.1 x.2.1 x.2.2 m⟩
def Ā:Å:=Ls 2 [tI,ah,tI,tI,ae,aa,af,ac,aa,aj] [tI,tI] ⟨220,.own 0::.con tI::aN 2 (.fn 128 [(1,0)]::aN 5 [.var tI,.var tI]),cq⟩ [(.exit 0,⟨220,.own 0::.con tI::aN 2 (.fn 128 [(1,0)]::aN 5 [.var tI]),cq⟩,[tI])]
def ŗ (rec:an->Int->Int->Int->a7->w8 (an×a7)) (ρ:Type):Ĉ ρ:=⟨[],266,0,Ā,fun(p:px) (v:bl) a b=>ô rec p.1 p.2.1 p.2.2.1 p.2.2.2.1 p.2.2.2.2.1 p.2.2.2.2.2.1 p.2.2.2.2.2.2.1 p.2.2.2.2.2.2.2.1 p.2.2.2.2.2.2.2.2.1 p.2.2.2.2.2.2.2.2.2 v.1 v.2 (fun c d=>a (c,d)) (b 0)⟩
def ÿ:Å:=Ls 2 [tI,tI,tI,ae,aa,af,ac,aa,aj] [tI,ah] ⟨220,.own 0::aN 9 [.con tI,.any,.any,.var tI],cp⟩ [(.exit 2,⟨220,.own 0::aN 9 [.con tI],cp⟩,[ah])]
def Ŗ (rec:an->Int->Int->Int->a7->w8 (an×a7)) (ρ:Type):Ĉ ρ:=⟨[],266,2,ÿ,fun(p:Val aK) (v:hO) a b=>ì rec p.1 v.1 v.2 (fun c d=>a (c,d)) (b 0)⟩
def þ:Å:=Ls 2 [tI,ah,tI,tI,ae,aa,af,ac,aa,aj] [tI,tI] ⟨220,.own 0::.any::.con tI::.any::.fn 128 [(1,0)]::aN 9 [.var tI,.var tI],cq⟩ [(.exit 4,⟨220,.own 0::.any::.con tI::.any::.fn 128 [(1,0)]::aN 9 [.var tI],cq⟩,[tI])]
def ŕ (rec:an->Int->Int->Int->a7->w8 (an×a7)) (ρ:Type):Ĉ ρ:=⟨[],266,4,þ,fun(p:px) (v:bl) a b=>ó rec p.1 p.2.1 p.2.2.1 p.2.2.2.1 p.2.2.2.2.1 p.2.2.2.2.2.1 p.2.2.2.2.2.2.1 p.2.2.2.2.2.2.2.1 p.2.2.2.2.2.2.2.2.1 p.2.2.2.2.2.2.2.2.2 v.1 v.2 (fun c d=>a (c,d)) (b 0)⟩
def ý:Å:=Ls 2 [tI,tI,tI,ae,aa,af,ac,aa,aj] [tI,ah] ⟨220,.own 0::aN 13 [.con tI,.any,.any,.var tI],cp⟩ [(.exit 6,⟨220,.own 0::aN 13 [.con tI],cp⟩,[ah])]
def Ŕ (rec:an->Int->Int->Int->a7->w8 (an×a7)) (ρ:Type):Ĉ ρ:=⟨[],266,6,ý,fun(p:Val aK) (v:hO) a b=>ë rec p.1 v.1 v.2 (fun c d=>a (c,d)) (b 0)⟩
def ü:Å:=Ls 2 [tI,tI,tI,tI,tI,tI,ah,tI,tI,ae,aa,af,ac,aa,aj] [tI,tI] ⟨220,.own 0::.con tI::.con tI::.con tI::.fn 128 [(1,0)]::aN 13 [.con tI,.con tI,.var tI,.var tI,.con tI],cq⟩ [(.exit 8,⟨220,.own 0::.con tI::.con tI::.con tI::.fn 128 [(1,0)]::aN 13 [.con tI,.con tI,.var tI,.any,.con tI],cq⟩,[tI])]
def œ (rec:an->Int->Int->Int->a7->w8 (an×a7)) (ρ:Type):Ĉ ρ:=⟨[],266,8,ü,fun(p:Val aS) (v:bl) a b=>Þ rec p.2.2.2.2.2.1 p.2.2.2.2.2.2.1 p.2.2.2.2.2.2.2.1 p.2.2.2.2.2.2.2.2.1 p.2.2.2.2.2.2.2.2.2.1 p.2.2.2.2.2.2.2.2.2.2.1 p.2.2.2.2.2.2.2.2.2.2.2.1 p.2.2.2.2.2.2.2.2.2.2.2.2.1 p.2.2.2.2.2.2.2.2.2.2.2.2.2.1 p.2.2.2.2.2.2.2.2.2.2.2.2.2.2 v.1 v.2 (fun c d=>a (c,d)) (b 0)⟩
def pR (rec:an->Int->Int->Int->a7->w8 (an×a7)):w9 (Nat×đ):=[(128,EL)]
def pQ (rec:an->Int->Int->Int->a7->w8 (an×a7)):w9 (Nat×TQ):=[(266,.row ⟨ak,[tI,tI,tI],128,Â,fun(xs:an) (x:pc) (m:a7)=>rec xs x.1 x.2.1 x.2.2 m⟩),(306,.row Ħ)]
def iK (rec:an->Int->Int->Int->a7->w8 (an×a7)) (ρ:Type):w9 (Ĉ ρ):=[ŗ rec ρ,Ŗ rec ρ,ŕ rec ρ,Ŕ rec ρ,œ rec ρ]
def Æ (rec:an->Int->Int->Int->a7->w8 (an×a7)) (ρ:Type):Env ρ:={ND (pR rec) (iK rec ρ) (pQ rec) with hint:=PM [(40,128),(92,128),(158,128)]}
def Ĕ:Zj:=⟨ak,[tI],128,Â,fun(xs:an) (x:Int) (m:a7)=>ĩ xs x m⟩
def pU:Å:=Ls 2 [tI,tI] [tI,tI,ah,tI,tI,ae,aa,af,ac,aa,aj] ⟨63,[.own 0,.con tI,.fn 128 [(1,0)],.any,.any,.any,.con tI,.var tI,.var tI],cr⟩ [(.exit 0,⟨63,[.own 0,.con tI,.fn 128 [(1,0)],.any,.any,.any,.con tI,.var tI],cr⟩,[tI,ah,tI,tI,ae,aa,af,ac,aa,aj])]
def jp (ρ:Type):Ĉ ρ:=⟨[],212,0,pU,fun(p:bl) (v:rx) a b=>Τ p.1 p.2 v.1 v.2.1 v.2.2.1 v.2.2.2.1 v.2.2.2.2.1 v.2.2.2.2.2.1 v.2.2.2.2.2.2.1 v.2.2.2.2.2.2.2.1 v.2.2.2.2.2.2.2.2.1 v.2.2.2.2.2.2.2.2.2.1 v.2.2.2.2.2.2.2.2.2.2 (fun c d e f g h i j k l m=>a (c,d,e,f,g,h,i,j,k,l,m)) (b 0)⟩
def pS:Å:=Ls 2 [tI,tI] [tI,tI,ah,tI,tI,ae,aa,af,ac,aa,aj] ⟨63,[.own 0,.con tI,.fn 128 [(1,0)],.any,.any,.any,.con tI,.var tI,.var tI],cr⟩ [(.exit 4,⟨63,[.own 0,.con tI,.fn 128 [(1,0)],.any,.any,.any,.con tI,.var tI],cr⟩,[tI,ah,tI,tI,ae,aa,af,ac,aa,aj])]
def jn (ρ:Type):Ĉ ρ:=⟨[],212,4,pS,fun(p:bl) (v:rx) a b=>Ο p.1 p.2 v.1 v.2.1 v.2.2.1 v.2.2.2.1 v.2.2.2.2.1 v.2.2.2.2.2.1 v.2.2.2.2.2.2.1 v.2.2.2.2.2.2.2.1 v.2.2.2.2.2.2.2.2.1 v.2.2.2.2.2.2.2.2.2.1 v.2.2.2.2.2.2.2.2.2.2 (fun c d e f g h i j k l m=>a (c,d,e,f,g,h,i,j,k,l,m)) (b 0)⟩
def pT:Å:=Ls 2 [tI] [tI,ah,tI,tI,ae,aa,af,ac,aa,aj] ⟨63,[.own 0,.con tI,.fn 128 [(1,0)],.any,.any,.any,.var tI],cr⟩ [(.exit 2,⟨63,[.own 0,.con tI,.fn 128 [(1,0)]],cr⟩,[ah,tI,tI,ae,aa,af,ac,aa,aj])]
def jo (ρ:Type):Ĉ ρ:=⟨[],212,2,pT,fun(p:Int) (v:px) a b=>Ρ p v.1 v.2.1 v.2.2.1 v.2.2.2.1 v.2.2.2.2.1 v.2.2.2.2.2.1 v.2.2.2.2.2.2.1 v.2.2.2.2.2.2.2.1 v.2.2.2.2.2.2.2.2.1 v.2.2.2.2.2.2.2.2.2 (fun c d e f g h i j k l=>a (c,d,e,f,g,h,i,j,k,l)) (b 0)⟩
def sN:w9 (Nat×TQ):=[(265,.row û),(266,.row kK)]
def ĉ (ρ:Type):Env ρ:=ND [] [jp ρ,jn ρ,jo ρ] sN
def HH:đ:=⟨[Â],[ah],fun(x:a7)=>yp x⟩
def kQ:Tpl:=⟨13,[.any,.any,.box 3 0],[.cells [.con tI,.con tI,.con ae,.con aa,.con af,.con ac,.con aa,.con aj],.cells [.con tI,.con tI,.con ae,.con aa,.con af,.con ac,.con aa,.con aj],.dead,.cells [.own 4],.rowv ak]⟩
def ob (ρ:Type):Eo ρ:=⟨[1,1,1,3,1,1],209,0,4,[tI,tI,ae,aa,af,ac,aa,aj,tI,tI,ae,aa,af,ac,aa,aj],[ah],kQ,pA,fun(p:Val aE) (v:an) y a=>Bk v y (fun b=>a b)⟩
def CF:Å:=Ls 5 [tI,tI,tI,ae,aa,af,ac,aa,aj,tI,tI,ae,aa,af,ac,aa,aj,aj,ah] [tI] ⟨19,.own 4::.fn 92 [(0,0)]::aN 5 [.con tI,.var tI],[bD,bD,bS,bT,.rowc ak]⟩ [(.ret,⟨19,[.own 4,.fn 92 [(0,0)],.any,.any,.var tI,.any,.any,.con tI],[bD,bD,bS,bT,.rowc ak]⟩,[tI]),(.exit 0,⟨19,.own 4::.fn 92 [(0,0)]::aN 5 [.con tI],[bD,bD,bS,bT,.rowc ak]⟩,[])]
def CE (ρ:Type):Ĉ ρ:=⟨[1,3,1,2],93,0,CF,fun(p:Val (tyL CF.cs)) (v:Int) b a=>let A:=p.2.2.2.2;t8 p.1 p.2.1 p.2.2.1 p.2.2.2.1 A.1 A.2.1 A.2.2.1 A.2.2.2.1 A.2.2.2.2.1 A.2.2.2.2.2.2.2.2.2.2.2.2.2.2 v (fun c=>b c) (a 0) (a 1)⟩
def CD:Å:=Ls 5 [tI,tI,ae,aa,af,ac,aa,aj,tI,tI,ae,aa,af,ac,aa,aj,aj] [tI,tI,ah] ⟨42,[.own 4,.fn 92 [(0,0)],.any,.any,.any,.var tI,.var tI],[bD,bD,bS,bT,.rowv ak]⟩ [(.exit 0,⟨42,[.own 4,.fn 92 [(0,0)],.any,.any,.any,.var tI],[bD,bD,bS,bT,.rowv ak]⟩,[tI,ah])]
def CC (ρ:Type):Ĉ ρ:=⟨[1,3],91,0,CD,fun(p:Val (tyL CD.cs)) (v:rn) a b=>let A:=p.2.2.2.2;lW p.1 p.2.1 p.2.2.1 p.2.2.2.1 A.1 A.2.1 A.2.2.1 A.2.2.2.1 v.1 v.2.1 v.2.2 (fun c d e=>a (c,d,e)) (b 0)⟩
def Jf (ρ:Type):w9 (Eo ρ):=[ob ρ]
def Uv:w9 (Nat×TQ):=[(212,.row Ĕ)]
def Ξ (ρ:Type):Env ρ:={ND [(67,qi)] [CE ρ,CC ρ] Uv with ranges:=Ş (Jf ρ)}
def Uh:đ:=⟨[Â],[ah,tI],fun(x:a7)=>BD x⟩
def aaP (ρ:Type):Env ρ:=á [(16,Λ),(38,HH)] []
def Q9:đ:=⟨[Â,ak],[.bool],fun(x:Val bf)=>DZ x.1 x.2⟩
def jI:Tpl:=⟨13,[.any,.any,.box 2 0],[.cells [.con tI,.con tI,.con ae,.con aa,.con af,.con ac,.con aa,.con aj],.dead,.cells [.own 3],.rowv tI]⟩
def mj (ρ:Type):Eo ρ:=⟨[7,8,1,1,1,1],294,0,3,[tI,tI,ae,aa,af,ac,aa,aj],[ab],jI,DR,fun(p:v6) (v:ag) y a=>wE v y (fun b=>a b)⟩
def L3:Å:=Ls 0 [ak,tI,tI,tI,ae,aa,af,ac,aa,aj] [tI] ⟨42,aN 2 (.box 0 0::aN 11 [.con ak,.con tI,.var tI]),[bD]⟩ [(.ret,⟨42,aN 2 (.box 0 0::.any::.var .bool::aN 9 [.con ak,.con tI]),[bD]⟩,[.bool]),(.exit 0,⟨42,aN 2 (.box 0 0::aN 11 [.con ak,.con tI]),[bD]⟩,[])]
def zn (ρ:Type):Ĉ ρ:=⟨[],97,0,L3,fun(p:Val (.pair ak aK)) (v:Int) b a=>qE p.1 p.2.1 p.2.2.2.2.2.2.2.2.2 v (fun c=>b c) (a 0) (a 1)⟩
def F6 (ρ:Type):w9 (Eo ρ):=[mj ρ]
def Ÿ (ρ:Type):Env ρ:={á [(181,Q8)] [zn ρ] with ranges:=Ş (F6 ρ)}
def Rb:đ:=⟨[Â,ak],[tI],fun(x:Val bf)=>D2 x.1 x.2⟩
def Uw (ρ:Type):Env ρ:=á [(16,Λ),(97,Q9)] []
def Cd:đ:=⟨[Â,tI,tI],[tI],fun(x:Val (.pair Â Ç))=>tD x.1 x.2.1 x.2.2⟩
def zm:Å:=Ls 2 [ae,tI,tI,tI,ae,aa,af,ac,aa,aj,tI] [tI] ⟨19,.con ae::.fn 99 [(1,0)]::aN 5 [.con tI,.var tI],[bD,bB]⟩ [(.ret,⟨19,[.con ae,.fn 99 [(1,0)],.any,.any,.var tI,.any,.any,.con tI],[bD,bB]⟩,[tI]),(.exit 0,⟨19,.con ae::.fn 99 [(1,0)]::aN 5 [.con tI],[bD,bB]⟩,[])]
def zl (ρ:Type):Ĉ ρ:=⟨[3,4,1,2],184,0,zm,fun(p:Val (tyL zm.cs)) (v:Int) b a=>qD p.1 p.2.1 p.2.2.2.2.2.2.2.2.2.2 v (fun c=>b c) (a 0) (a 1)⟩
def I2 (ρ:Type):Env ρ:=á [] [zl ρ]
def Ug:đ:=⟨[Â,ak,tI,tI],[tI,tI],fun(x:Val (.pair Â (.pair ak Ç)))=>KX x.1 x.2.1 x.2.2.1 x.2.2.2⟩
def aaL (ρ:Type):Env ρ:=á [(41,EK),(43,Rb),(44,Cd)] []
def xV:đ:=⟨[Â],[ah],fun(x:a7)=>yo x⟩
def kP:Tpl:=⟨13,[.any,.any,.box 2 0],[.cells [.con tI,.con tI,.con ae,.con aa,.con af,.con ac,.con aa,.con aj],.dead,.cells [.own 3],.rowv ak]⟩
def oa (ρ:Type):Eo ρ:=⟨[1,3,1,1],209,0,3,[tI,tI,ae,aa,af,ac,aa,aj],[ah],kP,pA,fun(p:v6) (v:an) y a=>IY v y (fun b=>a b)⟩
def IV (ρ:Type):w9 (Eo ρ):=[oa ρ]
def Uu:w9 (Nat×TQ):=[(212,.row Ĕ)]
def je (ρ:Type):Env ρ:={ND [] [] Uu with ranges:=Ş (IV ρ)}
def VX:đ:=⟨[Â],[ah,tI],fun(x:a7)=>W6 x⟩
def Yl (ρ:Type):Env ρ:=á [(16,Λ),(58,xV)] []
def FV:đ:=⟨[ac],[Â],fun(x:c7)=>iT x⟩
def LV (ρ:Type):Env ρ:=á [] []
def nV:đ:=⟨[Â],[ak,.bool],fun(x:a7)=>gY x⟩
def CG:Å:=Ls 1 [ah,tI,tI,tI,ae,aa,af,ac,aa,aj] [tI] ⟨21,.any::.fn 131 [(0,0)]::aN 7 [.con ah,.con tI,.var tI],[bD]⟩ [(.ret,⟨21,[.any,.fn 131 [(0,0)],.any,.any,.var ak,.var .bool,.any,.any,.any,.con ah,.con tI],[bD]⟩,[ak,.bool]),(.exit 0,⟨21,.any::.fn 131 [(0,0)]::aN 7 [.con ah,.con tI],[bD]⟩,[])]
def qF (ρ:Type):Ĉ ρ:=⟨[1,3],69,0,CG,fun(p:Val (.pair ah aK)) (v:Int) b a=>let A:=p.2.2.2.2;vg p.1 p.2.1 p.2.2.1 p.2.2.2.1 A.1 A.2.1 A.2.2.1 A.2.2.2.1 A.2.2.2.2.1 A.2.2.2.2.2 v (fun c=>b c) (a 0) (a 1)⟩
def wF (ρ:Type):Env ρ:=á [(58,xV),(67,qi)] [qF ρ]
def Rf:đ:=⟨[Â],[ak,tI],fun(x:a7)=>S7 x⟩
def Ux (ρ:Type):Env ρ:=á [(16,Λ),(59,nV)] []
def Rs:đ:=⟨[Ë,Ç],[tI,tI],fun(x:nR)=>D9 x.1 x.2⟩
def UI (ρ:Type):Env ρ:=á [(54,oS),(118,Ci),(214,Š)] []
def Wa:đ:=⟨[Ë,Ç],[Ë,tI],fun(x:nR)=>W9 x.1 x.2⟩
def DJ:Å:=Ls 6 [tI,tI,tI,ae,aa,af,ac,aa,tI,tI,tI,tI,tI,tI,ae,aa,af,ac,aa,tI,tI,tI,tI,ac,tI,tI,ae,aa,af,aa] [tI,ac] ⟨50,.any::.box 6 0::.box 7 0::.own 8::aN 21 [.own 8,.con tI,.var tI],cw⟩ [(.exit 0,⟨50,.any::.box 6 0::.box 7 0::.own 8::aN 21 [.own 8,.con tI],cw⟩,[ac])]
def DI (ρ:Type):Ĉ ρ:=⟨[1,2,4,1],252,0,DJ,fun(p:Val (tyL DJ.cs)) (v:Val aZ) a b=>Km p.1 v.1 v.2 (fun c d=>a (c,d)) (b 0)⟩
def N2 (ρ:Type):Env ρ:=á [(54,oS)] [DI ρ]
def Rj:đ:=⟨[Ó,ab],[tI],fun(x:Val (.pair Ó ab))=>S9 x.1 x.2⟩
def Mw:Å:=Ls 0 [ab,tI,tI,am] [tI] ⟨37,aN 2 (.box 0 0::aN 16 [.con ab,.con tI,.var tI]),[bP]⟩ [(.ret,⟨37,aN 2 (.box 0 0::.any::.var tI::aN 14 [.con ab,.con tI]),[bP]⟩,[tI]),(.exit 0,⟨37,aN 2 (.box 0 0::aN 16 [.con ab,.con tI]),[bP]⟩,[])]
def zQ (ρ:Type):Ĉ ρ:=⟨[],216,0,Mw,fun(p:Val (.pair ab aV)) (v:Int) b a=>Gc p.1 p.2.1 p.2.2.1 p.2.2.2 v (fun c=>b c) (a 0) (a 1)⟩
def JJ (ρ:Type):Env ρ:=á [(148,vZ),(149,qj),(224,O0)] [zQ ρ]
def Nx:đ:=⟨[Ó,ay,tI],[ab],fun(x:Val (.pair Ó (.pair ay tI)))=>Fv x.1 x.2.1 x.2.2⟩
def xj:Å:=Ls 0 [ay,tI,tI,tI,am] [tI,ab] ⟨29,.any::.con ay::.con tI::.box 0 0::aN 3 (.own 1::aN 5 [.con tI,.var tI]),[bP,.rowv tI]⟩ [(.exit 0,⟨29,.any::.con ay::.con tI::.box 0 0::aN 3 (.own 1::aN 5 [.con tI]),[bP,.rowv tI]⟩,[ab])]
def xi (ρ:Type):Ĉ ρ:=⟨[],267,0,xj,fun(p:Val (tyL xj.cs)) (v:ek) a b=>Di p.2.2.1 v.1 v.2 (fun c d=>a (c,d)) (b 0)⟩
def xh:Å:=Ls 2 [ay,am,tI,tI,am,ab,tI,am,aB,ab] [tI,tI] ⟨140,.any::.con ay::.own 1::.box 2 0::aN 3 (.box 3 0::.own 4::.own 5::.var tI::aN 14 [.con am,.con tI,.var tI]),[bP,.rowc tI,bP,.cells [.nils],.rowc .bool,.rowc tI]⟩ [(.exit 0,⟨140,.any::.con ay::.own 1::.box 2 0::aN 3 (.box 3 0::.own 4::.own 5::.var tI::aN 14 [.con am,.con tI]),[bP,.rowc tI,bP,.cells [.nils],.rowc .bool,.rowc tI]⟩,[tI])]
def xg (ρ:Type):Ĉ ρ:=⟨[8,3],225,0,xh,fun(p:Val (tyL xh.cs)) (v:bl) a b=>Dh p.2.1 p.2.2.1 v.1 v.2 (fun c d=>a (c,d)) (b 0)⟩
def xf:Å:=Ls 2 [ay,tI,tI,tI,am,ab,tI,am,ab] [tI,aB,ab] ⟨140,.any::.con ay::.own 1::.box 2 0::aN 3 (.box 3 0::.own 4::.own 5::.con tI::aN 27 [.con tI,.var tI]),cj⟩ [(.exit 2,⟨140,.any::.con ay::.own 1::.box 2 0::aN 3 (.box 3 0::.own 4::.own 5::.con tI::aN 27 [.con tI]),cj⟩,[aB,ab])]
def xe (ρ:Type):Ĉ ρ:=⟨[8,3],225,2,xf,fun(p:Val (tyL xf.cs)) (v:rm) a b=>Dg p.2.2.1 p.2.2.2.2.2.1 v.1 v.2.1 v.2.2 (fun c d e=>a (c,d,e)) (b 0)⟩
def xc:Å:=Ls 2 [ay,tI,tI,am,tI,tI,am,tI,am,ab] [tI,ab,aB,ab] ⟨140,.any::.con ay::.own 1::.box 2 0::aN 3 (.box 3 0::.own 4::.own 5::.con tI::aN 3 (.con tI::aN 62 [.con am,.con tI,.var tI])),cm⟩ [(.ret,⟨140,.any::.con ay::.own 1::.box 2 0::aN 2 (.var .bool::.box 3 0::.own 4::.own 5::.con tI::aN 3 (.con tI::aN 62 [.con am,.con tI])),cm⟩,[.bool,ab,aB,ab]),(.exit 6,⟨140,.any::.con ay::.own 1::.box 2 0::aN 3 (.box 3 0::.own 4::.own 5::.con tI::aN 3 (.con tI::aN 62 [.con am,.con tI])),cm⟩,[ab,aB,ab])]
def xb (ρ:Type):Ĉ ρ:=⟨[8,3],225,6,xc,fun(p:Val (tyL xc.cs)) (v:io) b a=>De p.1 p.2.1 p.2.2.1 p.2.2.2.1 p.2.2.2.2.1 v.1 v.2.1 v.2.2.1 v.2.2.2 (fun c d e f=>b (c,d,e,f)) (a 0) (a 1)⟩
def JH:Å:=Ls 2 [ay,tI,tI,am,tI,am] [ab,aB,ab,ab] ⟨140,[.any,.con ay,.own 1,.box 2 0,.any,.any,.any,.box 3 0,.own 4,.own 5,.con tI],cn⟩ [(.ret,⟨140,[.any,.con ay,.own 1,.box 2 0,.any,.any,.var .bool,.box 3 0,.own 4,.own 5,.con tI],cn⟩,[.bool,ab,aB,ab,ab])]
def xd (ρ:Type):Ĉ ρ:=⟨[8,3],225,4,JH,fun(p:Val (.pair ay bq)) (v:Val aR) a b=>Df p.1 p.2.1 p.2.2.2.2.1 p.2.2.2.2.2 v.1 v.2.1 v.2.2.1 v.2.2.2 (fun c d e f=>a (c,d,e,f)) (b 0)⟩
def iR (ρ:Type):Env ρ:=á [] [xi ρ,xg ρ,xe ρ,xb ρ,xd ρ]
def Rk:đ:=⟨[Ó],[aa,tI],fun(x:ew)=>KZ x⟩
def Mz:Å:=Ls 1 [ab,tI,tI,am,tI,am] [tI,ab] ⟨28,.any::.box 1 0::aN 2 (.con ab::.own 2::aN 7 [.con tI,.var tI]),[bP,bP,.rowv tI]⟩ [(.exit 0,⟨28,.any::.box 1 0::aN 2 (.con ab::.own 2::aN 7 [.con tI]),[bP,bP,.rowv tI]⟩,[ab])]
def zS (ρ:Type):Ĉ ρ:=⟨[4,1],217,0,Mz,fun(p:Val (.pair ab bq)) (v:ek) a b=>Ge p.2.1 p.2.2.2.2.1 p.2.2.2.2.2 v.1 v.2 (fun c d=>a (c,d)) (b 0)⟩
def My:Å:=Ls 0 [ab,tI,ab] [tI,aa] ⟨39,aN 5 (.con ab::.own 0::.own 1::aN 12 [.con tI,.var tI]),[.rowc tI,.rowv Ç]⟩ [(.exit 0,⟨39,aN 5 (.con ab::.own 0::.own 1::aN 12 [.con tI]),[.rowc tI,.rowv Ç]⟩,[aa])]
def zR (ρ:Type):Ĉ ρ:=⟨[],134,0,My,fun(p:Val bc) (v:wl) a b=>Gd p.1 p.2.1 p.2.2 v.1 v.2 (fun c d=>a (c,d)) (b 0)⟩
def Bs (ρ:Type):Env ρ:=á [(216,Rj),(267,Nx)] [zS ρ,zR ρ]
def Nu:đ:=⟨[Ë,Ç],[Ç,tI],fun(x:nR)=>On x.1 x.2⟩
def RP (ρ:Type):Env ρ:=á [(76,se),(132,Rs),(133,Wa),(134,Rk)] []
def Nw:đ:=⟨[Â,tI,tI],[am,tI],fun(x:Val (.pair Â Ç))=>Oo x.1 x.2.1 x.2.2⟩
def wU:Å:=Ls 0 [tI,tI,ah,tI,tI,tI,ae,aa,af,ac,aa,aj] [tI,aU] ⟨113,.any::.con tI::.con tI::.box 0 0::aN 7 (.omp 1::aN 30 [.con ah,.con tI,.var tI]),[bD,.mapv tI Ç]⟩ [(.ret,⟨113,.any::.con tI::.con tI::.box 0 0::aN 2 (.nils::.var tI::aN 3 (.omp 1::aN 30 [.con ah,.con tI])),[bD,.mapv tI Ç]⟩,[tI,aU]),(.exit 0,⟨113,.any::.con tI::.con tI::.box 0 0::aN 7 (.omp 1::aN 30 [.con ah,.con tI]),[bD,.mapv tI Ç]⟩,[aU])]
def wT (ρ:Type):Ĉ ρ:=⟨[],21,0,wU,fun(p:Val (tyL wU.cs)) (v:Val (.pair tI aU)) b a=>let A:=p.2.2.2.2;let B:=A.2.2.2.2;CZ p.1 p.2.1 p.2.2.1 p.2.2.2.1 A.1 A.2.1 A.2.2.1 A.2.2.2.1 B.1 B.2.1 B.2.2.1 B.2.2.2 v.1 v.2 (fun c d=>b (c,d)) (a 0) (a 1)⟩
def wS:Å:=Ls 0 [ae,tI,aU] [tI,am] ⟨113,aN 11 (.omp 0::aN 7 (.own 1::aN 70 [.con ae,.con tI,.var tI])),[.mapc tI Ç,.rowv Ō]⟩ [(.exit 2,⟨113,aN 11 (.omp 0::aN 7 (.own 1::aN 70 [.con ae,.con tI])),[.mapc tI Ç,.rowv Ō]⟩,[am])]
def wR (ρ:Type):Ĉ ρ:=⟨[],21,2,wS,fun(p:Val (tyL wS.cs)) (v:ew) a b=>CY p.1 p.2.1 p.2.2 v.1 v.2 (fun c d=>a (c,d)) (b 0)⟩
def wV (ρ:Type):Env ρ:=á [(16,Λ),(38,HH),(41,EK),(44,Cd),(60,Nu),(61,kJ)] [wT ρ,wR ρ]
variable [LC]
def OZ:đ:=⟨[Â,ab],[Â],fun(x:qs)=>HV x.1 x.2⟩
def CB:Å:=Ls 7 [tI,tI,tI,ae,aa,af,ac,aa,aj,ab,tI,tI,tI,tI,ae,aa,af,ac,aa,aj,tI,tI,ac] [tI] ⟨19,.own 6::.fn 144 [(4,0)]::aN 5 [.con tI,.var tI],cz⟩ [(.ret,⟨19,[.own 6,.fn 144 [(4,0)],.any,.any,.var tI,.any,.any,.con tI],cz⟩,[tI]),(.exit 0,⟨19,.own 6::.fn 144 [(4,0)]::aN 5 [.con tI],cz⟩,[])]
def CA (ρ:Type):Ĉ ρ:=⟨[1,2,1,5,1,2],140,0,CB,fun(p:Val (tyL CB.cs)) (v:Int) b a=>I0 p.1 p.2.2.2.2.2.2.2.2.2.1 p.2.2.2.2.2.2.2.2.2.2.2.2.2.2.2.2.2.2.2.2.2.2 v (fun c=>b c) (a 0) (a 1)⟩
def Cz:Å:=Ls 7 [tI,tI,ae,aa,af,ac,aa,aj,ab,tI,tI,tI,tI,ae,aa,af,ac,aa,aj,tI,tI] [tI,tI,ac] ⟨42,[.own 6,.fn 144 [(4,0)],.any,.any,.any,.var tI,.var tI],[bD,bt,bV,bD,bW,bV,.rowv Ü]⟩ [(.exit 0,⟨42,[.own 6,.fn 144 [(4,0)],.any,.any,.any,.var tI],[bD,bt,bV,bD,bW,bV,.rowv Ü]⟩,[tI,ac])]
def Cy (ρ:Type):Ĉ ρ:=⟨[1,2,1,5],142,0,Cz,fun(p:Val (tyL Cz.cs)) (v:ry) a b=>IZ p.2.2.2.2.2.2.2.2.1 v.1 v.2.1 v.2.2 (fun c d e=>a (c,d,e)) (b 0)⟩
def xZ (ρ:Type):Env ρ:=á [(75,Ő)] [CA ρ,Cy ρ]
def VZ:đ:=⟨[Â],[ab,tI],fun(x:a7)=>W7 x⟩
def Pn:Å:=Ls 0 [ac,tI,tI,tI,ae,aa,af,ac,aa,aj] [tI,ab] ⟨66,.any::.box 0 0::aN 5 (.own 1::aN 19 [.con ac,.con tI,.var tI]),[bD,.rowv tI]⟩ [(.exit 0,⟨66,.any::.box 0 0::aN 5 (.own 1::aN 19 [.con ac,.con tI]),[bD,.rowv tI]⟩,[ab])]
def C1 (ρ:Type):Ĉ ρ:=⟨[],22,0,Pn,fun(p:Val (.pair ac aK)) (v:ek) a b=>Jv p.1 p.2.1 v.1 v.2 (fun c d=>a (c,d)) (b 0)⟩
def Pm:Å:=Ls 0 [tI,tI,ae,aa,af,ac,aa,aj] [ab,tI] ⟨66,.any::.box 0 0::aN 5 [.var ab,.any,.any,.var tI],[bD]⟩ [(.exit 2,⟨66,.any::.box 0 0::aN 5 [.var ab],[bD]⟩,[ab])]
def C0 (ρ:Type):Ĉ ρ:=⟨[],22,2,Pm,fun(p:v6) (v:l7) a b=>let A:=p.2.2.2.2;Ju p.1 p.2.1 p.2.2.1 p.2.2.2.1 A.1 A.2.1 A.2.2.1 A.2.2.2 v.1 v.2 (fun c d=>a (c,d)) (b 0)⟩
def EV (ρ:Type):Env ρ:=á [(16,Λ),(59,nV),(62,iE),(63,OZ)] [C1 ρ,C0 ρ]
def Nv:đ:=⟨[ab,tI],[ab],fun(x:l7)=>oG x.1 x.2⟩
def Ji:Å:=Ls 0 [tI,ab,tI] [tI,ab] ⟨26,[.any,.con tI,.any,.any,.any,.own 0,.any,.any,.con ab,.con tI,.var tI],b9⟩ [(.exit 0,⟨26,[.any,.con tI,.any,.any,.any,.own 0,.any,.any,.con ab,.con tI],b9⟩,[ab])]
def wK (ρ:Type):Ĉ ρ:=⟨[],68,0,Ji,fun(p:Val (.pair tI aH)) (v:ek) a b=>CI p.1 p.2.1 p.2.2 v.1 v.2 (fun c d=>a (c,d)) (b 0)⟩
def F8 (ρ:Type):Env ρ:=á [] [wK ρ]
def FW:đ:=⟨[Â,ab],[ab,tI],fun(x:qs)=>Gz x.1 x.2⟩
def sJ:Å:=Ls 3 [ac,tI,tI,tI,ae,aa,af,ac,aa,aj,ab,tI] [tI] ⟨19,.con ac::.fn 65 [(2,0)]::aN 5 [.con tI,.var tI],[bD,bt,bB]⟩ [(.ret,⟨19,[.con ac,.fn 65 [(2,0)],.any,.any,.var tI,.any,.any,.con tI],[bD,bt,bB]⟩,[tI]),(.exit 0,⟨19,.con ac::.fn 65 [(2,0)]::aN 5 [.con tI],[bD,bt,bB]⟩,[])]
def sI (ρ:Type):Ĉ ρ:=⟨[9,4,1,2],140,0,sJ,fun(p:Val (tyL sJ.cs)) (v:Int) b a=>wO p.1 p.2.1 p.2.2.2.2.2.2.2.2.2.2.2 v (fun c=>b c) (a 0) (a 1)⟩
def sL:Å:=Ls 0 [ab,tI,tI,tI,ae,aa,af,ac,aa,aj,ab] [tI] ⟨135,aN 2 (.box 0 0::.box 1 0::aN 28 [.con ab,.con tI,.var tI]),[bD,bt]⟩ [(.ret,⟨135,aN 2 (.box 0 0::.box 1 0::.nils::.var tI::aN 26 [.con ab,.con tI]),[bD,bt]⟩,[tI]),(.exit 0,⟨135,aN 2 (.box 0 0::.box 1 0::aN 28 [.con ab,.con tI]),[bD,bt]⟩,[])]
def sK (ρ:Type):Ĉ ρ:=⟨[],23,0,sL,fun(p:Val (tyL sL.cs)) (v:Int) b a=>wP p.1 p.2.1 p.2.2.2.2.2.2.2.1 v (fun c=>b c) (a 0) (a 1)⟩
def sH:Å:=Ls 0 [tI,tI,ae,aa,af,ac,aa,aj,ab] [tI] ⟨135,aN 2 (.box 0 0::.box 1 0::aN 5 [.var tI]),[bD,bt]⟩ [(.ret,⟨135,[.any,.any,.box 0 0,.box 1 0,.nils,.var tI],[bD,bt]⟩,[tI]),(.exit 2,⟨135,[.any,.any,.box 0 0,.box 1 0],[bD,bt]⟩,[])]
def sG (ρ:Type):Ĉ ρ:=⟨[],23,2,sH,fun(p:Val (tyL sH.cs)) (v:Int) b a=>wN p.2.2.2.2.2.2.2.2 v (fun c=>b c) (a 0) (a 1)⟩
def sF:Å:=Ls 4 [ah,tI,tI,tI,ae,aa,af,ac,aa,aj,ab,tI] [tI] ⟨21,.any::.fn 70 [(3,0),(2,0)]::aN 7 [.con ah,.con tI,.var tI],[bD,bt,bB,bX]⟩ [(.ret,⟨21,[.any,.fn 70 [(3,0),(2,0)],.any,.any,.var ak,.var .bool,.any,.any,.any,.con ah,.con tI],[bD,bt,bB,bX]⟩,[ak,.bool]),(.exit 0,⟨21,.any::.fn 70 [(3,0),(2,0)]::aN 7 [.con ah,.con tI],[bD,bt,bB,bX]⟩,[])]
def sE (ρ:Type):Ĉ ρ:=⟨[21,2],69,0,sF,fun(p:Val (tyL sF.cs)) (v:Int) b a=>let A:=p.2.2.2.2;let B:=A.2.2.2.2;wM p.1 p.2.1 p.2.2.1 p.2.2.2.1 A.1 A.2.1 A.2.2.1 A.2.2.2.1 B.1 B.2.1 B.2.2.1 B.2.2.2 v (fun c=>b c) (a 0) (a 1)⟩
def su:Å:=Ls 4 [ab,ab,ab,tI,ab,ab,tI,tI,ae,aa,af,ac,aa,aj] [tI] ⟨36,.con ab::.con ab::aN 7 [.con ab,.con tI,.var tI],cA⟩ [(.ret,⟨36,.con ab::.con ab::aN 2 (.var tI::aN 4 [.con ab,.con tI]),cA⟩,[tI]),(.exit 0,⟨36,.con ab::.con ab::aN 7 [.con ab,.con tI],cA⟩,[])]
def sr (ρ:Type):Ĉ ρ:=⟨[29,14],71,0,su,fun(p:Val (tyL su.cs)) (v:Int) b a=>wL p.2.1 p.2.2.1 p.2.2.2.1 v (fun c=>b c) (a 0) (a 1)⟩
def sq:Å:=Ls 0 [ah,ab,tI,tI,ab,tI,tI,tI,ab,ab,tI,tI,ae,aa,af,ac,aa,aj] [tI] ⟨135,aN 3 (.box 0 0::aN 6 (.con ah::.any::.box 1 0::.own 2::aN 2 (.con ab::.con tI::.con tI::.con ab::aN 57 (.con tI::.con tI::aN 23 [.own 2,.con tI,.var tI])))),cA⟩ [(.exit 5,⟨135,aN 3 (.box 0 0::aN 6 (.con ah::.any::.box 1 0::.own 2::aN 2 (.con ab::.con tI::.con tI::.con ab::aN 57 (.con tI::.con tI::aN 23 [.own 2,.con tI])))),cA⟩,[]),(.exit 6,⟨135,aN 3 (.box 0 0::aN 6 (.con ah::.any::.box 1 0::.own 2::aN 2 (.con ab::.con tI::.con tI::.con ab::aN 57 (.con tI::.con tI::aN 23 [.own 2,.con tI])))),cA⟩,[])]
def sn (ρ:Type):Ĉ ρ:=⟨[],23,6,sq,fun(p:Val (tyL sq.cs)) (v:Int) b a=>kT p.2.2.2.1 p.2.2.2.2.2.2.2.1 p.2.2.2.2.2.2.2.2.2.1 v (fun c=>b c) (a 0) (a 1)⟩
def sm:Å:=Ls 0 [ah,ab,tI,tI,ab,tI,tI,ah,tI,ab,tI,tI,ae,aa,af,ac,aa,aj] [tI,ab] ⟨135,aN 3 (.box 0 0::aN 6 (.con ah::.any::.box 1 0::.own 2::aN 2 (.con ab::.con tI::.con tI::.con ab::aN 57 (.con tI::.con tI::aN 34 [.con ah,.con tI,.var tI])))),cB⟩ [(.exit 5,⟨135,aN 3 (.box 0 0::aN 6 (.con ah::.any::.box 1 0::.own 2::aN 2 (.con ab::.con tI::.con tI::.con ab::aN 57 (.con tI::.con tI::aN 34 [.con ah,.con tI])))),cB⟩,[ab]),(.exit 8,⟨135,aN 3 (.box 0 0::aN 6 (.con ah::.any::.box 1 0::.own 2::aN 2 (.con ab::.con tI::.con tI::.con ab::aN 57 (.con tI::.con tI::aN 34 [.con ah,.con tI])))),cB⟩,[ab])]
def sl (ρ:Type):Ĉ ρ:=⟨[],23,8,sm,fun(p:Val (tyL sm.cs)) (v:ek) b a=>let A:=p.2.2.2.2.2.2.2;let B:=A.2.2.2.2;let C:=B.2.2.2.2;kS p.2.2.2.1 A.1 A.2.1 A.2.2.1 A.2.2.2.1 B.1 B.2.1 B.2.2.1 B.2.2.2.1 C.1 C.2.1 C.2.2 v.1 v.2 (fun c d=>b (c,d)) (a 0) (a 1)⟩
def sw:Å:=Ls 0 [ah,tI,ab,tI,tI,ae,aa,af,ac,aa,aj] [ab,tI,tI,ab] ⟨135,aN 3 (.box 0 0::aN 6 (.con ah::.any::.box 1 0::.own 2::aN 2 (.var ab::.var tI::aN 59 [.con tI,.var tI]))),cB⟩ [(.exit 4,⟨135,aN 3 (.box 0 0::aN 6 (.con ah::.any::.box 1 0::.own 2::aN 3 (.var tI::aN 59 [.con tI]))),cB⟩,[tI,ab])]
def sv (ρ:Type):Ĉ ρ:=⟨[],23,4,sw,fun(p:Val (tyL sw.cs)) (v:Val (.pair ab aT)) a b=>let A:=p.2.2.2.2;let B:=A.2.2.2.2;oX p.1 p.2.1 p.2.2.1 p.2.2.2.1 A.1 A.2.1 A.2.2.1 A.2.2.2.1 B.1 B.2.1 B.2.2 v.1 v.2.1 v.2.2.1 v.2.2.2 (fun c d e f=>a (c,d,e,f)) (b 0)⟩
def Ķ (ρ:Type):Env ρ:=á [(16,Λ),(58,xV),(63,OZ),(67,qi),(68,Nv),(129,lS)] [sI ρ,sK ρ,sG ρ,sE ρ,sr ρ,sn ρ,sl ρ,sv ρ]
def Nz:đ:=⟨[ab,ab],[ab,ab,tI],fun(x:im)=>Fw x.1 x.2⟩
def Sv (ρ:Type):Env ρ:=á [(145,EM),(146,Cj)] []
def Ce:đ:=⟨[Â,tI],[.bool,tI],fun(x:nj)=>D3 x.1 x.2⟩
def qK:Å:=Ls 6 [tI,tI,tI,ae,aa,af,ac,aa,aj,tI,tI,tI,ae,aa,af,ac,aa,aj,tI,tI,ac] [tI] ⟨19,.own 5::.fn 144 [(3,0)]::aN 5 [.con tI,.var tI],cD⟩ [(.ret,⟨19,[.own 5,.fn 144 [(3,0)],.any,.any,.var tI,.any,.any,.con tI],cD⟩,[tI]),(.exit 0,⟨19,.own 5::.fn 144 [(3,0)]::aN 5 [.con tI],cD⟩,[])]
def qJ (ρ:Type):Ĉ ρ:=⟨[7,2,1,5,1,2],140,0,qK,fun(p:Val (tyL qK.cs)) (v:Int) b a=>vk p.1 p.2.2.2.2.2.2.2.2.2.1 p.2.2.2.2.2.2.2.2.2.2.2.2.2.2.2.2.2.2.2.2 v (fun c=>b c) (a 0) (a 1)⟩
def qI:Å:=Ls 6 [tI,tI,ae,aa,af,ac,aa,aj,tI,tI,tI,ae,aa,af,ac,aa,aj,tI,tI] [tI,tI,ac] ⟨42,[.own 5,.fn 144 [(3,0)],.any,.any,.any,.var tI,.var tI],[bD,bB,bD,bZ,bV,.rowv Ü]⟩ [(.exit 0,⟨42,[.own 5,.fn 144 [(3,0)],.any,.any,.any,.var tI],[bD,bB,bD,bZ,bV,.rowv Ü]⟩,[tI,ac])]
def qH (ρ:Type):Ĉ ρ:=⟨[7,2,1,5],142,0,qI,fun(p:Val (tyL qI.cs)) (v:ry) a b=>vh p.2.2.2.2.2.2.2.2.1 v.1 v.2.1 v.2.2 (fun c d e=>a (c,d,e)) (b 0)⟩
def kR (ρ:Type):Env ρ:=á [(16,Λ),(44,Cd),(59,nV),(74,Nz),(75,Ő)] [qJ ρ,qH ρ]
def Ri:đ:=⟨[Ó,tI,tI],[ak],fun(x:Val (.pair Ó Ç))=>S8 x.1 x.2.1 x.2.2⟩
def NT:Å:=Ls 0 [tI,tI,tI,tI,am] [tI,ab] ⟨45,.any::.con tI::.con tI::.box 0 0::aN 3 (.own 1::aN 7 [.con tI,.var tI]),[bP,.rowv tI]⟩ [(.exit 0,⟨45,.any::.con tI::.con tI::.box 0 0::aN 3 (.own 1::aN 7 [.con tI]),[bP,.rowv tI]⟩,[ab])]
def NS (ρ:Type):Ĉ ρ:=⟨[],150,0,NT,fun(p:Val (tyL NT.cs)) (v:ek) a b=>Ws p.2.2.1 v.1 v.2 (fun c d=>a (c,d)) (b 0)⟩
def NQ:Å:=Ls 4 [ab,tI,ak,tI,am] [tI,ab] ⟨53,.con ab::.box 1 0::aN 2 (.own 4::aN 7 [.con tI,.var tI]),cE⟩ [(.exit 0,⟨53,.con ab::.box 1 0::aN 2 (.own 4::aN 7 [.con tI]),cE⟩,[ab])]
def NP (ρ:Type):Ĉ ρ:=⟨[12,8],226,0,NQ,fun(p:Val (tyL NQ.cs)) (v:ek) a b=>Wq p.2.1 v.1 v.2 (fun c d=>a (c,d)) (b 0)⟩
def NN:Å:=Ls 4 [ab,am,tI,ak,tI,am] [tI,ab] ⟨53,.con ab::aN 3 (.own 4::aN 16 [.con am,.con tI,.var tI]),cE⟩ [(.exit 2,⟨53,.con ab::aN 3 (.own 4::aN 16 [.con am,.con tI]),cE⟩,[ab])]
def NM (ρ:Type):Ĉ ρ:=⟨[12,8],226,2,NN,fun(p:Val (tyL NN.cs)) (v:ek) a b=>Wp p.1 p.2.1 p.2.2.1 v.1 v.2 (fun c d=>a (c,d)) (b 0)⟩
def Yo:Å:=Ls 0 [tI,tI,am] [tI,ak] ⟨45,aN 9 (.own 0::.fn 226 [(1,0)]::aN 18 [.con tI,.var tI]),[.rowv ab,bP]⟩ [(.exit 2,⟨45,aN 9 (.own 0::.fn 226 [(1,0)]::aN 18 [.con tI]),[.rowv ab,bP]⟩,[ak])]
def NR (ρ:Type):Ĉ ρ:=⟨[],150,2,Yo,fun(p:Val aV) (v:Val bj) a b=>Wr p.1 p.2.1 p.2.2 v.1 v.2 (fun c d=>a (c,d)) (b 0)⟩
def JG (ρ:Type):Env ρ:=á [] [NS ρ,NP ρ,NM ρ,NR ρ]
def Rl:đ:=⟨[Ó],[ab,tI],fun(x:ew)=>Ta x⟩
def MA:Å:=Ls 0 [tI,tI,am] [tI,ah] ⟨93,.any::.box 0 0::aN 6 (.own 1::aN 24 [.con tI,.var tI]),[bP,.rowv ak]⟩ [(.exit 0,⟨93,.any::.box 0 0::aN 6 (.own 1::aN 24 [.con tI]),[bP,.rowv ak]⟩,[ah])]
def Ac (ρ:Type):Ĉ ρ:=⟨[],77,0,MA,fun(p:Val aV) (v:hO) a b=>Gm p.1 p.2.1 p.2.2 v.1 v.2 (fun c d=>a (c,d)) (b 0)⟩
def zV:Å:=Ls 3 [tI,ak,am,tI,tI,am,ah,tI,tI,tI,tI,am] [tI,tI,tI,ab] ⟨73,.any::.var tI::.con tI::.con ak::.fn 151 []::.box 3 0::aN 5 (.own 4::.var tI::aN 7 [.con am,.con tI,.var tI]),cF⟩ [(.exit 2,⟨73,.any::.var tI::.con tI::.con ak::.fn 151 []::.box 3 0::aN 5 (.own 4::.var tI::aN 7 [.con am,.con tI]),cF⟩,[tI,tI,ab])]
def zU (ρ:Type):Ĉ ρ:=⟨[22,10],152,2,zV,fun(p:Val (tyL zV.cs)) (v:so) a b=>Gf p.1 p.2.1 p.2.2.1 p.2.2.2.1 v.1 v.2.1 v.2.2.1 v.2.2.2 (fun c d e f=>a (c,d,e,f)) (b 0)⟩
def zX:Å:=Ls 3 [ak,tI,am,ah,tI,tI,tI,tI,am] [tI,tI,tI,ab] ⟨73,.any::.var tI::.var tI::.con ak::.fn 151 []::.box 3 0::aN 5 [.own 4,.var tI],cF⟩ [(.exit 0,⟨73,aN 3 (.con ak::.fn 151 []::.box 3 0::aN 5 [.own 4]),cF⟩,[ab])]
def zW (ρ:Type):Ĉ ρ:=⟨[22,10],152,0,zX,fun(p:Val (tyL zX.cs)) (v:so) a b=>Gg p.1 p.2.2.2.2.2.2.2.2 v.1 v.2.1 v.2.2.1 v.2.2.2 (fun c d e f=>a (c,d,e,f)) (b 0)⟩
def zZ:Å:=Ls 0 [tI,am,tI,tI,am,ah] [tI] ⟨93,.any::.box 0 0::aN 6 (.own 1::.any::.fn 151 []::.con tI::aN 37 [.con am,.con tI,.var tI]),[bP,.rowc ak]⟩ [(.exit 2,⟨93,.any::.box 0 0::aN 6 (.own 1::.any::.fn 151 []::.con tI::aN 37 [.con am,.con tI]),[bP,.rowc ak]⟩,[]),(.ret,⟨93,.any::.box 0 0::.own 2::.var tI::aN 4 (.own 1::.any::.fn 151 []::.con tI::aN 37 [.con am,.con tI]),[bP,.rowc ak,.rowv tI]⟩,[tI,ab]),(.exit 4,⟨93,.any::.box 0 0::aN 6 (.own 1::.any::.fn 151 []::.con tI::aN 37 [.con am,.con tI]),[bP,.rowc ak]⟩,[])]
def zY (ρ:Type):Ĉ ρ:=⟨[],77,4,zZ,fun(p:Val (tyL zZ.cs)) (v:Int) b a=>Gi p.1 p.2.1 p.2.2.1 p.2.2.2.1 p.2.2.2.2.1 p.2.2.2.2.2 v (fun c=>b c) (a 0) (a 1) (a 2)⟩
def Ab:Å:=Ls 0 [tI,am,ah] [tI] ⟨93,.any::.box 0 0::aN 6 [.own 1,.any,.fn 151 [],.var tI],[bP,.rowc ak]⟩ [(.exit 2,⟨93,.any::.box 0 0::aN 6 [.own 1,.any,.fn 151 []],[bP,.rowc ak]⟩,[]),(.ret,⟨93,.any::.box 0 0::.own 2::.var tI::aN 4 [.own 1,.any,.fn 151 []],[bP,.rowc ak,.rowv tI]⟩,[tI,ab])]
def Aa (ρ:Type):Ĉ ρ:=⟨[],77,2,Ab,fun(p:Val (tyL Ab.cs)) (v:Int) b a=>Gj p.1 p.2.1 p.2.2 v (fun c=>b c) (a 0) (a 1)⟩
def lZ (ρ:Type):Env ρ:=á [(148,vZ),(149,qj),(150,Ri)] [Ac ρ,zU ρ,zW ρ,zY ρ,Aa ρ]
def Rc:đ:=⟨[Â],[ak,tI],fun(x:a7)=>S6 x⟩
def Mh:Å:=Ls 0 [ah,tI,tI,tI,ae,aa,af,ac,aa,aj] [tI,ak] ⟨46,.any::.box 0 0::aN 3 (.own 1::aN 13 [.con ah,.con tI,.var tI]),[bD,.rowv ab]⟩ [(.ret,⟨46,.any::.box 0 0::.nils::.var tI::.any::.own 1::aN 13 [.con ah,.con tI],[bD,.rowv ab]⟩,[tI,ak]),(.exit 0,⟨46,.any::.box 0 0::aN 3 (.own 1::aN 13 [.con ah,.con tI]),[bD,.rowv ab]⟩,[ak])]
def zy (ρ:Type):Ĉ ρ:=⟨[],25,0,Mh,fun(p:Val (.pair ah aK)) (v:Val bj) b a=>let A:=p.2.2.2.2;Ga p.1 p.2.1 p.2.2.1 p.2.2.2.1 A.1 A.2.1 A.2.2.1 A.2.2.2.1 A.2.2.2.2.1 A.2.2.2.2.2 v.1 v.2 (fun c d=>b (c,d)) (a 0) (a 1)⟩
def Jk (ρ:Type):Env ρ:=á [(16,Λ),(58,xV),(61,kJ),(76,se),(77,Rl)] [zy ρ]
def Iy:đ:=⟨[Ó,ab],[tI],fun(x:Val (.pair Ó ab))=>KY x.1 x.2⟩
def G8:Å:=Ls 1 [ab,tI,tI,am] [tI] ⟨19,.con ab::.fn 227 [(0,0)]::aN 5 [.con tI,.var tI],[bP]⟩ [(.ret,⟨19,[.con ab,.fn 227 [(0,0)],.any,.any,.var tI,.any,.any,.con tI],[bP]⟩,[tI]),(.exit 0,⟨19,.con ab::.fn 227 [(0,0)]::aN 5 [.con tI],[bP]⟩,[])]
def vp (ρ:Type):Ĉ ρ:=⟨[3,2,1,2],208,0,G8,fun(p:Val (.pair ab aV)) (v:Int) b a=>zP p.1 p.2.1 p.2.2.2 v (fun c=>b c) (a 0) (a 1)⟩
def Dc (ρ:Type):Env ρ:=á [] [vp ρ]
def V4:đ:=⟨[Ó,tI,ab],[tI,tI,.bool],fun(x:Val (.pair Ó ī))=>W8 x.1 x.2.1 x.2.2⟩
def Po:Å:=Ls 0 [ab,tI,tI,am] [tI,tI,tI] ⟨37,.any::.var tI::.any::.box 0 0::aN 5 [.var tI,.any,.any,.any,.con ab,.con tI,.var tI],[bP]⟩ [(.ret,⟨37,aN 3 (.box 0 0::aN 2 (.var tI::.var tI::.var .bool::aN 4 [.con ab,.con tI])),[bP]⟩,[tI,tI,.bool]),(.exit 0,⟨37,.any::.var tI::.any::.box 0 0::aN 5 [.var tI,.any,.any,.any,.con ab,.con tI],[bP]⟩,[tI,tI])]
def C6 (ρ:Type):Ĉ ρ:=⟨[],154,0,Po,fun(p:Val (.pair ab aV)) (v:pc) b a=>JF p.1 p.2.1 p.2.2.2 v.1 v.2.1 v.2.2 (fun c d e=>b (c,d,e)) (a 0) (a 1)⟩
def NL (ρ:Type):Env ρ:=á [] [C6 ρ]
def zj:đ:=⟨[Ó,ab],[tI],fun(x:Val (.pair Ó ab))=>AI x.1 x.2⟩
def Hf (ρ:Type):Env ρ:=á [(148,vZ),(153,Iy),(154,V4)] []
def zd:đ:=⟨[Â,ak],[tI],fun(x:Val bf)=>rR x.1 x.2⟩
def oZ:Å:=Ls 0 [ak,ah,tI,tI,tI,ae,aa,af,ac,aa,aj] [tI] ⟨47,.any::.con ak::.box 0 0::aN 21 [.con ah,.con tI,.var tI],[bD]⟩ [(.ret,⟨47,.any::.con ak::.box 0 0::.any::.var tI::aN 19 [.con ah,.con tI],[bD]⟩,[tI]),(.exit 0,⟨47,.any::.con ak::.box 0 0::aN 21 [.con ah,.con tI],[bD]⟩,[])]
def oY (ρ:Type):Ĉ ρ:=⟨[],26,0,oZ,fun(p:Val (tyL oZ.cs)) (v:Int) b a=>let A:=p.2.2.2.2;let B:=A.2.2.2.2;sM p.1 p.2.1 p.2.2.1 p.2.2.2.1 A.1 A.2.1 A.2.2.1 A.2.2.2.1 B.1 B.2.1 B.2.2 v (fun c=>b c) (a 0) (a 1)⟩
def vl (ρ:Type):Env ρ:=á [(16,Λ),(58,xV),(61,kJ),(76,se),(78,zj)] [oY ρ]
def kL:đ:=⟨[ab,ab],[.bool],fun(x:im)=>Ň x.1 x.2⟩
def C3:Å:=Ls 0 [ab,ab] [tI] ⟨26,[.con ab,.con ab,.any,.any,.any,.var tI],[]⟩ [(.ret,⟨26,[.con ab,.con ab,.any,.any,.var .bool],[]⟩,[.bool]),(.exit 0,⟨26,[.con ab,.con ab],[]⟩,[])]
def qS (ρ:Type):Ĉ ρ:=⟨[],28,0,C3,fun(p:im) (v:Int) b a=>jW p.1 p.2 v (fun c=>b c) (a 0) (a 1)⟩
def wY (ρ:Type):Env ρ:=á [] [qS ρ]
def FX:đ:=⟨[ak,ak],[.bool],fun(x:Val (.pair ak ak))=>GA x.1 x.2⟩
def EW:Å:=Ls 0 [ak,ak] [tI] ⟨29,[.con ak,.con ak,.any,.any,.any,.var tI],[]⟩ [(.ret,⟨29,[.con ak,.con ak,.any,.any,.var .bool],[]⟩,[.bool]),(.exit 0,⟨29,[.con ak,.con ak],[]⟩,[])]
def sW (ρ:Type):Ĉ ρ:=⟨[],27,0,EW,fun(p:Val (.pair ak ak)) (v:Int) b a=>wX p.1 p.2 v (fun c=>b c) (a 0) (a 1)⟩
def zJ (ρ:Type):Env ρ:=á [(28,kL)] [sW ρ]
def Cc:đ:=⟨[],[.bool],fun(_:Unit)=>uG⟩
def wu (ρ:Type):Env ρ:=á [(10,Uh),(12,Ug),(18,VX),(19,FV),(20,Rf),(21,Nw),(22,VZ),(23,FW),(24,Ce),(25,Rc),(26,zd),(27,FX),(28,kL)] []
def A3:đ:=⟨[],[.bool],fun(_:Unit)=>Ž⟩
def V9:đ:=⟨[.str,ab],[.str],fun(x:Val (.pair .str ab))=>lr x.1 x.2⟩
def Pu:Å:=Ls 0 [ab,tI] [.str,tI] ⟨20,.var .str::aN 6 [.con ab,.con tI,.var tI],[]⟩ [(.exit 0,⟨20,.var .str::aN 6 [.con ab,.con tI],[]⟩,[.str])]
def Dy (ρ:Type):Ĉ ρ:=⟨[],88,0,Pu,fun(p:l7) (v:tl) a b=>uu p.1 p.2 v.1 v.2 (fun c d=>a (c,d)) (b 0)⟩
def NW (ρ:Type):Env ρ:=á [(37,rG)] [Dy ρ]
def IB:đ:=⟨[Ë],[.str,tI],fun(x:b5)=>lB x⟩
def AB:Å:=Ls 0 [ae,tI,tI,tI,ae,aa,af,ac,aa] [tI,au] ⟨158,.any::.box 0 0::aN 3 (.own 1::aN 25 [.con ae,.con tI,.var tI]),cG⟩ [(.exit 0,⟨158,.any::.box 0 0::aN 3 (.own 1::aN 25 [.con ae,.con tI]),cG⟩,[au])]
def AA (ρ:Type):Ĉ ρ:=⟨[],36,0,AB,fun(p:Val (tyL AB.cs)) (v:w7) a b=>ro p.1 p.2.1 v.1 v.2 (fun c d=>a (c,d)) (b 0)⟩
def Az:Å:=Ls 0 [aa,tI,tI,tI,ae,aa,af,ac,aa] [tI,au] ⟨158,.any::.box 0 0::aN 3 (.own 1::aN 58 [.con aa,.con tI,.var tI]),cG⟩ [(.exit 2,⟨158,.any::.box 0 0::aN 3 (.own 1::aN 58 [.con aa,.con tI]),cG⟩,[au])]
def Ay (ρ:Type):Ĉ ρ:=⟨[],36,2,Az,fun(p:Val (tyL Az.cs)) (v:w7) a b=>rl p.1 p.2.1 v.1 v.2 (fun c d=>a (c,d)) (b 0)⟩
def Ax:Å:=Ls 0 [af,tI,tI,tI,ae,aa,af,ac,aa] [tI,au] ⟨158,.any::.box 0 0::aN 3 (.own 1::aN 75 [.con af,.con tI,.var tI]),cG⟩ [(.exit 4,⟨158,.any::.box 0 0::aN 3 (.own 1::aN 75 [.con af,.con tI]),cG⟩,[au])]
def Aw (ρ:Type):Ĉ ρ:=⟨[],36,4,Ax,fun(p:Val (tyL Ax.cs)) (v:w7) a b=>rk p.1 p.2.1 v.1 v.2 (fun c d=>a (c,d)) (b 0)⟩
def Au:Å:=Ls 0 [ac,tI,tI,tI,ae,aa,af,ac,aa] [tI,au] ⟨158,.any::.box 0 0::aN 3 (.own 1::aN 98 [.con ac,.con tI,.var tI]),cG⟩ [(.exit 6,⟨158,.any::.box 0 0::aN 3 (.own 1::aN 98 [.con ac,.con tI]),cG⟩,[au])]
def As (ρ:Type):Ĉ ρ:=⟨[],36,6,Au,fun(p:Val (tyL Au.cs)) (v:w7) a b=>rj p.1 p.2.1 v.1 v.2 (fun c d=>a (c,d)) (b 0)⟩
def MR:Å:=Ls 0 [aa,tI] [tI,au] ⟨158,aN 5 (.own 0::aN 133 [.con aa,.con tI,.var tI]),[.rowv .str]⟩ [(.exit 8,⟨158,aN 5 (.own 0::aN 133 [.con aa,.con tI]),[.rowv .str]⟩,[au])]
def Ar (ρ:Type):Ĉ ρ:=⟨[],36,8,MR,fun(p:rd) (v:w7) a b=>ri p.1 p.2 v.1 v.2 (fun c d=>a (c,d)) (b 0)⟩
def kg (ρ:Type):Env ρ:=á [(54,oS),(88,V9),(89,ze)] [AA ρ,Ay ρ,Aw ρ,As ρ,Ar ρ]
def Iw:đ:=⟨[Â],[.str,tI],fun(x:a7)=>ő x⟩
def zA:Å:=Ls 0 [aj,tI,tI,ab,tI] [.str,tI] ⟨55,aN 5 (.var .str::aN 20 (.con aj::.con tI::.con tI::aN 10 [.con ab,.con tI,.var tI])),[]⟩ [(.exit 2,⟨55,aN 5 (.var .str::aN 20 (.con aj::.con tI::.con tI::aN 10 [.con ab,.con tI])),[]⟩,[.str])]
def zz (ρ:Type):Ĉ ρ:=⟨[],8,2,zA,fun(p:Val (tyL zA.cs)) (v:tl) a b=>mE p.2.2.2.1 p.2.2.2.2 v.1 v.2 (fun c d=>a (c,d)) (b 0)⟩
def Mi:Å:=Ls 0 [aj,tI] [.str,tI] ⟨55,aN 5 (.var .str::aN 20 [.con aj,.con tI,.var tI]),[]⟩ [(.exit 0,⟨55,aN 5 (.var .str::aN 20 [.con aj,.con tI]),[]⟩,[.str])]
def zB (ρ:Type):Ĉ ρ:=⟨[],8,0,Mi,fun(p:Val (.pair aj tI)) (v:tl) a b=>mF p.1 p.2 v.1 v.2 (fun c d=>a (c,d)) (b 0)⟩
def Bo (ρ:Type):Env ρ:=á [(16,Λ),(36,IB),(37,rG)] [zz ρ,zB ρ]
def ž:đ:=⟨[.str,.str],[.bool],fun(x:Val (.pair .str .str))=>ľ x.1 x.2⟩
def kH (ρ:Type):Env ρ:=á [] []
def oR:đ:=⟨[.str,.str],[.bool],fun(x:Val (.pair .str .str))=>gZ x.1 x.2⟩
def wW (ρ:Type):Env ρ:=á [(79,ž)] []
def A5:đ:=⟨[au],[ab],fun(x:fy)=>Ŏ x⟩
def Hl:Å:=Ls 0 [au,tI] [tI,ab] ⟨27,aN 3 (.own 0::aN 4 [.con au,.con tI,.var tI]),b9⟩ [(.exit 0,⟨27,aN 3 (.own 0::aN 4 [.con au,.con tI]),b9⟩,[ab])]
def vt (ρ:Type):Ĉ ρ:=⟨[],161,0,Hl,fun(p:Val (.pair au tI)) (v:ek) a b=>mn p.1 p.2 v.1 v.2 (fun c d=>a (c,d)) (b 0)⟩
def ME:w9 (Nat×TQ):=[(35,.atoi)]
def oc (ρ:Type):Env ρ:=ND [] [vt ρ] ME
def Ro:đ:=⟨[au],[ab,ab],fun(x:fy)=>D7 x⟩
def Ai:Å:=Ls 0 [au,au,tI] [tI] ⟨34,.con au::aN 14 [.con au,.con tI,.var tI],[]⟩ [(.ret,⟨34,.con au::.any::.var ab::.var ab::aN 11 [.con au,.con tI],[]⟩,[ab,ab]),(.exit 0,⟨34,.con au::aN 14 [.con au,.con tI],[]⟩,[])]
def Ah (ρ:Type):Ĉ ρ:=⟨[],167,0,Ai,fun(p:Val (tyL Ai.cs)) (v:Int) b a=>mR p.1 p.2.1 p.2.2 v (fun c=>b c) (a 0) (a 1)⟩
def J1 (ρ:Type):Env ρ:=á [(161,A5)] [Ah ρ]
def Rr:đ:=⟨[.str],[Ë,tI],fun(x:Val .str)=>pL x⟩
def iw:Tpl:=⟨51,[.con .str,.any,.box 0 0,.box 1 0,.box 2 0,.box 3 0],[.cells [.var tI,.var tI,.var ae,.var aa,.var af,.var ac,.var aa],.cells [.var tI],.cells [.var tI,.var tI,.own 18,.own 19,.own 20,.own 21,.own 22],.cells [.ofn 5],.cells [.box 2 0],.fns [((ByteArray.mk #[102,105,108,109]),160,[(6,0),(7,0)]),((ByteArray.mk #[103,97,117,103,101]),160,[(8,0),(9,0)]),((ByteArray.mk #[117,115,101]),160,[(10,0),(11,0)]),((ByteArray.mk #[108,111,97,110]),160,[(12,0),(13,0)]),((ByteArray.mk #[99,111,109,112,97,114,101]),160,[(14,0),(15,0)]),((ByteArray.mk #[108,111,111,107]),160,[(16,0),(17,0)])],.cells [.con tI],.cells [.fn 162 [(4,0)]],.cells [.con tI],.cells [.fn 163 [(4,0)]],.cells [.con tI],.cells [.fn 164 [(4,0)]],.cells [.con tI],.cells [.fn 165 [(4,0)]],.cells [.con tI],.cells [.fn 166 [(4,0)]],.cells [.con tI],.cells [.fn 168 [(4,0)]],.rowv Ö,.rowv Ç,.rowv jm,.rowv Ü,.rowv Ç]⟩
def AC:Tpl:=⟨51,[.con .str,.any,.box 0 0,.box 1 0,.box 2 0,.box 3 0],[.cells [.var tI,.var tI,.var ae,.var aa,.var af,.var ac,.var aa],.cells [.var tI],.cells [.any,.any,.any,.any,.any,.any,.any],.cells [.ofn 5],.cells [.box 2 0],.fns [((ByteArray.mk #[102,105,108,109]),160,[(6,0),(7,0)]),((ByteArray.mk #[103,97,117,103,101]),160,[(8,0),(9,0)]),((ByteArray.mk #[117,115,101]),160,[(10,0),(11,0)]),((ByteArray.mk #[108,111,97,110]),160,[(12,0),(13,0)]),((ByteArray.mk #[99,111,109,112,97,114,101]),160,[(14,0),(15,0)]),((ByteArray.mk #[108,111,111,107]),160,[(16,0),(17,0)])],.cells [.con tI],.cells [.fn 162 [(4,0)]],.cells [.con tI],.cells [.fn 163 [(4,0)]],.cells [.con tI],.cells [.fn 164 [(4,0)]],.cells [.con tI],.cells [.fn 165 [(4,0)]],.cells [.con tI],.cells [.fn 166 [(4,0)]],.cells [.con tI],.cells [.fn 168 [(4,0)]]]⟩
def rO (ρ:Type):LP ρ:=⟨[],31,0,18,[.str,tI,tI,tI,tI,tI,tI],[tI,tI,ae,aa,af,ac,aa,tI,tI,tI,ae,aa,af,ac,aa],[tI,tI,ae,aa,af,ac,aa,tI],iw,AC,82,ks,fun(p:v7) (v:v8) y a b=>Ã (ť p.2.1 p.2.2.1 p.2.2.2.1 p.2.2.2.2.1 p.2.2.2.2.2.1 p.2.2.2.2.2.2 v y) (outX a b)⟩
def Gt (ρ:Type):w9 (LP ρ):=[rO ρ]
def gR (ρ:Type):Env ρ:={á [(33,vX),(34,jx),(36,IB),(161,A5),(167,Ro)] [] with ranges:=DP (Gt ρ)}
def Re:đ:=⟨[.str],[Â,tI],fun(x:Val .str)=>jL x⟩
def zF:Å:=Ls 4 [.str,.str,tI,tI,tI,ae,aa,af,ac,aa,tI,tI,ae,aa,af,ac,aa,au,aj] [tI,tI,tI,ae,aa,af,ac,aa,aj,tI,tI,ab] ⟨100,.con .str::.any::.box 0 0::.box 1 0::aN 5 (.box 3 0::.any::.box 4 0::aN 34 [.con .str,.any,.any,.own 5,.con tI,.var tI]),[bR,.cells [.var tI],bu,b8,.cells [.var tI,.own 7],.rowc .str,.rowc ī,.rowv tI]⟩ [(.ret,⟨100,.con .str::.any::.box 0 0::.box 1 0::aN 5 (.box 3 0::.any::.box 4 0::aN 34 [.con .str,.any,.any,.own 5,.con tI]),[bR,.cells [.var tI],bu,b8,.cells [.var tI,.own 7],.rowc .str,.rowc ī,.rowv tI]⟩,[tI,tI,ae,aa,af,ac,aa,aj,tI,tI,ab]),(.exit 2,⟨100,.con .str::.any::.box 0 0::.box 1 0::aN 5 (.box 3 0::.any::.box 4 0::aN 34 [.con .str,.any,.any,.own 5,.con tI]),[bR,.cells [.var tI],bu,b8,.cells [.var tI,.own 7],.rowc .str,.rowc ī,.rowv tI]⟩,[tI,tI,ae,aa,af,ac,aa,aj,tI,tI,ab])]
def zE (ρ:Type):Ĉ ρ:=⟨[],7,2,zF,fun(p:Val (tyL zF.cs)) (v:Val (.pair tI aJ)) b a=>kq p.2.2.1 p.2.2.2.2.2.2.2.2.2.2.2.2.2.2.2.2.2.1 v.1 v.2.1 v.2.2.1 v.2.2.2.1 v.2.2.2.2.1 v.2.2.2.2.2.1 v.2.2.2.2.2.2.1 v.2.2.2.2.2.2.2.1 v.2.2.2.2.2.2.2.2.1 v.2.2.2.2.2.2.2.2.2.1 v.2.2.2.2.2.2.2.2.2.2.1 v.2.2.2.2.2.2.2.2.2.2.2 (fun c d e f g h i j k l m n=>b (c,d,e,f,g,h,i,j,k,l,m,n)) (a 0) (a 1)⟩
def iv:Tpl:=⟨100,.con .str::.any::.box 0 0::.box 1 0::aN 5 [.box 3 0],[.cells [.var tI,.var tI,.var ae,.var aa,.var af,.var ac,.var aa,.var aj],.cells [.var tI],.cells [.con tI,.con tI,.con ae,.con aa,.con af,.con ac,.con aa],.cells [.con tI,.con tI,.con ae,.con aa,.con af,.con ac,.con aa,.own 4],.rowv ī]⟩
def zD:Tpl:=⟨100,.con .str::.any::.box 0 0::.box 1 0::aN 5 [.box 3 0],[.cells [.var tI,.var tI,.var ae,.var aa,.var af,.var ac,.var aa,.var aj],.cells [.var tI],.cells [.con tI,.con tI,.con ae,.con aa,.con af,.con ac,.con aa],.cells [.con tI,.con tI,.con ae,.con aa,.con af,.con ac,.con aa,.any]]⟩
def rL (ρ:Type):LP ρ:=⟨[],7,0,4,[.str,tI,tI,ae,aa,af,ac,aa,tI,tI,ae,aa,af,ac,aa],[tI,tI,ae,aa,af,ac,aa,aj,tI,aj],[tI,tI,ae,aa,af,ac,aa,aj,tI],iv,zD,82,ks,fun(p:Val br) (v:Val aw) y a b=>ĕ v y a b⟩
def Gb (ρ:Type):w9 (LP ρ):=[rL ρ]
def RW:w9 (Nat×TQ):=[(33,.split),(35,.atoi)]
def Ź (ρ:Type):Env ρ:={ND [(8,Iw),(29,oR),(30,vY),(31,Rr),(34,jx)] [zE ρ] RW with ranges:=DP (Gb ρ)}
def VY:đ:=⟨[Â],[ab,tI],fun(x:a7)=>yq x⟩
def CM:Å:=Ls 3 [ah,tI,tI,tI,ae,aa,af,ac,aa,aj,ab,tI,tI,tI,tI,tI,tI,tI,tI] [tI] ⟨19,.con ah::.fn 40 [(0,0),(2,0)]::aN 5 [.con tI,.var tI],[bD,.rowc tI,bw]⟩ [(.ret,⟨19,[.con ah,.fn 40 [(0,0),(2,0)],.any,.any,.var tI,.any,.any,.con tI],[bD,.rowc tI,bw]⟩,[tI]),(.exit 0,⟨19,.con ah::.fn 40 [(0,0),(2,0)]::aN 5 [.con tI],[bD,.rowc tI,bw]⟩,[])]
def CL (ρ:Type):Ĉ ρ:=⟨[11,2,1,2],93,0,CM,fun(p:Val (tyL CM.cs)) (v:Int) b a=>let A:=p.2.2.2.2;let B:=A.2.2.2.2;ud p.1 p.2.1 p.2.2.1 p.2.2.2.1 A.1 A.2.1 A.2.2.1 A.2.2.2.1 B.1 B.2.1 B.2.2.2.1 v (fun c=>b c) (a 0) (a 1)⟩
def CO:Å:=Ls 0 [ah,ae,tI,tI,tI,ae,aa,af,ac,aa,aj] [tI,ab] ⟨38,.any::.box 0 0::aN 3 (.con ah::.own 1::aN 14 [.con ae,.con tI,.var tI]),[bD,.rowv tI]⟩ [(.exit 0,⟨38,.any::.box 0 0::aN 3 (.con ah::.own 1::aN 14 [.con ae,.con tI]),[bD,.rowv tI]⟩,[ab])]
def CN (ρ:Type):Ĉ ρ:=⟨[],9,0,CO,fun(p:Val (tyL CO.cs)) (v:ek) a b=>let A:=p.2.2.2.2;let B:=A.2.2.2.2;ue p.1 p.2.1 p.2.2.1 p.2.2.2.1 A.1 A.2.1 A.2.2.1 A.2.2.2.1 B.1 B.2.1 B.2.2 v.1 v.2 (fun c d=>a (c,d)) (b 0)⟩
def EU (ρ:Type):Env ρ:=á [(16,Λ),(38,HH),(41,EK)] [CL ρ,CN ρ]
def uY:đ:=⟨[Ü,Ü],[.bool],fun(x:Val (.pair Ü Ü))=>jY x.1 x.2⟩
def C5 (ρ:Type):Env ρ:=á [(28,kL)] []
def zh:đ:=⟨[aa,aa],[.bool],fun(x:Val (.pair aa aa))=>jN x.1 x.2⟩
def Bq:Å:=Ls 0 [aa,aa] [tI] ⟨26,[.con aa,.con aa,.any,.any,.any,.var tI],[]⟩ [(.ret,⟨26,[.con aa,.con aa,.any,.any,.var .bool],[]⟩,[.bool]),(.exit 0,⟨26,[.con aa,.con aa],[]⟩,[])]
def pr (ρ:Type):Ĉ ρ:=⟨[],96,0,Bq,fun(p:Val (.pair aa aa)) (v:Int) b a=>jg p.1 p.2 v (fun c=>b c) (a 0) (a 1)⟩
def vm (ρ:Type):Env ρ:=á [] [pr ρ]
def Rh:đ:=⟨[Ë,Ë],[.bool],fun(x:Val (.pair Ë Ë))=>D4 x.1 x.2⟩
def Ms:Å:=Ls 0 [tI,tI,ae,aa,af,ac,aa,tI,tI,ae,aa,af,ac,aa] [tI] ⟨130,[.any,.any,.box 0 0,.box 1 0,.any,.var tI],cH⟩ [(.ret,⟨130,[.any,.any,.box 0 0,.box 1 0,.var .bool],cH⟩,[.bool]),(.exit 0,⟨130,[.any,.any,.box 0 0,.box 1 0],cH⟩,[])]
def zN (ρ:Type):Ĉ ρ:=⟨[],42,0,Ms,fun(p:Val ar) (v:Int) b a=>qR p.2.2.1 p.2.2.2.2.2.2.2.2.2.1 v (fun c=>b c) (a 0) (a 1)⟩
def Mr:Å:=Ls 0 [tI,tI,ae,aa,af,ac,aa,tI,tI,ae,aa,af,ac,aa] [tI] ⟨130,[.any,.any,.box 0 0,.box 1 0,.any,.any,.var tI],cH⟩ [(.ret,⟨130,[.any,.any,.box 0 0,.box 1 0,.var .bool],cH⟩,[.bool]),(.exit 2,⟨130,[.any,.any,.box 0 0,.box 1 0],cH⟩,[])]
def zM (ρ:Type):Ĉ ρ:=⟨[],42,2,Mr,fun(p:Val ar) (v:Int) b a=>qQ p.2.2.2.1 p.2.2.2.2.2.2.2.2.2.2.1 v (fun c=>b c) (a 0) (a 1)⟩
def Mq:Å:=Ls 0 [tI,tI,ae,aa,af,ac,aa,tI,tI,ae,aa,af,ac,aa] [tI] ⟨130,[.any,.any,.box 0 0,.box 1 0,.any,.any,.any,.var tI],cH⟩ [(.ret,⟨130,[.any,.any,.box 0 0,.box 1 0,.var .bool],cH⟩,[.bool]),(.exit 4,⟨130,[.any,.any,.box 0 0,.box 1 0],cH⟩,[])]
def zL (ρ:Type):Ĉ ρ:=⟨[],42,4,Mq,fun(p:Val ar) (v:Int) b a=>qP p.2.2.2.2.1 p.2.2.2.2.2.2.2.2.2.2.2.1 v (fun c=>b c) (a 0) (a 1)⟩
def Mp:Å:=Ls 0 [tI,tI,ae,aa,af,ac,aa,tI,tI,ae,aa,af,ac,aa] [tI] ⟨130,aN 2 (.box 0 0::.box 1 0::aN 4 [.var tI]),cH⟩ [(.ret,⟨130,[.any,.any,.box 0 0,.box 1 0,.var .bool],cH⟩,[.bool]),(.exit 6,⟨130,[.any,.any,.box 0 0,.box 1 0],cH⟩,[])]
def zK (ρ:Type):Ĉ ρ:=⟨[],42,6,Mp,fun(p:Val ar) (v:Int) b a=>qO p.2.2.2.2.2.1 p.2.2.2.2.2.2.2.2.2.2.2.2.1 v (fun c=>b c) (a 0) (a 1)⟩
def pq (ρ:Type):Env ρ:=á [(95,uY),(96,zh)] [zN ρ,zM ρ,zL ρ,zK ρ]
def Rg:đ:=⟨[Â,Â],[.bool],fun(x:Val (.pair Â Â))=>tE x.1 x.2⟩
def Mo:Å:=Ls 0 [tI,tI,ae,aa,af,ac,aa,aj,tI,tI,ae,aa,af,ac,aa,aj] [tI] ⟨61,[.any,.any,.box 0 0,.box 1 0,.any,.any,.var tI],[bD,bD]⟩ [(.ret,⟨61,[.any,.any,.box 0 0,.box 1 0,.var .bool],[bD,bD]⟩,[.bool]),(.exit 0,⟨61,[.any,.any,.box 0 0,.box 1 0],[bD,bD]⟩,[])]
def zI (ρ:Type):Ĉ ρ:=⟨[],11,0,Mo,fun(p:Val aE) (v:Int) b a=>qN p.2.2.2.2.2.2.2.1 p.2.2.2.2.2.2.2.2.2.2.2.2.2.2.2 v (fun c=>b c) (a 0) (a 1)⟩
def JA (ρ:Type):Env ρ:=á [(28,kL),(42,Rh)] [zI ρ]
def nS:đ:=⟨[Â,.str],[.bool],fun(x:Val (.pair Â .str))=>uH x.1 x.2⟩
def qr:Å:=Ls 0 [ab,ah,tI,tI,tI,tI,ae,aa,af,ac,aa,aj] [.bool,tI] ⟨160,aN 2 (.box 0 0::aN 9 [.con ab,.any,.con ah,.any,.con tI,.con tI,.var .bool,.var tI]),[bD]⟩ [(.ret,⟨160,aN 2 (.box 0 0::.any::.var .bool::aN 7 [.con ab,.any,.con ah,.any,.con tI,.con tI]),[bD]⟩,[.bool]),(.exit 2,⟨160,aN 2 (.box 0 0::aN 9 [.con ab,.any,.con ah,.any,.con tI,.con tI,.var .bool]),[bD]⟩,[.bool])]
def qq (ρ:Type):Ĉ ρ:=⟨[],3,2,qr,fun(p:Val (tyL qr.cs)) (v:th) b a=>let A:=p.2.2.2.2;let B:=A.2.2.2.2;ig p.2.1 p.2.2.2.1 A.1 A.2.1 A.2.2.1 A.2.2.2.1 B.1 B.2.1 B.2.2.1 B.2.2.2 v.1 v.2 (fun c d=>b (c,d)) (a 0) (a 1)⟩
def qp:Å:=Ls 0 [ab,ah,tI,tI,.bool,tI,tI,ae,aa,af,ac,aa,aj] [.bool,tI] ⟨160,aN 2 (.box 0 0::aN 9 [.con ab,.any,.con ah,.any,.con tI,.con tI,.con .bool,.any,.any,.any,.var .bool,.var tI]),[bD]⟩ [(.exit 4,⟨160,aN 2 (.box 0 0::aN 9 [.con ab,.any,.con ah,.any,.con tI,.con tI,.con .bool,.any,.any,.any,.var .bool]),[bD]⟩,[.bool])]
def qo (ρ:Type):Ĉ ρ:=⟨[],3,4,qp,fun(p:Val (tyL qp.cs)) (v:th) a b=>ic p.1 p.2.2.2.1 v.1 v.2 (fun c d=>a (c,d)) (b 0)⟩
def qu:Å:=Ls 0 [ab,ah,tI,tI,ae,aa,af,ac,aa,aj] [tI] ⟨160,aN 2 (.box 0 0::aN 9 [.con ab,.any,.con ah,.any,.var tI]),[bD]⟩ [(.ret,⟨160,aN 2 (.box 0 0::.any::.var .bool::aN 7 [.con ab,.any,.con ah]),[bD]⟩,[.bool]),(.exit 0,⟨160,aN 2 (.box 0 0::aN 9 [.con ab,.any,.con ah]),[bD]⟩,[])]
def qt (ρ:Type):Ĉ ρ:=⟨[],3,0,qu,fun(p:Val (tyL qu.cs)) (v:Int) b a=>let A:=p.2.2.2.2;ů p.1 p.2.1 p.2.2.1 p.2.2.2.1 A.1 A.2.1 A.2.2.1 A.2.2.2.1 A.2.2.2.2.1 A.2.2.2.2.2 v (fun c=>b c) (a 0) (a 1)⟩
def iJ (ρ:Type):Env ρ:=á [(5,Ns),(6,A3),(7,Re),(8,Iw),(9,VY),(10,Uh),(11,Rg),(12,Ug)] [qq ρ,qo ρ,qt ρ]
end Go.Proofs.ZzM
end
