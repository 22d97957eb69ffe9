/- lemmas -/
import Derived.Test.YtjlkjopcjcbooaaGreatDoorAmG
import Derived.Test.YtjlkjopcjcbooaaGreatDoorAmD
import Derived.KernelRfl
import Derived.Test.YtjlkjopcjcbooaaGreatDoorMdTA
import Derived.Test.YtjlkjopcjcbooaaGreatDoorProg
set_option linter.all false
noncomputable section
set_option maxRecDepth 100000
namespace Go.Proofs.ZzM
open Go Go.Am
def wZ:Nat->Bool
  |112=>true
  |277=>true
  |278=>true
  |279=>true
  |280=>true
  |281=>true
  |_=>false
def ET:Nat->Bool
  |240=>true
  |_=>false
def mE:Nat->Bool
  |241=>true
  |_=>false
def isInl:Nat->Bool
  |2=>true
  |46=>true
  |72=>true
  |74=>true
  |94=>true
  |95=>true
  |105=>true
  |106=>true
  |107=>true
  |108=>true
  |109=>true
  |110=>true
  |111=>true
  |116=>true
  |119=>true
  |120=>true
  |121=>true
  |122=>true
  |123=>true
  |124=>true
  |125=>true
  |126=>true
  |127=>true
  |140=>true
  |142=>true
  |144=>true
  |145=>true
  |158=>true
  |159=>true
  |161=>true
  |162=>true
  |163=>true
  |164=>true
  |165=>true
  |167=>true
  |168=>true
  |177=>true
  |178=>true
  |181=>true
  |182=>true
  |187=>true
  |191=>true
  |192=>true
  |193=>true
  |195=>true
  |196=>true
  |198=>true
  |199=>true
  |201=>true
  |202=>true
  |207=>true
  |210=>true
  |211=>true
  |212=>true
  |215=>true
  |228=>true
  |229=>true
  |230=>true
  |231=>true
  |232=>true
  |235=>true
  |236=>true
  |237=>true
  |242=>true
  |244=>true
  |246=>true
  |248=>true
  |250=>true
  |251=>true
  |256=>true
  |257=>true
  |284=>true
  |286=>true
  |299=>true
  |300=>true
  |301=>true
  |302=>true
  |303=>true
  |304=>true
  |306=>true
  |307=>true
  |311=>true
  |312=>true
  |314=>true
  |315=>true
  |317=>true
  |318=>true
  |321=>true
  |322=>true
  |324=>true
  |326=>true
  |327=>true
  |357=>true
  |_=>false
def isFz:Nat->Bool
  |51=>true
  |64=>true
  |68=>true
  |_=>false
def isEat:Nat->Nat->Bool
  |13,4=>true
  |13,5=>true
  |46,67=>true
  |136,8=>true
  |136,11=>true
  |140,25=>true
  |257,0=>true
  |_,_=>false
def isStop:th Nat->Nat->Bool
  |_,_=>false
abbrev Kl {ρ:Type} (E:Env ρ) (f:Nat) (ts rs:th Ty) (x:Val (tyL ts)) (k:Val (tyL rs)->so ρ):so ρ:=TK E f (zx ts x) (fun h v=>Â (N7 rs h v) k)
abbrev Ls (p:Nat) (c v:th Ty) (h:Tpl) (e:th (Exit×Tpl×th Ty)):Æ:=⟨p,c,v,h,e,false⟩
def î {ρ:Type} (pt:th (Nat×ą)) (tab:th (ġ ρ)):Env ρ :=
  {P:=Tryz.prog,eat:=isEat,clone:=wZ,sort:=ET,compact:=mE,inl:=isInl,fz:=isFz,stop:=isStop,pure:=GD pt,loops:=Μ tab}
def QL {ρ:Type} (pt:th (Nat×ą)) (tab:th (ġ ρ)) (xt:th (Nat×PB)):Env ρ:={î pt tab with ext:=extT xt}
abbrev aM:rr:=.cells [.con tI,.con tI,.con ac,.con aa,.con ae,.con ab,.con aa]
abbrev aO:rr:=.cells [.con tI,.con tI,.con tI,.con tI,.con tI,.con tI,.con tI,.con tI]
abbrev aP:rr:=.cells [.con tI,.con tI,.con tI,.con tI]
abbrev aQ:rr:=.cells [.con af]
abbrev aR:rr:=.cells [.con tI]
abbrev aS:rr:=.cells [.con tI,.con tI,.con af,.con af,.con tI,.con tI,.con tI,.con tI]
abbrev aT:rr:=.cells [.var tI,.var tI,.var tI,.var tI]
abbrev aU:rr:=.cells [.con tI,.con tI]
abbrev aV:rr:=.cells [.nils,.nils]
abbrev aW:rr:=.cells [.own 3,.own 4]
abbrev aX:rr:=.cells [.con tI,.con tI,.con ac,.con aa,.con ae,.con ab,.con aa,.con tI,.con tI,.con .bool,.con tI,.con af]
abbrev aY:rr:=.cells [.con tI,.con tI,.nils,.nils,.nils,.nils,.nils,.con tI,.con tI,.con .bool,.con tI,.nils]
abbrev aZ:th rr:=[.rowv tI]
abbrev ba:th rr:=[aM,aP]
abbrev bc:th rr:=[aM,aS,.rowc tI]
abbrev bf:th rr:=[aM,.rowv .str]
abbrev bg:th rr:=[aM,.rowv tI]
abbrev bh:th rr:=[aM,.rowc tI,.rowv Ë]
abbrev bi:th rr:=[aM,aV,aW,.rowv sR,.rowv Ë]
abbrev bj:th rr:=[aM,aM]
def f8:ą:=⟨[aE],[af],fun(x:Val aE)=>ü x⟩
def gi:Æ:=Ls 0 [aE,aE,tI] [tI,tI] ⟨36,.con aE::aN 2 (.var tI::aN 5 [.con aE,.con tI,.var tI]),[]⟩ [(.exit 0,⟨36,.con aE::aN 2 (.var tI::aN 5 [.con aE,.con tI]),[]⟩,[tI])]
def gh (ρ:Type):ġ ρ:=⟨[],68,0,gi,fun(p:Val (tyL gi.cs)) (v:a8) a b=>ď p.2.1 p.2.2 v.1 v.2 (fun c d=>a (c,d)) (b 0)⟩
def nc:Æ:=Ls 0 [aE,tI] [tI,af] ⟨36,aN 6 (.own 0::aN 18 [.con aE,.con tI,.var tI]),aZ⟩ [(.exit 2,⟨36,aN 6 (.own 0::aN 18 [.con aE,.con tI]),aZ⟩,[af])]
def gg (ρ:Type):ġ ρ:=⟨[],68,2,nc,fun(p:Val (.pair aE tI)) (v:fx) a b=>ã p.1 p.2 v.1 v.2 (fun c d=>a (c,d)) (b 0)⟩
def ζ (ρ:Type):Env ρ:=î [] [gh ρ,gg ρ]
def mV:ą:=⟨[Ã,aa,aa],[Ã],fun(x:Val (.pair Ã (.pair aa aa)))=>GH x.1 x.2.1 x.2.2⟩
noncomputable def I1:Æ:=Ls 8 [af,tI,tI,tI,ac,aa,ae,ab,aa,tI,tI,am,tI,tI] [tI,am] ⟨34,.any::.any::.any::.box 2 0::aN 21 [.con af,.con tI,.var tI],[.cells [.con tI,.con tI,.con ac,.con aa,.con ae,.con ab,.con aa],.cells [.con tI,.con tI,.nils,.nils,.nils,.nils,.nils],.cells [.omp 5],.cells [.omp 6],.cells [.nilfn,.fn 109 [(2,0),(0,0)],.fn 109 [(2,0),(0,0)],.fn 110 [(3,0),(0,0),(2,0)]],.mapv tI .bool,.mapc tI .bool,.cells [.con tI,.con tI]]⟩ [(.exit 0,⟨34,.any::.any::.any::.box 2 0::aN 21 [.con af,.con tI],[.cells [.con tI,.con tI,.con ac,.con aa,.con ae,.con ab,.con aa],.cells [.con tI,.con tI,.nils,.nils,.nils,.nils,.nils],.cells [.omp 5],.cells [.omp 6],.cells [.nilfn,.fn 109 [(2,0),(0,0)],.fn 109 [(2,0),(0,0)],.fn 110 [(3,0),(0,0),(2,0)]],.mapv tI .bool,.mapc tI .bool,.cells [.con tI,.con tI]]⟩,[am])]
noncomputable def xX (ρ:Type):ġ ρ:=⟨[7,5],110,0,I1,fun(p:Val (.pair af (.pair tI (.pair tI (.pair tI (.pair ac (.pair aa (.pair ae (.pair ab (.pair aa (.pair tI (.pair tI (.pair am Ë))))))))))))) (v:px) kn kx=>mw p.1 p.2.1 v.1 v.2 (fun u0 u1=>kn (u0,u1)) (kx 0)⟩
noncomputable def I2:Æ:=Ls 0 [aa,aa,tI,tI,tI,ac,aa,ae,ab,aa,tI,tI] [tI,am,am] ⟨130,.any::.any::.con aa::.box 0 0::.any::.any::.box 1 0::.box 2 0::.box 3 0::.any::.box 4 0::aN 19 [.con aa,.con tI,.var tI],[.cells [.con tI,.con tI,.con ac,.con aa,.con ae,.con ab,.con aa],.cells [.con tI,.con tI,.nils,.nils,.nils,.nils,.nils],.cells [.omp 5],.cells [.omp 6],.cells [.nilfn,.fn 109 [(2,0),(0,0)],.fn 109 [(2,0),(0,0)],.fn 110 [(3,0),(0,0),(2,0)]],.mapv tI .bool,.mapv tI .bool]⟩ [(.exit 0,⟨130,.any::.any::.con aa::.box 0 0::.any::.any::.box 1 0::.box 2 0::.box 3 0::.any::.box 4 0::aN 19 [.con aa,.con tI],[.cells [.con tI,.con tI,.con ac,.con aa,.con ae,.con ab,.con aa],.cells [.con tI,.con tI,.nils,.nils,.nils,.nils,.nils],.cells [.omp 5],.cells [.omp 6],.cells [.nilfn,.fn 109 [(2,0),(0,0)],.fn 109 [(2,0),(0,0)],.fn 110 [(3,0),(0,0),(2,0)]],.mapv tI .bool,.mapv tI .bool]⟩,[am,am])]
noncomputable def xY (ρ:Type):ġ ρ:=⟨[],51,0,I2,fun(p:Val (.pair aa (.pair aa (.pair tI (.pair tI (.pair tI (.pair ac (.pair aa (.pair ae (.pair ab (.pair aa Ë))))))))))) (v:Val (.pair tI (.pair am am))) kn kx=>qB p.2.1 p.2.2.1 p.2.2.2.2.2.1 p.2.2.2.2.2.2.2.2.1 v.1 v.2.1 v.2.2 (fun u0 u1 u2=>kn (u0,u1,u2)) (kx 0)⟩
noncomputable def I0:Æ:=Ls 0 [aa,aa,tI,tI,tI,ac,aa,ae,ab,aa,tI,tI,am] [tI,am] ⟨130,.any::.any::.con aa::.box 0 0::.any::.any::.box 1 0::.box 2 0::.box 3 0::aN 34 [.con aa,.con tI,.var tI],[.cells [.con tI,.con tI,.con ac,.con aa,.con ae,.con ab,.con aa],.cells [.con tI,.con tI,.nils,.nils,.nils,.nils,.nils],.cells [.omp 4],.cells [.omp 5],.mapv tI .bool,.mapc tI .bool]⟩ [(.exit 2,⟨130,.any::.any::.con aa::.box 0 0::.any::.any::.box 1 0::.box 2 0::.box 3 0::aN 34 [.con aa,.con tI],[.cells [.con tI,.con tI,.con ac,.con aa,.con ae,.con ab,.con aa],.cells [.con tI,.con tI,.nils,.nils,.nils,.nils,.nils],.cells [.omp 4],.cells [.omp 5],.mapv tI .bool,.mapc tI .bool]⟩,[am])]
noncomputable def xW (ρ:Type):ġ ρ:=⟨[],51,2,I0,fun(p:Val (.pair aa (.pair aa (.pair tI (.pair tI (.pair tI (.pair ac (.pair aa (.pair ae (.pair ab (.pair aa (.pair tI (.pair tI am))))))))))))) (v:px) kn kx=>mu p.2.1 p.2.2.1 v.1 v.2 (fun u0 u1=>kn (u0,u1)) (kx 0)⟩
noncomputable def IZ:Æ:=Ls 0 [aa,tI,tI,tI,ac,aa,ae,ab,aa,tI,tI,ac,aa,ae,ab,aa,tI,tI,aa,am,am,ac] [tI,aa] ⟨130,.any::.any::.any::.box 0 0::.any::.any::.box 1 0::.box 2 0::.box 3 0::aN 6 (.box 4 0::aN 52 [.con aa,.con tI,.var tI]),[.cells [.con tI,.con tI,.con ac,.con aa,.con ae,.con ab,.con aa],.cells [.con tI,.con tI,.con ac,.con aa,.con ae,.con ab,.con aa],.cells [.omp 5],.cells [.omp 6],.cells [.con tI,.con tI,.own 7,.own 8,.nils,.nils,.con aa],.mapc tI .bool,.mapc tI .bool,.rowc Ì,.rowv Ë]⟩ [(.exit 6,⟨130,.any::.any::.any::.box 0 0::.any::.any::.box 1 0::.box 2 0::.box 3 0::aN 6 (.box 4 0::aN 52 [.con aa,.con tI]),[.cells [.con tI,.con tI,.con ac,.con aa,.con ae,.con ab,.con aa],.cells [.con tI,.con tI,.con ac,.con aa,.con ae,.con ab,.con aa],.cells [.omp 5],.cells [.omp 6],.cells [.con tI,.con tI,.own 7,.own 8,.nils,.nils,.con aa],.mapc tI .bool,.mapc tI .bool,.rowc Ì,.rowv Ë]⟩,[aa])]
noncomputable def lu (ρ:Type):ġ ρ:=⟨[],51,6,IZ,fun(p:Val (.pair aa (.pair tI (.pair tI (.pair tI (.pair ac (.pair aa (.pair ae (.pair ab (.pair aa (.pair tI (.pair tI (.pair ac (.pair aa (.pair ae (.pair ab (.pair aa (.pair tI (.pair tI (.pair aa (.pair am (.pair am ac)))))))))))))))))))))) (v:r6) kn kx=>mr p.1 p.2.1 p.2.2.2.2.2.2.2.2.2.2.2.2.2.2.2.2.2.2.2.1 v.1 v.2 (fun u0 u1=>kn (u0,u1)) (kx 0)⟩
noncomputable def IY:Æ:=Ls 0 [ae,tI,tI,tI,ac,aa,ae,ab,aa,tI,tI,ac,aa,ae,ab,aa,tI,tI,aa,am,am,ac,aa] [tI,ae] ⟨130,.any::.any::.any::.box 0 0::.any::.any::.box 1 0::.box 2 0::.box 3 0::aN 6 (.box 4 0::aN 70 [.con ae,.con tI,.var tI]),[.cells [.con tI,.con tI,.con ac,.con aa,.con ae,.con ab,.con aa],.cells [.con tI,.con tI,.con ac,.con aa,.con ae,.con ab,.con aa],.cells [.omp 5],.cells [.omp 6],.cells [.con tI,.con tI,.own 7,.own 8,.own 9,.nils,.con aa],.mapc tI .bool,.mapc tI .bool,.rowc Ì,.rowc Ë,.rowv Ŧ]⟩ [(.exit 8,⟨130,.any::.any::.any::.box 0 0::.any::.any::.box 1 0::.box 2 0::.box 3 0::aN 6 (.box 4 0::aN 70 [.con ae,.con tI]),[.cells [.con tI,.con tI,.con ac,.con aa,.con ae,.con ab,.con aa],.cells [.con tI,.con tI,.con ac,.con aa,.con ae,.con ab,.con aa],.cells [.omp 5],.cells [.omp 6],.cells [.con tI,.con tI,.own 7,.own 8,.own 9,.nils,.con aa],.mapc tI .bool,.mapc tI .bool,.rowc Ì,.rowc Ë,.rowv Ŧ]⟩,[ae])]
noncomputable def lr (ρ:Type):ġ ρ:=⟨[],51,8,IY,fun(p:Val (.pair ae (.pair tI (.pair tI (.pair tI (.pair ac (.pair aa (.pair ae (.pair ab (.pair aa (.pair tI (.pair tI (.pair ac (.pair aa (.pair ae (.pair ab (.pair aa (.pair tI (.pair tI (.pair aa (.pair am (.pair am (.pair ac aa))))))))))))))))))))))) (v:Val (.pair tI ae)) kn kx=>mq p.1 p.2.1 p.2.2.2.2.2.2.2.2.2.2.2.2.2.2.2.2.2.2.2.1 v.1 v.2 (fun u0 u1=>kn (u0,u1)) (kx 0)⟩
noncomputable def IX:Æ:=Ls 0 [ab,tI,tI,tI,ac,aa,ae,ab,aa,tI,tI,aa,am,ac,aa,ae] [tI,ab] ⟨130,aN 6 (.box 0 0::.any::.box 1 0::aN 6 (.box 2 0::aN 88 [.con ab,.con tI,.var tI])),[.cells [.con tI,.con tI,.con ac,.con aa,.con ae,.con ab,.con aa],.cells [.omp 3],.cells [.con tI,.con tI,.own 4,.own 5,.own 6,.own 7,.con aa],.mapc tI .bool,.rowc Ì,.rowc Ë,.rowc Ŧ,.rowv Ú]⟩ [(.exit 10,⟨130,aN 6 (.box 0 0::.any::.box 1 0::aN 6 (.box 2 0::aN 88 [.con ab,.con tI])),[.cells [.con tI,.con tI,.con ac,.con aa,.con ae,.con ab,.con aa],.cells [.omp 3],.cells [.con tI,.con tI,.own 4,.own 5,.own 6,.own 7,.con aa],.mapc tI .bool,.rowc Ì,.rowc Ë,.rowc Ŧ,.rowv Ú]⟩,[ab])]
noncomputable def lq (ρ:Type):ġ ρ:=⟨[],51,10,IX,fun(p:Val (.pair ab (.pair tI (.pair tI (.pair tI (.pair ac (.pair aa (.pair ae (.pair ab (.pair aa (.pair tI (.pair tI (.pair aa (.pair am (.pair ac (.pair aa ae)))))))))))))))) (v:Val (.pair tI ab)) kn kx=>mo p.1 p.2.1 p.2.2.2.2.2.2.2.2.2.2.2.2.1 v.1 v.2 (fun u0 u1=>kn (u0,u1)) (kx 0)⟩
noncomputable def wP:th (Nat×ą):=[(68,f8)]
noncomputable def tz (ρ:Type):th (ġ ρ):=[xX ρ,xY ρ,xW ρ,lu ρ,lr ρ,lq ρ]
noncomputable def ī (ρ:Type):Env ρ:=î wP (tz ρ)
noncomputable def mm:Tpl:=⟨130,.any::.any::.any::.box 0 0::.any::.any::.box 1 0::.box 2 0::.box 3 0::aN 6 (.box 4 0::aN 43 [.fn 182 [(5,0),(6,0)]]),[.cells [.var tI,.var tI,.var ac,.var aa,.var ae,.var ab,.var aa],.cells [.var tI,.var tI,.var ac,.var aa,.var ae,.var ab,.var aa],.cells [.omp 7],.cells [.omp 8],.cells [.con tI,.con tI,.own 9,.nils,.nils,.nils,.con aa],.cells [.var tI,.var tI,.var ac,.var aa,.var ae,.var ab,.var aa],.cells [.omp 7],.mapv tI .bool,.mapv tI .bool,.rowv Ì]⟩
noncomputable def Br:Tpl:=⟨130,.any::.any::.any::.box 0 0::.any::.any::.box 1 0::.box 2 0::.box 3 0::aN 6 (.box 4 0::.box 10 0::aN 42 [.fn 182 [(5,0),(6,0)]]),[.cells [.var tI,.var tI,.var ac,.var aa,.var ae,.var ab,.var aa],.cells [.var tI,.var tI,.var ac,.var aa,.var ae,.var ab,.var aa],.cells [.omp 7],.cells [.omp 8],.cells [.con tI,.con tI,.own 9,.nils,.nils,.nils,.con aa],.cells [.var tI,.var tI,.var ac,.var aa,.var ae,.var ab,.var aa],.cells [.omp 7],.mapv tI .bool,.mapv tI .bool,.rowv Ì,.cells [.var tI,.var tI,.var tI,.var tI,.var tI,.var tI,.var tI,.var tI]]⟩
noncomputable def lm (ρ:Type):th (ġ ρ):=[lu ρ,lr ρ,lq ρ]
noncomputable def Ĉ (ρ:Type):Env ρ:={î wP (lm ρ) with inl:=fun _=>false}
noncomputable def mn:Tpl:=⟨130,aN 6 [.box 0 0],[.cells [.var tI,.var tI,.var ac,.var aa,.var ae,.var ab,.var aa]]⟩
abbrev fS:th Ty:=[tI,tI,ac,aa,ae,ab,aa]
noncomputable def gX (y:an):gv:=(y.1.1,y.1.2,y.2.1,y.2.2.1,y.2.2.2.1,y.2.2.2.2.1,y.2.2.2.2.2)
noncomputable def ā:Code:=(ū Tryz.prog 51).getD .skip
abbrev Ű:th Ty:=[tI,tI,aa]
abbrev gW:th Ty:=[tI,tI,ac,aa,ae,ab,aa,tI,tI,ac,aa,ae,ab,aa,tI,tI,ac,aa,ae,ab,aa,am,am,ac]
abbrev qA:th Ty:=[tI,tI,ac,aa,ae,ab,aa,tI,tI,ac,aa,ae,ab,aa,tI,tI,ac,aa,ae,ab,aa,am,am,ac,tI,tI,tI,tI,tI,tI,tI,tI]
abbrev ä (v:nR):th bl:=v.2.2.2.2.2.2.2.2.2.2.2.2.2.2.2.2.1
abbrev ğ (v:nR):th (Int×Bool):=v.2.2.2.2.2.2.2.2.2.2.2.2.2.2.2.2.2.2.2.2.2.1
abbrev nn (v:nR):th bl:=v.2.2.2.2.2.2.2.2.2.2.2.2.2.2.2.2.2.2.2.2.2.2.2
noncomputable def Ā (v:nR) (z:th bl):nR:=(v.1,v.2.1,v.2.2.1,v.2.2.2.1,v.2.2.2.2.1,v.2.2.2.2.2.1,v.2.2.2.2.2.2.1,v.2.2.2.2.2.2.2.1,v.2.2.2.2.2.2.2.2.1,v.2.2.2.2.2.2.2.2.2.1,v.2.2.2.2.2.2.2.2.2.2.1,v.2.2.2.2.2.2.2.2.2.2.2.1,v.2.2.2.2.2.2.2.2.2.2.2.2.1,v.2.2.2.2.2.2.2.2.2.2.2.2.2.1,v.2.2.2.2.2.2.2.2.2.2.2.2.2.2.1,v.2.2.2.2.2.2.2.2.2.2.2.2.2.2.2.1,v.2.2.2.2.2.2.2.2.2.2.2.2.2.2.2.2.1,v.2.2.2.2.2.2.2.2.2.2.2.2.2.2.2.2.2.1,v.2.2.2.2.2.2.2.2.2.2.2.2.2.2.2.2.2.2.1,v.2.2.2.2.2.2.2.2.2.2.2.2.2.2.2.2.2.2.2.1,v.2.2.2.2.2.2.2.2.2.2.2.2.2.2.2.2.2.2.2.2.1,v.2.2.2.2.2.2.2.2.2.2.2.2.2.2.2.2.2.2.2.2.2.1,v.2.2.2.2.2.2.2.2.2.2.2.2.2.2.2.2.2.2.2.2.2.2.1,z)
noncomputable def tB (v:nR) (x:bl):Val (.pair tI (.pair tI (.pair ac (.pair aa (.pair ae (.pair ab (.pair aa (.pair tI (.pair tI (.pair ac (.pair aa (.pair ae (.pair ab (.pair aa (.pair tI (.pair tI (.pair ac (.pair aa (.pair ae (.pair ab (.pair aa (.pair am (.pair am (.pair ac (.pair tI (.pair tI aq)))))))))))))))))))))))))):=(v.1,v.2.1,v.2.2.1,v.2.2.2.1,v.2.2.2.2.1,v.2.2.2.2.2.1,v.2.2.2.2.2.2.1,v.2.2.2.2.2.2.2.1,v.2.2.2.2.2.2.2.2.1,v.2.2.2.2.2.2.2.2.2.1,v.2.2.2.2.2.2.2.2.2.2.1,v.2.2.2.2.2.2.2.2.2.2.2.1,v.2.2.2.2.2.2.2.2.2.2.2.2.1,v.2.2.2.2.2.2.2.2.2.2.2.2.2.1,v.2.2.2.2.2.2.2.2.2.2.2.2.2.2.1,v.2.2.2.2.2.2.2.2.2.2.2.2.2.2.2.1,v.2.2.2.2.2.2.2.2.2.2.2.2.2.2.2.2.1,v.2.2.2.2.2.2.2.2.2.2.2.2.2.2.2.2.2.1,v.2.2.2.2.2.2.2.2.2.2.2.2.2.2.2.2.2.2.1,v.2.2.2.2.2.2.2.2.2.2.2.2.2.2.2.2.2.2.2.1,v.2.2.2.2.2.2.2.2.2.2.2.2.2.2.2.2.2.2.2.2.1,v.2.2.2.2.2.2.2.2.2.2.2.2.2.2.2.2.2.2.2.2.2.1,v.2.2.2.2.2.2.2.2.2.2.2.2.2.2.2.2.2.2.2.2.2.2.1,v.2.2.2.2.2.2.2.2.2.2.2.2.2.2.2.2.2.2.2.2.2.2.2,x.1,x.2.1,x.2.2.1,x.2.2.2.1.1,x.2.2.2.1.2,x.2.2.2.2.1.1,x.2.2.2.2.1.2,x.2.2.2.2.2)
def me:ą:=⟨[Ë,tI,tI],[.bool],fun(x:Val gN)=>Ļ x.1 x.2.1 x.2.2⟩
def Jb (ρ:Type):Env ρ:=î [] []
def gS:ą:=⟨[tI,tI,tI],[.bool],fun(x:Val sR)=>Ą x.1 x.2.1 x.2.2⟩
def I7 (ρ:Type):Env ρ:=î [] []
def uI:ą:=⟨[tI],[.bool],fun(x:Int)=>iO x⟩
def La (ρ:Type):Env ρ:=î [(234,gS)] []
def MA:ą:=⟨[tI],[(.int .u64)],fun(x:Int)=>qZ x⟩
def OD (ρ:Type):Env ρ:=î [] []
def Qq:ą:=⟨[(.int .u64),(.int .u64)],[(.int .u64)],fun(x:fy)=>GI x.1 x.2⟩
def I4:Æ:=Ls 0 [] [(.int .u64),(.int .u64)] ⟨12,[.var (.int .u64),.var (.int .u64)],[]⟩ [(.exit 0,⟨12,[.var (.int .u64)],[]⟩,[(.int .u64)])]
def xZ (ρ:Type):ġ ρ:=⟨[],283,0,I4,fun(p:Unit) (v:fy) a b=>qC v.1 v.2 (fun c d=>a (c,d)) (b 0)⟩
def I5 (ρ:Type):Env ρ:=î [] [xZ ρ]
def H9:ą:=⟨[Ë],[.bool],fun(x:a8)=>vY x⟩
def K9 (ρ:Type):Env ρ:=î [(282,MA),(283,Qq)] []
def Aj:ą:=⟨[Ì],[.bool],fun(x:bl)=>nM x⟩
def vx (ρ:Type):Env ρ:=î [(113,me),(185,uI),(233,H9),(234,gS)] []
def oT:ą:=⟨[Ã],[tI],fun(x:an)=>Į x⟩
def rx:Æ:=Ls 0 [ac,tI,tI,tI,ac,aa,ae,ab,aa] [tI] ⟨31,.any::.box 0 0::aN 4 [.con ac,.con tI,.var tI],[aM]⟩ [(.ret,⟨31,[.any,.box 0 0,.var tI,.any,.any,.any,.con ac,.con tI],[aM]⟩,[tI]),(.exit 0,⟨31,.any::.box 0 0::aN 4 [.con ac,.con tI],[aM]⟩,[])]
def i6 (ρ:Type):ġ ρ:=⟨[],114,0,rx,fun(p:Val (.pair ac aI)) (v:Int) b a=>ŷ p.1 p.2.1 p.2.2.2.2.1 v (fun c=>b c) (a 0) (a 1)⟩
def mz (ρ:Type):Env ρ:=î [(183,Aj)] [i6 ρ]
def Ai:ą:=⟨[Ã],[ar],fun(x:an)=>Ť x⟩
def yQ:Æ:=Ls 0 [ac,tI] [tI,ar] ⟨20,aN 3 (.omp 0::aN 4 [.con ac,.con tI,.var tI]),[.mapv tI Ì]⟩ [(.exit 0,⟨20,aN 3 (.omp 0::aN 4 [.con ac,.con tI]),[.mapv tI Ì]⟩,[ar])]
def og (ρ:Type):ġ ρ:=⟨[],115,0,yQ,fun(p:Val (.pair ac tI)) (v:Val (.pair tI ar)) a b=>iq p.1 p.2 v.1 v.2 (fun c d=>a (c,d)) (b 0)⟩
def vt (ρ:Type):Env ρ:=î [] [og ρ]
def mc:ą:=⟨[af,tI],[tI],fun(x:io)=>Ξ x.1 x.2⟩
def ox:Æ:=Ls 0 [af,tI,tI] [tI] ⟨19,.con af::.con tI::aN 5 [.con tI,.var tI],[]⟩ [(.ret,⟨19,[.con af,.con tI,.any,.any,.var tI,.any,.any,.con tI],[]⟩,[tI]),(.exit 0,⟨19,.con af::.con tI::aN 5 [.con tI],[]⟩,[])]
def gL (ρ:Type):ġ ρ:=⟨[],285,0,ox,fun(p:Val (.pair af Ë)) (v:Int) b a=>ŏ p.1 p.2.1 p.2.2 v (fun c=>b c) (a 0) (a 1)⟩
def kg (ρ:Type):Env ρ:=î [] [gL ρ]
def δ:ą:=⟨[af,tI],[.bool],fun(x:io)=>Ć x.1 x.2⟩
def oy (ρ:Type):Env ρ:=î [(285,mc)] []
def MD:ą:=⟨[Ã,Ì],[af],fun(x:Val (.pair Ã Ì))=>rg x.1 x.2⟩
def Gi:Æ:=Ls 0 [ab,tI,tI,tI,ac,aa,ae,ab,aa,tI,tI,tI,tI,tI,tI,tI,tI] [tI,af] ⟨59,aN 2 (.box 0 0::.box 1 0::.any::.own 2::aN 8 [.con ab,.con tI,.var tI]),[aM,aO,.rowv tI]⟩ [(.exit 0,⟨59,aN 2 (.box 0 0::.box 1 0::.any::.own 2::aN 8 [.con ab,.con tI]),[aM,aO,.rowv tI]⟩,[af])]
def vA (ρ:Type):ġ ρ:=⟨[],190,0,Gi,fun(p:Val (.pair ab au)) (v:fx) a b=>nu p.1 p.2.1 p.2.2.2.2.2.2.2.2.2.1 v.1 v.2 (fun c d=>a (c,d)) (b 0)⟩
def vz:Æ:=Ls 0 [aa,tI,tI,tI,tI,tI,tI,tI,tI,tI] [tI,af] ⟨59,aN 3 (.box 0 0::.any::.own 1::aN 32 [.con aa,.con tI,.var tI]),[aO,.rowv tI]⟩ [(.exit 2,⟨59,aN 3 (.box 0 0::.any::.own 1::aN 32 [.con aa,.con tI]),[aO,.rowv tI]⟩,[af])]
def vy (ρ:Type):ġ ρ:=⟨[],190,2,vz,fun(p:Val (tyL vz.cs)) (v:fx) a b=>nt p.1 p.2.1 p.2.2.1 v.1 v.2 (fun c d=>a (c,d)) (b 0)⟩
def wT (ρ:Type):Env ρ:=î [(239,δ)] [vA ρ,vy ρ]
def Ib:ą:=⟨[Ã],[aa],fun(x:an)=>pW x⟩
def sm:Æ:=Ls 0 [ac,tI,tI,af,tI,tI,tI,ac,aa,ae,ab,aa,tI,tI,tI,tI,tI,tI,tI,tI] [tI,aa] ⟨33,.any::.box 0 0::.any::.own 1::.any::.box 2 0::aN 3 (.con ac::.con tI::.con tI::aN 5 [.con af,.con tI,.var tI]),[aM,.rowv Ë,aO]⟩ [(.exit 2,⟨33,.any::.box 0 0::.any::.own 1::.any::.box 2 0::aN 3 (.con ac::.con tI::.con tI::aN 5 [.con af,.con tI]),[aM,.rowv Ë,aO]⟩,[aa])]
def sl (ρ:Type):ġ ρ:=⟨[],117,2,sm,fun(p:Val (tyL sm.cs)) (v:r6) a b=>lz p.2.2.2.1 p.2.2.2.2.1 p.2.2.2.2.2.2.2.2.2.2.2.2.1 v.1 v.2 (fun c d=>a (c,d)) (b 0)⟩
def Dw:Æ:=Ls 0 [ac,tI,tI,tI,ac,aa,ae,ab,aa] [tI,aa] ⟨33,.any::.box 0 0::.any::.own 1::aN 5 [.con ac,.con tI,.var tI],[aM,.rowv Ë]⟩ [(.exit 0,⟨33,.any::.box 0 0::.any::.own 1::aN 5 [.con ac,.con tI],[aM,.rowv Ë]⟩,[aa])]
def sn (ρ:Type):ġ ρ:=⟨[],117,0,Dw,fun(p:Val (.pair ac aI)) (v:r6) a b=>let A:=p.2.2.2.2;lC p.1 p.2.1 p.2.2.1 p.2.2.2.1 A.1 A.2.1 A.2.2.1 A.2.2.2.1 A.2.2.2.2 v.1 v.2 (fun c d=>a (c,d)) (b 0)⟩
def tD (ρ:Type):Env ρ:=î [(190,MD)] [sl ρ,sn ρ]
def il:ą:=⟨[ar,tI,tI],[tI],fun(x:Val (.pair ar Ë))=>ŵ x.1 x.2.1 x.2.2⟩
def yR (ρ:Type):Env ρ:=î [] []
def KP:ą:=⟨[tI,tI,(.ptr ar)],[tI],fun(x:Val (.pair tI (.pair tI (.ptr ar))))=>ē x.1 x.2.1 x.2.2⟩
def Gd (ρ:Type):Env ρ:=î [(185,uI),(186,il)] []
def FK:ą:=⟨[Ã,ar,tI],[tI],fun(x:Val aL)=>ľ x.1 x.2.1 x.2.2⟩
def vC:Æ:=Ls 2 [ae,tI,tI,tI,ac,aa,ae,ab,aa,tI,tI,tI,tI] [tI] ⟨19,.con ae::.fn 235 [(1,0)]::aN 5 [.con tI,.var tI],ba⟩ [(.ret,⟨19,[.con ae,.fn 235 [(1,0)],.any,.any,.var tI,.any,.any,.con tI],ba⟩,[tI]),(.exit 0,⟨19,.con ae::.fn 235 [(1,0)]::aN 5 [.con tI],ba⟩,[])]
def lF (ρ:Type):ġ ρ:=⟨[9,5,1,2],246,0,vC,fun(p:Val (.pair ae ay)) (v:Int) b a=>let A:=p.2.2.2.2.2.2.2.2.2;fA p.1 p.2.1 A.1 A.2.1 A.2.2.1 v (fun c=>b c) (a 0) (a 1)⟩
def vB:Æ:=Ls 2 [aa,tI,tI,tI,ac,aa,ae,ab,aa,tI,tI,tI,tI] [tI] ⟨19,.con aa::.fn 236 [(1,0)]::aN 5 [.con tI,.var tI],ba⟩ [(.ret,⟨19,[.con aa,.fn 236 [(1,0)],.any,.any,.var tI,.any,.any,.con tI],ba⟩,[tI]),(.exit 0,⟨19,.con aa::.fn 236 [(1,0)]::aN 5 [.con tI],ba⟩,[])]
def lE (ρ:Type):ġ ρ:=⟨[9,10,1,2],244,0,vB,fun(p:Val (.pair aa ay)) (v:Int) b a=>let A:=p.2.2.2.2.2.2.2.2.2;Ĺ p.1 p.2.1 A.1 A.2.1 A.2.2.1 v (fun c=>b c) (a 0) (a 1)⟩
def gx (ρ:Type):Env ρ:=î [(113,me),(186,il),(234,gS)] [lF ρ,lE ρ]
def Eh:ą:=⟨[af],[.bool],fun(x:ag)=>mM x⟩
def pJ:Æ:=Ls 0 [af,af,tI] [tI] ⟨32,.con af::aN 4 [.con af,.con tI,.var tI],[]⟩ [(.ret,⟨32,[.con af,.any,.var .bool,.any,.any,.con af,.con tI],[]⟩,[.bool]),(.exit 0,⟨32,.con af::aN 4 [.con af,.con tI],[]⟩,[])]
def pI (ρ:Type):ġ ρ:=⟨[],203,0,pJ,fun(p:Val (tyL pJ.cs)) (v:Int) b a=>jw p.1 p.2.1 p.2.2 v (fun c=>b c) (a 0) (a 1)⟩
def ya (ρ:Type):Env ρ:=î [(234,gS)] [pI ρ]
def MC:ą:=⟨[af,af],[af],fun(x:py)=>gC x.1 x.2⟩
def Gg:Æ:=Ls 2 [tI,af,af] [tI] ⟨19,.own 1::.fn 251 [(0,0)]::aN 5 [.con tI,.var tI],[aQ,.rowc tI]⟩ [(.ret,⟨19,[.own 1,.fn 251 [(0,0)],.any,.any,.var tI,.any,.any,.con tI],[aQ,.rowc tI]⟩,[tI]),(.exit 0,⟨19,.own 1::.fn 251 [(0,0)]::aN 5 [.con tI],[aQ,.rowc tI]⟩,[])]
def vw (ρ:Type):ġ ρ:=⟨[1,3,1,2],142,0,Gg,fun(p:Val (.pair tI aG)) (v:Int) b a=>nr p.1 p.2.1 p.2.2 v (fun c=>b c) (a 0) (a 1)⟩
def Gf:Æ:=Ls 2 [af] [tI,tI,af] ⟨42,[.own 1,.fn 251 [(0,0)],.any,.any,.any,.var tI,.var tI],[aQ,.rowv tI]⟩ [(.exit 0,⟨42,[.own 1,.fn 251 [(0,0)],.any,.any,.any,.var tI],[aQ,.rowv tI]⟩,[tI,af])]
def vv (ρ:Type):ġ ρ:=⟨[1,3],250,0,Gf,fun(p:ag) (v:Val (.pair tI az)) a b=>fK p v.1 v.2.1 v.2.2 (fun c d e=>a (c,d,e)) (b 0)⟩
def wS (ρ:Type):Env ρ:=î [(239,δ)] [vw ρ,vv ρ]
def ME:ą:=⟨[Ã,tI,tI],[Ŧ,.bool],fun(x:lw)=>rh x.1 x.2.1 x.2.2⟩
def vE:Æ:=Ls 4 [ae,tI,tI,tI,ac,aa,ae,ab,aa,tI,tI,tI,tI,tI,tI] [tI] ⟨19,.con ae::.fn 284 [(1,0),(2,0)]::aN 5 [.con tI,.var tI],[aM,aR,aR,aP]⟩ [(.ret,⟨19,[.con ae,.fn 284 [(1,0),(2,0)],.any,.any,.var tI,.any,.any,.con tI],[aM,aR,aR,aP]⟩,[tI]),(.exit 0,⟨19,.con ae::.fn 284 [(1,0),(2,0)]::aN 5 [.con tI],[aM,aR,aR,aP]⟩,[])]
def vD (ρ:Type):ġ ρ:=⟨[1,3],246,0,vE,fun(p:Val (tyL vE.cs)) (v:Int) b a=>ny p.1 p.2.1 p.2.2.2.2.2.2.2.2.2.1 p.2.2.2.2.2.2.2.2.2.2.1 v (fun c=>b c) (a 0) (a 1)⟩
def EM (ρ:Type):Env ρ:=î [(234,gS)] [vD ρ]
def yp:ą:=⟨[Ã,ar,tI],[tI],fun(x:Val aL)=>ĕ x.1 x.2.1 x.2.2⟩
def iI:Æ:=Ls 2 [ab,tI,tI,tI,ac,aa,ae,ab,aa,tI,tI,af,af,tI,tI,tI,tI] [tI] ⟨19,.con ab::.fn 237 [(1,0)]::aN 5 [.con tI,.var tI],[aM,aS]⟩ [(.ret,⟨19,[.con ab,.fn 237 [(1,0)],.any,.any,.var tI,.any,.any,.con tI],[aM,aS]⟩,[tI]),(.exit 0,⟨19,.con ab::.fn 237 [(1,0)]::aN 5 [.con tI],[aM,aS]⟩,[])]
def iH (ρ:Type):ġ ρ:=⟨[4,5,1,2],191,0,iI,fun(p:Val (tyL iI.cs)) (v:Int) b a=>Š p.1 p.2.1 p.2.2.2.2.2.2.2.2.2.1 v (fun c=>b c) (a 0) (a 1)⟩
def iE:Æ:=Ls 0 [ar,af,tI,tI,tI,af,tI,tI,tI,ac,aa,ae,ab,aa,tI,tI,af,af,tI,tI,tI,tI,af] [tI] ⟨140,.any::.con ar::.any::.box 0 0::aN 3 (.box 1 0::.con af::.any::.con tI::aN 65 [.own 2,.con tI,.con tI,.any,.any,.any,.con af,.con tI,.var tI]),bc⟩ [(.ret,⟨140,.any::.con ar::.any::.box 0 0::aN 2 (.var tI::.box 1 0::.con af::.any::.con tI::aN 65 [.own 2,.con tI,.con tI,.any,.any,.any,.con af,.con tI]),bc⟩,[tI]),(.exit 2,⟨140,.any::.con ar::.any::.box 0 0::aN 3 (.box 1 0::.con af::.any::.con tI::aN 65 [.own 2,.con tI,.con tI,.any,.any,.any,.con af,.con tI]),bc⟩,[])]
def iD (ρ:Type):ġ ρ:=⟨[],189,2,iE,fun(p:Val (tyL iE.cs)) (v:Int) b a=>let A:=p.2.2.2.2.2;ş p.1 p.2.2.1 A.1 A.2.1 A.2.2.2.2.2.2.2.2.2.2.1 v (fun c=>b c) (a 0) (a 1)⟩
def iG:Æ:=Ls 0 [ar,af,tI,tI,tI,ac,aa,ae,ab,aa,tI,tI,af,af,tI,tI,tI,tI,af] [tI] ⟨140,.any::.con ar::.any::.box 0 0::aN 3 (.box 1 0::.con af::aN 67 [.own 2,.con tI,.var tI]),bc⟩ [(.ret,⟨140,.any::.con ar::.any::.box 0 0::aN 2 (.var tI::.box 1 0::.con af::aN 67 [.own 2,.con tI]),bc⟩,[tI]),(.exit 0,⟨140,.any::.con ar::.any::.box 0 0::aN 3 (.box 1 0::.con af::aN 67 [.own 2,.con tI]),bc⟩,[])]
def iF (ρ:Type):ġ ρ:=⟨[],189,0,iG,fun(p:Val (tyL iG.cs)) (v:Int) b a=>ě p.1 p.2.1 p.2.2.1 p.2.2.2.2.2.2.2.2.2.2.2.1 p.2.2.2.2.2.2.2.2.2.2.2.2.2.2.2.2.2.2 v (fun c=>b c) (a 0) (a 1)⟩
def iC:Æ:=Ls 0 [af,tI,tI,tI,ac,aa,ae,ab,aa,tI,tI,af,af,tI,tI,tI,tI] [tI] ⟨140,aN 3 (.box 0 0::aN 3 (.box 1 0::aN 90 [.con af,.con tI,.var tI])),[aM,aS]⟩ [(.ret,⟨140,aN 3 (.box 0 0::aN 2 (.var tI::.box 1 0::aN 90 [.con af,.con tI])),[aM,aS]⟩,[tI]),(.exit 4,⟨140,aN 3 (.box 0 0::aN 3 (.box 1 0::aN 90 [.con af,.con tI])),[aM,aS]⟩,[])]
def iB (ρ:Type):ġ ρ:=⟨[],189,4,iC,fun(p:Val (tyL iC.cs)) (v:Int) b a=>let A:=p.2.2.2.2;Ě p.1 p.2.1 p.2.2.1 p.2.2.2.1 A.1 A.2.1 A.2.2.1 A.2.2.2.1 A.2.2.2.2.1 A.2.2.2.2.2.2.1 v (fun c=>b c) (a 0) (a 1)⟩
def Ġ (ρ:Type):Env ρ:=î [(68,f8),(113,me),(185,uI),(186,il),(203,Eh),(204,MC),(234,gS),(238,ME)] [iH ρ,iD ρ,iF ρ,iB ρ]
def Ie:ą:=⟨[Ã],[tI],fun(x:an)=>Ŕ x⟩
def D4:ą:=⟨[Ú],[.bool],fun(x:dx)=>qP x⟩
def Iu (ρ:Type):Env ρ:=î [] []
def Mr:ą:=⟨[Ã],[.bool],fun(x:an)=>zr x⟩
def FU:Æ:=Ls 0 [tI,tI,ac,aa,ae,ab,aa] [tI] ⟨50,[.any,.box 0 0,.any,.var tI],[aM]⟩ [(.ret,⟨50,[.any,.box 0 0,.var .bool],[aM]⟩,[.bool]),(.exit 0,⟨50,[.any,.box 0 0],[aM]⟩,[])]
def uR (ρ:Type):ġ ρ:=⟨[],5,0,FU,fun(p:gv) (v:Int) b a=>m8 p.2.2.2.2.2.1 v (fun c=>b c) (a 0) (a 1)⟩
def Ep (ρ:Type):Env ρ:=î [(16,D4)] [uR ρ]
def Aa:ą:=⟨[],[.bool],fun(_:Unit)=>Ò⟩
def MB:ą:=⟨[.str,af],[.str],fun(x:Val (.pair .str af))=>gB x.1 x.2⟩
def Ge:Æ:=Ls 0 [af,tI] [.str,tI] ⟨20,.var .str::aN 6 [.con af,.con tI,.var tI],[]⟩ [(.exit 0,⟨20,.var .str::aN 6 [.con af,.con tI],[]⟩,[.str])]
def vu (ρ:Type):ġ ρ:=⟨[],77,0,Ge,fun(p:io) (v:dy) a b=>nq p.1 p.2 v.1 v.2 (fun c d=>a (c,d)) (b 0)⟩
def EJ (ρ:Type):Env ρ:=î [(26,ik)] [vu ρ]
def Ak:ą:=⟨[Ã],[.str,tI],fun(x:an)=>gD x⟩
def DH:Æ:=Ls 0 [ac,tI,tI,tI,ac,aa,ae,ab,aa] [tI,aj] ⟨158,.any::.box 0 0::aN 3 (.own 1::aN 25 [.con ac,.con tI,.var tI]),bf⟩ [(.exit 0,⟨158,.any::.box 0 0::aN 3 (.own 1::aN 25 [.con ac,.con tI]),bf⟩,[aj])]
def sw (ρ:Type):ġ ρ:=⟨[],24,0,DH,fun(p:Val (.pair ac aI)) (v:r8) a b=>lK p.1 p.2.1 v.1 v.2 (fun c d=>a (c,d)) (b 0)⟩
def DG:Æ:=Ls 0 [aa,tI,tI,tI,ac,aa,ae,ab,aa] [tI,aj] ⟨158,.any::.box 0 0::aN 3 (.own 1::aN 58 [.con aa,.con tI,.var tI]),bf⟩ [(.exit 2,⟨158,.any::.box 0 0::aN 3 (.own 1::aN 58 [.con aa,.con tI]),bf⟩,[aj])]
def sv (ρ:Type):ġ ρ:=⟨[],24,2,DG,fun(p:Val (.pair aa aI)) (v:r8) a b=>lJ p.1 p.2.1 v.1 v.2 (fun c d=>a (c,d)) (b 0)⟩
def DF:Æ:=Ls 0 [ae,tI,tI,tI,ac,aa,ae,ab,aa] [tI,aj] ⟨158,.any::.box 0 0::aN 3 (.own 1::aN 75 [.con ae,.con tI,.var tI]),bf⟩ [(.exit 4,⟨158,.any::.box 0 0::aN 3 (.own 1::aN 75 [.con ae,.con tI]),bf⟩,[aj])]
def su (ρ:Type):ġ ρ:=⟨[],24,4,DF,fun(p:Val (.pair ae aI)) (v:r8) a b=>lI p.1 p.2.1 v.1 v.2 (fun c d=>a (c,d)) (b 0)⟩
def DE:Æ:=Ls 0 [ab,tI,tI,tI,ac,aa,ae,ab,aa] [tI,aj] ⟨158,.any::.box 0 0::aN 3 (.own 1::aN 98 [.con ab,.con tI,.var tI]),bf⟩ [(.exit 6,⟨158,.any::.box 0 0::aN 3 (.own 1::aN 98 [.con ab,.con tI]),bf⟩,[aj])]
def sr (ρ:Type):ġ ρ:=⟨[],24,6,DE,fun(p:Val (.pair ab aI)) (v:r8) a b=>lH p.1 p.2.1 v.1 v.2 (fun c d=>a (c,d)) (b 0)⟩
def DD:Æ:=Ls 0 [aa,tI] [tI,aj] ⟨158,aN 5 (.own 0::aN 133 [.con aa,.con tI,.var tI]),[.rowv .str]⟩ [(.exit 8,⟨158,aN 5 (.own 0::aN 133 [.con aa,.con tI]),[.rowv .str]⟩,[aj])]
def sq (ρ:Type):ġ ρ:=⟨[],24,8,DD,fun(p:Val (.pair aa tI)) (v:r8) a b=>lG p.1 p.2 v.1 v.2 (fun c d=>a (c,d)) (b 0)⟩
def fL (ρ:Type):Env ρ:=î [(55,Ie),(77,MB),(78,rL)] [sw ρ,sv ρ,su ρ,sr ρ,sq ρ]
def Mz:ą:=⟨[.str,af],[.str],fun(x:Val (.pair .str af))=>lQ x.1 x.2⟩
def F3:Æ:=Ls 0 [af,tI] [.str,tI] ⟨20,.var .str::aN 6 [.con af,.con tI,.var tI],[]⟩ [(.exit 0,⟨20,.var .str::aN 6 [.con af,.con tI],[]⟩,[.str])]
def vn (ρ:Type):ġ ρ:=⟨[],25,0,F3,fun(p:io) (v:dy) a b=>Bp p.1 p.2 v.1 v.2 (fun c d=>a (c,d)) (b 0)⟩
def EH (ρ:Type):Env ρ:=î [(26,ik)] [vn ρ]
def Ah:ą:=⟨[ĩ],[.str,tI],fun(x:lx)=>ý x⟩
def Bs (ρ:Type):Env ρ:=î [(24,Ak),(25,Mz),(26,ik)] []
def iv:ą:=⟨[Ë,tI,tI],[.bool],fun(x:Val gN)=>ž x.1 x.2.1 x.2.2⟩
def C5 (ρ:Type):Env ρ:=î [] []
def wJ:ą:=⟨[tI,tI,tI],[.bool],fun(x:Val sR)=>gA x.1 x.2.1 x.2.2⟩
def QS (ρ:Type):Env ρ:=î [] []
def uG:ą:=⟨[tI],[.bool],fun(x:Int)=>nH x⟩
def Ou (ρ:Type):Env ρ:=î [(81,wJ)] []
def FI:ą:=⟨[tI,tI],[tI],fun(x:a8)=>qX x.1 x.2⟩
def F2:Æ:=Ls 0 [] [tI,tI] ⟨14,[.var tI,.var tI],[]⟩ [(.exit 0,⟨14,[.var tI],[]⟩,[tI])]
def vm (ρ:Type):ġ ρ:=⟨[],149,0,F2,fun(p:Unit) (v:a8) a b=>nl v.1 v.2 (fun c d=>a (c,d)) (b 0)⟩
def EF (ρ:Type):Env ρ:=î [] [vm ρ]
def FJ:ą:=⟨[tI],[tI],fun(x:Int)=>vX x⟩
def Oz (ρ:Type):Env ρ:=î [] []
def Ee:ą:=⟨[Ë],[.bool],fun(x:a8)=>qV x⟩
def IR (ρ:Type):Env ρ:=î [(149,FI),(150,FJ)] []
def D9:ą:=⟨[Ì],[.bool],fun(x:bl)=>qS x⟩
def IA (ρ:Type):Env ρ:=î [(27,iv),(33,uG),(80,Ee),(81,wJ)] []
def oS:ą:=⟨[Ã,tI],[tI],fun(x:kN)=>kw x.1 x.2⟩
def Dm:Æ:=Ls 0 [tI,tI,tI,ac,aa,ae,ab,aa] [tI] ⟨22,[.any,.con tI,.box 0 0,.any,.any,.var tI],[aM]⟩ [(.ret,⟨22,[.any,.con tI,.box 0 0,.any,.var tI],[aM]⟩,[tI]),(.exit 0,⟨22,[.any,.con tI,.box 0 0],[aM]⟩,[])]
def se (ρ:Type):ġ ρ:=⟨[],83,0,Dm,fun(p:Val aI) (v:Int) b a=>lf p.1 p.2.2.2.1 v (fun c=>b c) (a 0) (a 1)⟩
def Bg (ρ:Type):Env ρ:=î [] [se ρ]
def md:ą:=⟨[Ã,tI,tI],[tI],fun(x:lw)=>ig x.1 x.2.1 x.2.2⟩
def IE (ρ:Type):Env ρ:=î [(83,oS)] []
def HT:ą:=⟨[Ã],[tI],fun(x:an)=>vR x⟩
def C4:Æ:=Ls 0 [tI,tI,ac,aa,ae,ab,aa] [tI] ⟨37,[.any,.box 0 0,.any,.var tI],[aM]⟩ [(.ret,⟨37,[.any,.box 0 0,.var tI],[aM]⟩,[tI]),(.exit 0,⟨37,[.any,.box 0 0],[aM]⟩,[])]
def rN (ρ:Type):ġ ρ:=⟨[],29,0,C4,fun(p:gv) (v:Int) b a=>let A:=p.2.2.2.2;kJ p.1 p.2.1 p.2.2.1 p.2.2.2.1 A.1 A.2.1 A.2.2 v (fun c=>b c) (a 0) (a 1)⟩
def AD (ρ:Type):Env ρ:=î [(33,uG),(34,md)] [rN ρ]
def D7:ą:=⟨[Ã],[tI],fun(x:an)=>qR x⟩
def AF:Æ:=Ls 0 [tI,tI,tI,ac,aa,ae,ab,aa,tI,tI,tI,tI] [tI] ⟨111,[.any,.box 0 0,.any,.con tI,.box 1 0,.any,.var tI],ba⟩ [(.ret,⟨111,[.any,.box 0 0,.var tI,.con tI,.box 1 0],ba⟩,[tI]),(.exit 2,⟨111,[.any,.box 0 0,.any,.con tI,.box 1 0],ba⟩,[])]
def o9 (ρ:Type):ġ ρ:=⟨[],30,2,AF,fun(p:Val ay) (v:Int) b a=>let A:=p.2.2.2.2.2;jf p.1 A.1 A.2.2.2.1 A.2.2.2.2.1 A.2.2.2.2.2.1 v (fun c=>b c) (a 0) (a 1)⟩
def AE:Æ:=Ls 0 [tI,tI,tI,ac,aa,ae,ab,aa,tI,tI,tI,tI] [tI] ⟨111,[.any,.box 0 0,.any,.con tI,.box 1 0,.any,.any,.var tI],ba⟩ [(.ret,⟨111,[.any,.box 0 0,.var tI,.con tI,.box 1 0],ba⟩,[tI]),(.exit 4,⟨111,[.any,.box 0 0,.any,.con tI,.box 1 0],ba⟩,[])]
def o8 (ρ:Type):ġ ρ:=⟨[],30,4,AE,fun(p:Val ay) (v:Int) b a=>let A:=p.2.2.2.2;let B:=A.2.2.2.2;gk A.1 B.1 B.2.1 B.2.2.1 v (fun c=>b c) (a 0) (a 1)⟩
def AG:Æ:=Ls 0 [tI,tI,ac,aa,ae,ab,aa] [tI] ⟨111,[.any,.box 0 0,.any,.var tI],[aM]⟩ [(.ret,⟨111,[.any,.box 0 0,.var tI],[aM]⟩,[tI]),(.exit 0,⟨111,[.any,.box 0 0],[aM]⟩,[])]
def pb (ρ:Type):ġ ρ:=⟨[],30,0,AG,fun(p:gv) (v:Int) b a=>let A:=p.2.2.2.2;jg p.1 p.2.1 p.2.2.1 p.2.2.2.1 A.1 A.2.1 A.2.2 v (fun c=>b c) (a 0) (a 1)⟩
def kK (ρ:Type):Env ρ:=î [(27,iv),(34,md),(81,wJ)] [o9 ρ,o8 ρ,pb ρ]
def HZ:ą:=⟨[af],[.bool],fun(x:ag)=>pT x⟩
def Di:Æ:=Ls 0 [af] [tI] ⟨35,[.con af,.any,.any,.var tI],[]⟩ [(.ret,⟨35,[.con af,.any,.var .bool],[]⟩,[.bool]),(.exit 0,⟨35,[.con af],[]⟩,[])]
def rY (ρ:Type):ġ ρ:=⟨[],82,0,Di,fun(p:ag) (v:Int) b a=>kX p v (fun c=>b c) (a 0) (a 1)⟩
def A2 (ρ:Type):Env ρ:=î [(81,wJ)] [rY ρ]
def D6:ą:=⟨[Ú],[.bool],fun(x:dx)=>qQ x⟩
def Iw (ρ:Type):Env ρ:=î [(27,iv),(33,uG),(81,wJ),(82,HZ)] []
def Ad:ą:=⟨[Ã,tI,tI],[Ŧ,.bool],fun(x:lw)=>pU x.1 x.2.1 x.2.2⟩
def Dj:Æ:=Ls 0 [tI,tI,tI,tI,ac,aa,ae,ab,aa] [tI,tI,tI,tI,tI] ⟨42,[.any,.con tI,.con tI,.box 0 0,.any,.any,.box 1 0,.any,.var tI],[aM,aT]⟩ [(.ret,⟨42,[.any,.con tI,.con tI,.box 0 0,.any,.any,.box 1 0,.var .bool],[aM,aT]⟩,[.bool,tI,tI,tI,tI]),(.exit 0,⟨42,[.any,.con tI,.con tI,.box 0 0,.any,.any,.box 1 0],[aM,aT]⟩,[tI,tI,tI,tI])]
def sc (ρ:Type):ġ ρ:=⟨[],84,0,Dj,fun(p:Val (.pair tI aI)) (v:Val (.pair tI (.pair tI sR))) b a=>kZ p.1 p.2.1 p.2.2.2.2.2.2.1 v.1 v.2.1 v.2.2.1 v.2.2.2.1 v.2.2.2.2 (fun c d e f g=>b (c,d,e,f,g)) (a 0) (a 1)⟩
def A9 (ρ:Type):Env ρ:=î [] [sc ρ]
def Mu:ą:=⟨[af,tI],[.bool],fun(x:io)=>zu x.1 x.2⟩
def FZ:Æ:=Ls 0 [af,tI] [tI] ⟨18,[.con af,.con tI,.any,.any,.any,.var tI],[]⟩ [(.ret,⟨18,[.con af,.con tI,.any,.any,.var .bool],[]⟩,[.bool]),(.exit 0,⟨18,[.con af,.con tI],[]⟩,[])]
def vg (ρ:Type):ġ ρ:=⟨[],151,0,FZ,fun(p:io) (v:Int) b a=>nk p.1 p.2 v (fun c=>b c) (a 0) (a 1)⟩
def EB (ρ:Type):Env ρ:=î [] [vg ρ]
def Ae:ą:=⟨[af,af],[af],fun(x:py)=>fk x.1 x.2⟩
def Dk:Æ:=Ls 0 [af,af] [tI,af] ⟨28,[.con af,.con af,.any,.any,.any,.own 0,.var tI],aZ⟩ [(.exit 0,⟨28,[.con af,.con af,.any,.any,.any,.own 0],aZ⟩,[af])]
def sd (ρ:Type):ġ ρ:=⟨[],85,0,Dk,fun(p:py) (v:fx) a b=>la p.1 p.2 v.1 v.2 (fun c d=>a (c,d)) (b 0)⟩
def Bb (ρ:Type):Env ρ:=î [(151,Mu)] [sd ρ]
def uE:ą:=⟨[Ã,Ú],[tI],fun(x:Val aK)=>Ο x.1 x.2⟩
def uW:Æ:=Ls 0 [tI,tI,ac,aa,ae,ab,aa,tI,tI,af,af,tI,tI,tI,tI,af] [tI] ⟨90,[.any,.any,.box 0 0,.box 1 0,.any,.own 2,.var tI],bc⟩ [(.ret,⟨90,[.any,.any,.box 0 0,.box 1 0,.var tI,.own 2],bc⟩,[tI]),(.exit 0,⟨90,[.any,.any,.box 0 0,.box 1 0,.any,.own 2],bc⟩,[])]
def kP (ρ:Type):ġ ρ:=⟨[],32,0,uW,fun(p:Val ao) (v:Int) b a=>let A:=p.2.2.2.2;ft p.1 p.2.1 p.2.2.1 p.2.2.2.1 A.1 A.2.1 A.2.2.1 A.2.2.2.2.2.2.2.2.2.2.2 v (fun c=>b c) (a 0) (a 1)⟩
def uV:Æ:=Ls 0 [tI,tI,ac,aa,ae,ab,aa,tI,tI,af,af,tI,tI,tI,tI,af] [tI] ⟨90,[.any,.any,.box 0 0,.box 1 0,.any,.own 2,.any,.var tI],bc⟩ [(.ret,⟨90,[.any,.any,.box 0 0,.box 1 0,.var tI,.own 2],bc⟩,[tI]),(.exit 2,⟨90,[.any,.any,.box 0 0,.box 1 0,.any,.own 2],bc⟩,[])]
def kO (ρ:Type):ġ ρ:=⟨[],32,2,uV,fun(p:Val ao) (v:Int) b a=>let A:=p.2.2.2.2;Ũ p.1 p.2.1 p.2.2.1 p.2.2.2.1 A.1 A.2.1 A.2.2.1 A.2.2.2.2.1 A.2.2.2.2.2.2.2.2.2.2.2 v (fun c=>b c) (a 0) (a 1)⟩
def uU:Æ:=Ls 0 [tI,tI,ac,aa,ae,ab,aa,tI,tI,af,af,tI,tI,tI,tI,af] [tI] ⟨90,[.any,.any,.box 0 0,.box 1 0,.any,.own 2,.any,.any,.var tI],bc⟩ [(.ret,⟨90,[.any,.any,.box 0 0,.box 1 0,.var tI,.own 2],bc⟩,[tI]),(.exit 4,⟨90,[.any,.any,.box 0 0,.box 1 0,.any,.own 2],bc⟩,[])]
def kM (ρ:Type):ġ ρ:=⟨[],32,4,uU,fun(p:Val ao) (v:Int) b a=>let A:=p.2.2.2.2;ĸ p.1 p.2.1 p.2.2.1 p.2.2.2.1 A.1 A.2.1 A.2.2.1 A.2.2.2.2.1 A.2.2.2.2.2.2.2.2.2.2.2 v (fun c=>b c) (a 0) (a 1)⟩
def Ż (ρ:Type):Env ρ:=î [(34,md),(83,oS),(84,Ad),(85,Ae)] [kP ρ,kO ρ,kM ρ]
def zj:ą:=⟨[af,af],[tI],fun(x:py)=>jB x.1 x.2⟩
def Ot (ρ:Type):Env ρ:=î [(85,Ae)] []
def HV:ą:=⟨[Ã,Ì,tI],[.bool],fun(x:Val (.pair Ã (.pair Ì tI)))=>vS x.1 x.2.1 x.2.2⟩
def C8:Æ:=Ls 0 [tI,tI,tI,ac,aa,ae,ab,aa,tI,tI,tI,tI,tI,tI,tI,tI] [tI] ⟨76,[.any,.any,.con tI,.box 0 0,.box 1 0,.any,.any,.var tI],[aM,aO]⟩ [(.ret,⟨76,[.any,.any,.con tI,.box 0 0,.box 1 0,.any,.var .bool],[aM,aO]⟩,[.bool]),(.exit 0,⟨76,[.any,.any,.con tI,.box 0 0,.box 1 0],[aM,aO]⟩,[])]
def rQ (ρ:Type):ġ ρ:=⟨[],86,0,C8,fun(p:Val au) (v:Int) b a=>kQ p.1 p.2.2.2.2.2.2.1 p.2.2.2.2.2.2.2.2.1 v (fun c=>b c) (a 0) (a 1)⟩
def C7:Æ:=Ls 0 [tI,tI,tI,ac,aa,ae,ab,aa,tI,tI,tI,tI,tI,tI,tI,tI] [tI] ⟨76,aN 2 (.con tI::.box 0 0::.box 1 0::aN 4 [.var tI]),[aM,aO]⟩ [(.ret,⟨76,[.any,.any,.con tI,.box 0 0,.box 1 0,.any,.var .bool],[aM,aO]⟩,[.bool]),(.exit 2,⟨76,[.any,.any,.con tI,.box 0 0,.box 1 0],[aM,aO]⟩,[])]
def rP (ρ:Type):ġ ρ:=⟨[],86,2,C7,fun(p:Val au) (v:Int) b a=>iy p.1 p.2.2.2.2.2.2.2.1 p.2.2.2.2.2.2.2.2.1 v (fun c=>b c) (a 0) (a 1)⟩
def tj (ρ:Type):Env ρ:=î [(89,zj)] [rQ ρ,rP ρ]
def qu:ą:=⟨[Ã],[aa],fun(x:an)=>fV x⟩
def A5:Æ:=Ls 0 [tI,tI,ac,aa,ae,ab,aa] [tI,af] ⟨114,[.any,.box 0 0,.any,.own 1,.var tI],bg⟩ [(.exit 0,⟨114,[.any,.box 0 0,.any,.own 1],bg⟩,[af])]
def pA (ρ:Type):ġ ρ:=⟨[],35,0,A5,fun(p:gv) (v:fx) a b=>jp p.2.2.1 v.1 v.2 (fun c d=>a (c,d)) (b 0)⟩
def A4:Æ:=Ls 0 [tI,tI,ac,aa,ae,ab,aa] [tI,af] ⟨114,[.any,.box 0 0,.any,.own 1,.any,.var tI],bg⟩ [(.exit 2,⟨114,[.any,.box 0 0,.any,.own 1],bg⟩,[af])]
def pz (ρ:Type):ġ ρ:=⟨[],35,2,A4,fun(p:gv) (v:fx) a b=>jo p.2.2.2.2.2.1 v.1 v.2 (fun c d=>a (c,d)) (b 0)⟩
def A3:Æ:=Ls 0 [tI,tI,ac,aa,ae,ab,aa] [tI,af] ⟨114,[.any,.box 0 0,.any,.own 1,.any,.any,.var tI],bg⟩ [(.exit 4,⟨114,[.any,.box 0 0,.any,.own 1],bg⟩,[af])]
def pw (ρ:Type):ġ ρ:=⟨[],35,4,A3,fun(p:gv) (v:fx) a b=>jn p.2.2.2.2.2.2 v.1 v.2 (fun c d=>a (c,d)) (b 0)⟩
def po:Æ:=Ls 0 [tI,tI,tI,tI,ac,aa,ae,ab,aa,af,aa] [tI,tI] ⟨114,[.any,.box 0 0,.any,.own 1,.any,.any,.any,.own 2,.con tI,.con tI,.var tI,.var tI],[aM,.rowc tI,.rowc Ë]⟩ [(.exit 10,⟨114,[.any,.box 0 0,.any,.own 1,.any,.any,.any,.own 2,.con tI,.con tI,.var tI],[aM,.rowc tI,.rowc Ë]⟩,[tI])]
def pn (ρ:Type):ġ ρ:=⟨[],35,10,po,fun(p:Val (tyL po.cs)) (v:a8) a b=>gq p.2.1 p.2.2.2.2.2.2.2.2.2.1 v.1 v.2 (fun c d=>a (c,d)) (b 0)⟩
def pq:Æ:=Ls 0 [tI,tI,tI,ac,aa,ae,ab,aa,af] [tI,aa] ⟨114,[.any,.box 0 0,.any,.own 1,.any,.any,.any,.own 2,.con tI,.var tI],bh⟩ [(.exit 8,⟨114,[.any,.box 0 0,.any,.own 1,.any,.any,.any,.own 2,.con tI],bh⟩,[aa])]
def pp (ρ:Type):ġ ρ:=⟨[],35,8,pq,fun(p:Val (tyL pq.cs)) (v:r6) a b=>let A:=p.2.2.2.2;gu p.1 p.2.1 p.2.2.1 p.2.2.2.1 A.1 A.2.1 A.2.2.1 A.2.2.2.1 A.2.2.2.2 v.1 v.2 (fun c d=>a (c,d)) (b 0)⟩
def pv:Æ:=Ls 0 [tI,tI,ac,aa,ae,ab,aa,af] [tI,aa] ⟨114,[.any,.box 0 0,.any,.own 1,.any,.any,.any,.own 2,.var tI],bh⟩ [(.exit 6,⟨114,[.any,.box 0 0,.any,.own 1,.any,.any,.any,.own 2],bh⟩,[aa])]
def pu (ρ:Type):ġ ρ:=⟨[],35,6,pv,fun(p:Val (tyL pv.cs)) (v:r6) a b=>let A:=p.2.2.2.2;jm p.1 p.2.1 p.2.2.1 p.2.2.2.1 A.1 A.2.1 A.2.2.1 A.2.2.2 v.1 v.2 (fun c d=>a (c,d)) (b 0)⟩
def ż (ρ:Type):Env ρ:=î [(86,HV)] [pA ρ,pz ρ,pw ρ,pn ρ,pp ρ,pu ρ]
def HW:ą:=⟨[Ã,tI,tI],[.bool],fun(x:lw)=>vT x.1 x.2.1 x.2.2⟩
def C9:Æ:=Ls 0 [tI,tI,tI,tI,ac,aa,ae,ab,aa] [tI] ⟨33,[.any,.con tI,.con tI,.box 0 0,.any,.any,.any,.var tI],[aM]⟩ [(.ret,⟨33,[.any,.con tI,.con tI,.box 0 0,.any,.any,.var .bool],[aM]⟩,[.bool]),(.exit 0,⟨33,[.any,.con tI,.con tI,.box 0 0],[aM]⟩,[])]
def rR (ρ:Type):ġ ρ:=⟨[],152,0,C9,fun(p:Val (.pair tI aI)) (v:Int) b a=>kR p.1 p.2.1 p.2.2.2.2.2.1 v (fun c=>b c) (a 0) (a 1)⟩
def AO (ρ:Type):Env ρ:=î [] [rR ρ]
def H4:ą:=⟨[Ã,tI,tI,tI],[tI],fun(x:Val (.pair Ã sR))=>mK x.1 x.2.1 x.2.2.1 x.2.2.2⟩
def sa:Æ:=Ls 0 [tI,tI,tI,tI,tI,ac,aa,ae,ab,aa] [tI,tI] ⟨48,.any::.con tI::.any::.con tI::.box 0 0::aN 4 [.con tI,.var tI,.var tI],[aM]⟩ [(.exit 0,⟨48,.any::.con tI::.any::.con tI::.box 0 0::aN 4 [.con tI,.var tI],[aM]⟩,[tI])]
def rZ (ρ:Type):ġ ρ:=⟨[],87,0,sa,fun(p:Val (tyL sa.cs)) (v:a8) a b=>let A:=p.2.2.2.2;kY p.1 p.2.1 p.2.2.1 p.2.2.2.1 A.1 A.2.1 A.2.2.1 A.2.2.2.1 A.2.2.2.2.1 A.2.2.2.2.2 v.1 v.2 (fun c d=>a (c,d)) (b 0)⟩
def A7 (ρ:Type):Env ρ:=î [(83,oS),(84,Ad),(152,HW)] [rZ ρ]
def Eb:ą:=⟨[Ã,Ë],[tI],fun(x:lw)=>Τ x.1 x.2⟩
def Bc:Æ:=Ls 0 [aa,tI,tI] [tI] ⟨23,[.any,.any,.any,.box 0 0,.any,.con aa,.var tI],[aU]⟩ [(.ret,⟨23,[.any,.any,.any,.box 0 0,.var tI,.con aa],[aU]⟩,[tI]),(.exit 0,⟨23,[.any,.any,.any,.box 0 0,.any,.con aa],[aU]⟩,[])]
def pB (ρ:Type):ġ ρ:=⟨[],88,0,Bc,fun(p:Val (.pair aa Ë)) (v:Int) b a=>jq p.1 p.2.1 p.2.2 v (fun c=>b c) (a 0) (a 1)⟩
def xU (ρ:Type):Env ρ:=î [(35,qu)] [pB ρ]
def sX:ą:=⟨[tI,tI],[kE],fun(x:a8)=>ky x.1 x.2⟩
def F1 (ρ:Type):Env ρ:=î [(149,FI),(150,FJ)] []
def My:ą:=⟨[Ë,Ë],[kE],fun(x:Val gN)=>GG x.1 x.2⟩
def Oy (ρ:Type):Env ρ:=î [(295,sX)] []
def Mw:ą:=⟨[Ë],[Ë],fun(x:a8)=>GF x⟩
def Ow (ρ:Type):Env ρ:=î [] []
def Mv:ą:=⟨[Ë,Ë],[kE],fun(x:Val gN)=>zw x.1 x.2⟩
def Ov (ρ:Type):Env ρ:=î [(265,My),(266,Mw)] []
def D8:ą:=⟨[Ã,tI],[Ë],fun(x:kN)=>mI x.1 x.2⟩
def Iz (ρ:Type):Env ρ:=î [(83,oS)] []
def H6:ą:=⟨[kE,kE],[DT],fun(x:Val (.pair kE kE))=>vV x.1 x.2⟩
def K4 (ρ:Type):Env ρ:=î [] []
def Mx:ą:=⟨[Ë,Ë],[kE],fun(x:Val gN)=>nI x.1 x.2⟩
def Ox (ρ:Type):Env ρ:=î [(295,sX)] []
def Ef:ą:=⟨[gN,Ë],[DT],fun(x:Val (.pair gN Ë))=>qW x.1 x.2⟩
def IT (ρ:Type):Env ρ:=î [(267,H6),(268,Mx)] []
def Af:ą:=⟨[Ã,Ú],[gN],fun(x:Val aK)=>nF x.1 x.2⟩
def F0 (ρ:Type):Env ρ:=î [(89,zj),(217,Mv),(218,D8),(219,Ef)] []
def Ec:ą:=⟨[Ã,Ú],[Ë],fun(x:Val aK)=>qU x.1 x.2⟩
def IM (ρ:Type):Env ρ:=î [] []
def H5:ą:=⟨[tI,tI],[tI],fun(x:a8)=>Cn x.1 x.2⟩
def K3 (ρ:Type):Env ρ:=î [] []
def Eg:ą:=⟨[Ë],[tI],fun(x:a8)=>qY x⟩
def IU (ρ:Type):Env ρ:=î [(220,H5)] []
def Qp:ą:=⟨[tI,tI],[tI],fun(x:a8)=>Lj x.1 x.2⟩
def QU (ρ:Type):Env ρ:=î [] []
def H7:ą:=⟨[Ë],[tI],fun(x:a8)=>vW x⟩
def K5 (ρ:Type):Env ρ:=î [(221,Qp)] []
def HX:ą:=⟨[Ã,Ú],[Ë],fun(x:Val aK)=>mJ x.1 x.2⟩
def KZ (ρ:Type):Env ρ:=î [(153,Af),(154,Ec),(155,Eg),(156,H7)] []
def Ms:ą:=⟨[Ã],[nX],fun(x:an)=>qT x⟩
def FX:Æ:=Ls 0 [aa,tI,tI,tI,ac,aa,ae,ab,aa,tI,tI,tI,tI,tI,tI,tI,tI] [tI,aF,aa] ⟨182,[.any,.box 0 0,.box 1 0,.box 2 0,.con aa,.con tI,.box 3 0,.var tI],[aM,aV,.cells [.own 4,.own 5],aO,.rowv sR,.rowv Ë]⟩ [(.exit 2,⟨182,[.any,.box 0 0,.box 1 0,.box 2 0,.con aa,.con tI,.box 3 0],[aM,aV,.cells [.own 4,.own 5],aO,.rowv sR,.rowv Ë]⟩,[aF,aa])]
def uY (ρ:Type):ġ ρ:=⟨[],36,2,FX,fun(p:Val (.pair aa au)) (v:js) a b=>let A:=p.2.2.2.2;let B:=A.2.2.2.2;ki p.1 p.2.1 p.2.2.1 p.2.2.2.1 A.1 A.2.1 A.2.2.1 A.2.2.2.1 B.1 B.2.1 B.2.2.1 B.2.2.2.1 B.2.2.2.2.1 B.2.2.2.2.2.1 v.1 v.2.1 v.2.2 (fun c d e=>a (c,d,e)) (b 0)⟩
def FY:Æ:=Ls 0 [aa,tI,tI,ac,aa,ae,ab,aa] [tI,aF,aa] ⟨182,[.any,.box 0 0,.box 1 0,.box 2 0,.con aa,.var tI],bi⟩ [(.exit 0,⟨182,[.any,.box 0 0,.box 1 0,.box 2 0,.con aa],bi⟩,[aF,aa])]
def uZ (ρ:Type):ġ ρ:=⟨[],36,0,FY,fun(p:Val (.pair aa ai)) (v:js) a b=>let A:=p.2.2.2.2;nj p.1 p.2.1 p.2.2.1 p.2.2.2.1 A.1 A.2.1 A.2.2.1 A.2.2.2 v.1 v.2.1 v.2.2 (fun c d e=>a (c,d,e)) (b 0)⟩
def FW:Æ:=Ls 0 [tI,tI,ac,aa,ae,ab,aa] [tI,aF,aa] ⟨182,.any::.box 0 0::.box 1 0::.box 2 0::aN 5 [.var tI],bi⟩ [(.exit 4,⟨182,[.any,.box 0 0,.box 1 0,.box 2 0],bi⟩,[aF,aa])]
def uX (ρ:Type):ġ ρ:=⟨[],36,4,FW,fun(p:gv) (v:js) a b=>let A:=p.2.2.2.2;nh p.1 p.2.1 p.2.2.1 p.2.2.2.1 A.1 A.2.1 A.2.2 v.1 v.2.1 v.2.2 (fun c d e=>a (c,d,e)) (b 0)⟩
def qz (ρ:Type):Env ρ:=î [(35,qu),(87,H4),(88,Eb),(89,zj),(90,HX)] [uY ρ,uZ ρ,uX ρ]
def Ed:ą:=⟨[Ã],[tI],fun(x:an)=>mL x⟩
def Bl:Æ:=Ls 0 [tI,tI,ac,aa,ae,ab,aa] [tI] ⟨170,[.any,.box 0 0,.any,.var tI],[aM]⟩ [(.ret,⟨170,[.any,.box 0 0,.var tI],[aM]⟩,[tI]),(.exit 0,⟨170,[.any,.box 0 0],[aM]⟩,[])]
def pG (ρ:Type):ġ ρ:=⟨[],8,0,Bl,fun(p:gv) (v:Int) b a=>jt p.2.2.1 v (fun c=>b c) (a 0) (a 1)⟩
def Bj:Æ:=Ls 0 [tI,tI,tI,ac,aa,ae,ab,aa] [tI] ⟨170,.any::.box 0 0::aN 4 [.con tI,.any,.var tI],[aM]⟩ [(.ret,⟨170,[.any,.box 0 0,.var tI,.any,.any,.any,.con tI],[aM]⟩,[tI]),(.exit 4,⟨170,.any::.box 0 0::aN 4 [.con tI],[aM]⟩,[])]
def pD (ρ:Type):ġ ρ:=⟨[],8,4,Bj,fun(p:Val aI) (v:Int) b a=>jr p.1 p.2.2.2.2.2.2.1 v (fun c=>b c) (a 0) (a 1)⟩
def Bk:Æ:=Ls 0 [tI,tI,ac,aa,ae,ab,aa] [tI] ⟨170,.any::.box 0 0::aN 4 [.var tI],[aM]⟩ [(.ret,⟨170,[.any,.box 0 0,.var tI],[aM]⟩,[tI]),(.exit 2,⟨170,[.any,.box 0 0],[aM]⟩,[])]
def pE (ρ:Type):ġ ρ:=⟨[],8,2,Bk,fun(p:gv) (v:Int) b a=>let A:=p.2.2.2.2;Λ p.1 p.2.1 p.2.2.1 p.2.2.2.1 A.1 A.2.1 A.2.2 v (fun c=>b c) (a 0) (a 1)⟩
def Bi:Æ:=Ls 0 [tI,tI,ac,aa,ae,ab,aa] [tI] ⟨170,.any::.box 0 0::aN 7 [.var tI],[aM]⟩ [(.ret,⟨170,[.any,.box 0 0,.var tI],[aM]⟩,[tI]),(.exit 6,⟨170,[.any,.box 0 0],[aM]⟩,[])]
def pC (ρ:Type):ġ ρ:=⟨[],8,6,Bi,fun(p:gv) (v:Int) b a=>let A:=p.2.2.2.2;Κ p.1 p.2.1 p.2.2.1 p.2.2.2.1 A.1 A.2.1 A.2.2 v (fun c=>b c) (a 0) (a 1)⟩
def fR (ρ:Type):Env ρ:=î [(27,iv),(28,D9),(29,HT),(30,D7),(31,D6),(32,uE),(33,uG),(34,md),(35,qu),(36,Ms)] [pG ρ,pD ρ,pE ρ,pC ρ]
def xM:ą:=⟨[tI],[.str],fun(x:Int)=>pV x⟩
def ħ:Æ:=Ls 0 [] [tI,.str] ⟨46,[.var tI,.any,.any,.any,.var .str],[]⟩ [(.exit 0,⟨46,aN 4 [.var .str],[]⟩,[.str])]
def gV (rec:Int->so ByteArray) (ρ:Type):ġ ρ:=⟨[],157,0,ħ,fun(p:Unit) (v:pi) a b=>gw rec v.1 v.2 (fun c d=>a (c,d)) (b 0)⟩
def Bh (rec:Int->so ByteArray):th (Nat×ą):=[(157,⟨[tI],[.str],fun(x:Int)=>rec x⟩)]
def od (rec:Int->so ByteArray) (ρ:Type):th (ġ ρ):=[gV rec ρ]
def ł (rec:Int->so ByteArray) (ρ:Type):Env ρ:=î (Bh rec) (od rec ρ)
def HU:ą:=⟨[.str,af],[.str],fun(x:Val (.pair .str af))=>Ū x.1 x.2⟩
def C6:Æ:=Ls 0 [af] [.str,tI] ⟨23,[.any,.con af,.any,.any,.any,.var .str,.var tI],[]⟩ [(.exit 0,⟨23,[.any,.con af,.any,.any,.any,.var .str],[]⟩,[.str])]
def rO (ρ:Type):ġ ρ:=⟨[],91,0,C6,fun(p:ag) (v:dy) a b=>kL p v.1 v.2 (fun c d=>a (c,d)) (b 0)⟩
def AI (ρ:Type):Env ρ:=î [(157,xM)] [rO ρ]
def Ea:ą:=⟨[Ã],[.str],fun(x:an)=>jO x⟩
def A0:Æ:=Ls 0 [tI,tI,ac,aa,ae,ab,aa] [.str,tI] ⟨173,[.any,.box 0 0,.any,.var .str,.var tI],[aM]⟩ [(.exit 0,⟨173,[.any,.box 0 0,.any,.var .str],[aM]⟩,[.str])]
def pm (ρ:Type):ġ ρ:=⟨[],37,0,A0,fun(p:gv) (v:dy) a b=>jl p.2.2.1 v.1 v.2 (fun c d=>a (c,d)) (b 0)⟩
def AZ:Æ:=Ls 0 [tI,tI,ac,aa,ae,ab,aa] [.str,tI] ⟨173,[.any,.box 0 0,.any,.var .str,.any,.any,.var tI],[aM]⟩ [(.exit 2,⟨173,[.any,.box 0 0,.any,.var .str],[aM]⟩,[.str])]
def pk (ρ:Type):ġ ρ:=⟨[],37,2,AZ,fun(p:gv) (v:dy) a b=>jk p.2.2.2.1 v.1 v.2 (fun c d=>a (c,d)) (b 0)⟩
def AY:Æ:=Ls 0 [tI,tI,ac,aa,ae,ab,aa] [.str,tI] ⟨173,[.any,.box 0 0,.any,.var .str,.any,.any,.any,.var tI],[aM]⟩ [(.exit 4,⟨173,[.any,.box 0 0,.any,.var .str],[aM]⟩,[.str])]
def pj (ρ:Type):ġ ρ:=⟨[],37,4,AY,fun(p:gv) (v:dy) a b=>jj p.2.2.2.2.1 v.1 v.2 (fun c d=>a (c,d)) (b 0)⟩
def AX:Æ:=Ls 0 [tI,tI,ac,aa,ae,ab,aa] [.str,tI] ⟨173,.any::.box 0 0::.any::.var .str::aN 5 [.var tI],[aM]⟩ [(.exit 6,⟨173,[.any,.box 0 0,.any,.var .str],[aM]⟩,[.str])]
def ph (ρ:Type):ġ ρ:=⟨[],37,6,AX,fun(p:gv) (v:dy) a b=>ji p.2.2.2.2.2.1 v.1 v.2 (fun c d=>a (c,d)) (b 0)⟩
def AW:Æ:=Ls 0 [tI,tI,ac,aa,ae,ab,aa] [.str,tI] ⟨173,.any::.box 0 0::.any::.var .str::aN 7 [.var tI],[aM]⟩ [(.exit 8,⟨173,[.any,.box 0 0,.any,.var .str],[aM]⟩,[.str])]
def pf (ρ:Type):ġ ρ:=⟨[],37,8,AW,fun(p:gv) (v:dy) a b=>jh p.2.2.2.2.2.2 v.1 v.2 (fun c d=>a (c,d)) (b 0)⟩
def fQ (ρ:Type):Env ρ:=î [(91,HU)] [pm ρ,pk ρ,pj ρ,ph ρ,pf ρ]
def Ac:ą:=⟨[tI],[.str],fun(x:Int)=>nE x⟩
def C2 (rec:Int->so ByteArray):th (Nat×ą):=[(92,⟨[tI],[.str],fun(x:Int)=>rec x⟩)]
def oW (rec:Int->so ByteArray) (ρ:Type):th (ġ ρ):=[]
def uS (rec:Int->so ByteArray) (ρ:Type):Env ρ:=î (C2 rec) (oW rec ρ)
def Ab:ą:=⟨[tI],[.str],fun(x:Int)=>ņ x⟩
def FV (ρ:Type):Env ρ:=î [(92,Ac)] []
def D5:ą:=⟨[ĩ],[.str],fun(x:lx)=>ic x⟩
def oY:Æ:=Ls 0 [tI,tI,ac,aa,ae,ab,aa,tI,tI,.bool,tI,af] [.str,tI] ⟨48,[.any,.box 0 0,.any,.any,.var .str,.var tI],[aX]⟩ [(.exit 0,⟨48,[.any,.box 0 0,.any,.any,.var .str],[aX]⟩,[.str])]
def oX (ρ:Type):ġ ρ:=⟨[],9,0,oY,fun(p:Val (tyL oY.cs)) (v:dy) a b=>Ş p.2.2.2.2.2.2.2.2.2.2.2 v.1 v.2 (fun c d=>a (c,d)) (b 0)⟩
def oZ (ρ:Type):Env ρ:=î [(37,Ea),(38,Ab)] [oX ρ]
def ň:ą:=⟨[.str,.str],[.bool],fun(x:Val (.pair .str .str))=>Ė x.1 x.2⟩
def fZ (ρ:Type):Env ρ:=î [] []
def j9:ą:=⟨[.str,.str],[.bool],fun(x:Val (.pair .str .str))=>ĭ x.1 x.2⟩
def oV (ρ:Type):Env ρ:=î [(93,ň)] []
def sY:ą:=⟨[aj],[af],fun(x:c8)=>ģ x⟩
def yS:Æ:=Ls 0 [aj,tI] [tI,af] ⟨27,aN 3 (.own 0::aN 4 [.con aj,.con tI,.var tI]),aZ⟩ [(.exit 0,⟨27,aN 3 (.own 0::aN 4 [.con aj,.con tI]),aZ⟩,[af])]
def oh (ρ:Type):ġ ρ:=⟨[],160,0,yS,fun(p:Val (.pair aj tI)) (v:fx) a b=>ir p.1 p.2 v.1 v.2 (fun c d=>a (c,d)) (b 0)⟩
def Dv:th (Nat×PB):=[(98,.atoi)]
def jv (ρ:Type):Env ρ:=QL [] [oh ρ] Dv
def Ia:ą:=⟨[aj],[af,af],fun(x:c8)=>vZ x⟩
def sk:Æ:=Ls 0 [aj,aj,tI] [tI] ⟨34,.con aj::aN 14 [.con aj,.con tI,.var tI],[]⟩ [(.ret,⟨34,.con aj::.any::.var af::.var af::aN 11 [.con aj,.con tI],[]⟩,[af,af]),(.exit 0,⟨34,.con aj::aN 14 [.con aj,.con tI],[]⟩,[])]
def sj (ρ:Type):ġ ρ:=⟨[],166,0,sk,fun(p:Val (tyL sk.cs)) (v:Int) b a=>iA p.1 p.2.1 p.2.2 v (fun c=>b c) (a 0) (a 1)⟩
def Bx (ρ:Type):Env ρ:=î [(160,sY)] [sj ρ]
def Ic:ą:=⟨[.str],[Ã,tI],fun(x:Val .str)=>pX x⟩
def ű:Tpl:=⟨51,[.con .str,.any,.box 0 0,.box 1 0,.box 2 0,.box 3 0],[.cells [.var tI,.var tI,.var ac,.var aa,.var ae,.var ab,.var aa],.cells [.var tI],.cells [.var tI,.var tI,.own 18,.own 19,.own 20,.own 21,.own 22],.cells [.ofn 5],.cells [.box 2 0],.fns [((ByteArray.mk #[102,105,108,109]),159,[(6,0),(7,0)]),((ByteArray.mk #[103,97,117,103,101]),159,[(8,0),(9,0)]),((ByteArray.mk #[117,115,101]),159,[(10,0),(11,0)]),((ByteArray.mk #[108,111,97,110]),159,[(12,0),(13,0)]),((ByteArray.mk #[99,111,109,112,97,114,101]),159,[(14,0),(15,0)]),((ByteArray.mk #[108,111,111,107]),159,[(16,0),(17,0)])],.cells [.con tI],.cells [.fn 161 [(4,0)]],.cells [.con tI],.cells [.fn 162 [(4,0)]],.cells [.con tI],.cells [.fn 163 [(4,0)]],.cells [.con tI],.cells [.fn 164 [(4,0)]],.cells [.con tI],.cells [.fn 165 [(4,0)]],.cells [.con tI],.cells [.fn 167 [(4,0)]],.rowv Ì,.rowv Ë,.rowv Ŧ,.rowv Ú,.rowv Ë]⟩
def sF:Tpl:=⟨51,[.con .str,.any,.box 0 0,.box 1 0,.box 2 0,.box 3 0],[.cells [.var tI,.var tI,.var ac,.var aa,.var ae,.var ab,.var aa],.cells [.var tI],.cells [.any,.any,.any,.any,.any,.any,.any],.cells [.ofn 5],.cells [.box 2 0],.fns [((ByteArray.mk #[102,105,108,109]),159,[(6,0),(7,0)]),((ByteArray.mk #[103,97,117,103,101]),159,[(8,0),(9,0)]),((ByteArray.mk #[117,115,101]),159,[(10,0),(11,0)]),((ByteArray.mk #[108,111,97,110]),159,[(12,0),(13,0)]),((ByteArray.mk #[99,111,109,112,97,114,101]),159,[(14,0),(15,0)]),((ByteArray.mk #[108,111,111,107]),159,[(16,0),(17,0)])],.cells [.con tI],.cells [.fn 161 [(4,0)]],.cells [.con tI],.cells [.fn 162 [(4,0)]],.cells [.con tI],.cells [.fn 163 [(4,0)]],.cells [.con tI],.cells [.fn 164 [(4,0)]],.cells [.con tI],.cells [.fn 165 [(4,0)]],.cells [.con tI],.cells [.fn 167 [(4,0)]]]⟩
def lX:Fs:=⟨[],40,0,18,[.str,tI,tI,tI,tI,tI,tI],[tI,tI,ac,aa,ae,ab,aa,tI,tI,tI,ac,aa,ae,ab,aa],[tI,tI,ac,aa,ae,ab,aa,tI],ű,sF,168,sJ,fun(p:rF) (v:rT) y=>Ĭ p.2.1 p.2.2.1 p.2.2.2.1 p.2.2.2.2.1 p.2.2.2.2.2.1 p.2.2.2.2.2.2 v y⟩
def yb:th Fs:=[lX]
def š (ρ:Type):Env ρ:={î [(24,Ak),(41,oR),(42,Ω),(160,sY),(166,Ia)] [] with ranges:=zn yb}
def Ag:ą:=⟨[aj],[af],fun(x:c8)=>nJ x⟩
def yP:Æ:=Ls 0 [aj,tI] [tI,af] ⟨27,aN 3 (.own 0::aN 4 [.con aj,.con tI,.var tI]),aZ⟩ [(.exit 0,⟨27,aN 3 (.own 0::aN 4 [.con aj,.con tI]),aZ⟩,[af])]
def oe (ρ:Type):ġ ρ:=⟨[],43,0,yP,fun(p:Val (.pair aj tI)) (v:fx) a b=>sf p.1 p.2 v.1 v.2 (fun c d=>a (c,d)) (b 0)⟩
def Dq:th (Nat×PB):=[(98,.atoi)]
def ju (ρ:Type):Env ρ:=QL [] [oe ρ] Dq
def H8:ą:=⟨[.str],[ĩ,tI],fun(x:Val .str)=>ì x⟩
def sh:Æ:=Ls 0 [.str,tI,tI,tI,tI,.bool,tI] [tI,tI,tI,aw] ⟨110,.con .str::.any::.box 0 0::.any::.box 1 0::aN 12 [.oit 2],[aY,.cells [.var tI,.var tI,.var tI],.itr]⟩ [(.exit 0,⟨110,.con .str::.any::.box 0 0::.any::.box 1 0::aN 12 [.oit 2],[aY,.cells [.var tI,.var tI,.var tI],.itr]⟩,[tI,tI,tI,aw])]
def sg (ρ:Type):ġ ρ:=⟨[],10,0,sh,fun(p:Val (tyL sh.cs)) (v:Val (.pair tI (.pair tI (.pair tI aw)))) a b=>fT v.1 v.2.1 v.2.2.1 v.2.2.2 (fun c d e f=>a (c,d,e,f)) (b 0)⟩
def I3:th (Nat×PB):=[(41,.split)]
def np (ρ:Type):Env ρ:=QL [(7,Ah),(39,j9),(40,Ic),(42,Ω),(43,Ag)] [sg ρ] I3
def uF:ą:=⟨[af,af],[.bool],fun(x:py)=>Ρ x.1 x.2⟩
def vc:Æ:=Ls 0 [af,af] [tI] ⟨26,[.con af,.con af,.any,.any,.any,.var tI],[]⟩ [(.ret,⟨26,[.con af,.con af,.any,.any,.var .bool],[]⟩,[.bool]),(.exit 0,⟨26,[.con af,.con af],[]⟩,[])]
def kW (ρ:Type):ġ ρ:=⟨[],176,0,vc,fun(p:py) (v:Int) b a=>fu p.1 p.2 v (fun c=>b c) (a 0) (a 1)⟩
def pd (ρ:Type):Env ρ:=î [] [kW ρ]
def nZ:ą:=⟨[Ú,Ú],[.bool],fun(x:Val (.pair Ú Ú))=>fF x.1 x.2⟩
def vf (ρ:Type):Env ρ:=î [(176,uF)] []
def rM:ą:=⟨[aa,aa],[.bool],fun(x:Val (.pair aa aa))=>ω x.1 x.2⟩
def tk:Æ:=Ls 0 [aa,aa] [tI] ⟨26,[.con aa,.con aa,.any,.any,.any,.var tI],[]⟩ [(.ret,⟨26,[.con aa,.con aa,.any,.any,.var .bool],[]⟩,[.bool]),(.exit 0,⟨26,[.con aa,.con aa],[]⟩,[])]
def km (ρ:Type):ġ ρ:=⟨[],100,0,tk,fun(p:Val (.pair aa aa)) (v:Int) b a=>Ι p.1 p.2 v (fun c=>b c) (a 0) (a 1)⟩
def ob (ρ:Type):Env ρ:=î [] [km ρ]
def HY:ą:=⟨[Ã,Ã],[.bool],fun(x:Val (.pair Ã Ã))=>vU x.1 x.2⟩
def Dh:Æ:=Ls 0 [tI,tI,ac,aa,ae,ab,aa,tI,tI,ac,aa,ae,ab,aa] [tI] ⟨130,[.any,.any,.box 0 0,.box 1 0,.any,.var tI],bj⟩ [(.ret,⟨130,[.any,.any,.box 0 0,.box 1 0,.var .bool],bj⟩,[.bool]),(.exit 0,⟨130,[.any,.any,.box 0 0,.box 1 0],bj⟩,[])]
def rW (ρ:Type):ġ ρ:=⟨[],44,0,Dh,fun(p:Val aB) (v:Int) b a=>kV p.2.2.1 p.2.2.2.2.2.2.2.2.2.1 v (fun c=>b c) (a 0) (a 1)⟩
def Dg:Æ:=Ls 0 [tI,tI,ac,aa,ae,ab,aa,tI,tI,ac,aa,ae,ab,aa] [tI] ⟨130,[.any,.any,.box 0 0,.box 1 0,.any,.any,.var tI],bj⟩ [(.ret,⟨130,[.any,.any,.box 0 0,.box 1 0,.var .bool],bj⟩,[.bool]),(.exit 2,⟨130,[.any,.any,.box 0 0,.box 1 0],bj⟩,[])]
def rV (ρ:Type):ġ ρ:=⟨[],44,2,Dg,fun(p:Val aB) (v:Int) b a=>kU p.2.2.2.1 p.2.2.2.2.2.2.2.2.2.2.1 v (fun c=>b c) (a 0) (a 1)⟩
def Df:Æ:=Ls 0 [tI,tI,ac,aa,ae,ab,aa,tI,tI,ac,aa,ae,ab,aa] [tI] ⟨130,[.any,.any,.box 0 0,.box 1 0,.any,.any,.any,.var tI],bj⟩ [(.ret,⟨130,[.any,.any,.box 0 0,.box 1 0,.var .bool],bj⟩,[.bool]),(.exit 4,⟨130,[.any,.any,.box 0 0,.box 1 0],bj⟩,[])]
def rU (ρ:Type):ġ ρ:=⟨[],44,4,Df,fun(p:Val aB) (v:Int) b a=>kT p.2.2.2.2.1 p.2.2.2.2.2.2.2.2.2.2.2.1 v (fun c=>b c) (a 0) (a 1)⟩
def De:Æ:=Ls 0 [tI,tI,ac,aa,ae,ab,aa,tI,tI,ac,aa,ae,ab,aa] [tI] ⟨130,aN 2 (.box 0 0::.box 1 0::aN 4 [.var tI]),bj⟩ [(.ret,⟨130,[.any,.any,.box 0 0,.box 1 0,.var .bool],bj⟩,[.bool]),(.exit 6,⟨130,[.any,.any,.box 0 0,.box 1 0],bj⟩,[])]
def rS (ρ:Type):ġ ρ:=⟨[],44,6,De,fun(p:Val aB) (v:Int) b a=>kS p.2.2.2.2.2.1 p.2.2.2.2.2.2.2.2.2.2.2.2.1 v (fun c=>b c) (a 0) (a 1)⟩
def kj (ρ:Type):Env ρ:=î [(99,nZ),(100,rM)] [rW ρ,rV ρ,rU ρ,rS ρ]
def uH:ą:=⟨[af,af],[.bool],fun(x:py)=>jC x.1 x.2⟩
def vk:Æ:=Ls 0 [af,af] [tI] ⟨26,[.con af,.con af,.any,.any,.any,.var tI],[]⟩ [(.ret,⟨26,[.con af,.con af,.any,.any,.var .bool],[]⟩,[.bool]),(.exit 0,⟨26,[.con af,.con af],[]⟩,[])]
def lh (ρ:Type):ġ ρ:=⟨[],45,0,vk,fun(p:py) (v:Int) b a=>fw p.1 p.2 v (fun c=>b c) (a 0) (a 1)⟩
def pH (ρ:Type):Env ρ:=î [] [lh ρ]
def uD:ą:=⟨[ĩ,ĩ],[.bool],fun(x:Val (.pair ĩ ĩ))=>Ô x.1 x.2⟩
def AB (ρ:Type):Env ρ:=î [(44,HY),(45,uH)] []
def f7:ą:=⟨[ĩ,.str],[.bool],fun(x:Val (.pair ĩ .str))=>ku x.1 x.2⟩
def mh (ρ:Type):Env ρ:=î [(5,Mr),(6,Aa),(7,Ah),(8,Ed),(9,D5),(10,H8),(11,uD)] []
end Go.Proofs.ZzM
end
