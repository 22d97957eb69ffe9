/- lemmas -/
import Derived.Test.YtanjeafjkgllhaaGreatDoorAmC
import Derived.Test.YtanjeafjkgllhaaGreatDoorAmE
import Derived.KernelRfl
import Derived.Test.YtanjeafjkgllhaaGreatDoorMdTA
import Derived.Test.YtanjeafjkgllhaaGreatDoorProg
set_option linter.all false
noncomputable section
set_option maxRecDepth 100000
namespace Go.Proofs.ZzM
open Go Go.Am
variable [LC]
def PO:Nat->Bool
  |49=>true
  |50=>true
  |135=>true
  |143=>true
  |300=>true
  |301=>true
  |302=>true
  |_=>false
def Zt:Nat->Bool
  |137=>true
  |_=>false
def zF:Nat->Bool
  |260=>true
  |_=>false
def isInl:Nat->Bool
  |2=>true
  |32=>true
  |39=>true
  |40=>true
  |58=>true
  |64=>true
  |65=>true
  |66=>true
  |69=>true
  |70=>true
  |71=>true
  |72=>true
  |73=>true
  |81=>true
  |82=>true
  |91=>true
  |92=>true
  |93=>true
  |98=>true
  |99=>true
  |113=>true
  |117=>true
  |119=>true
  |120=>true
  |121=>true
  |123=>true
  |125=>true
  |126=>true
  |127=>true
  |131=>true
  |138=>true
  |139=>true
  |140=>true
  |142=>true
  |144=>true
  |151=>true
  |152=>true
  |159=>true
  |160=>true
  |162=>true
  |163=>true
  |164=>true
  |165=>true
  |166=>true
  |168=>true
  |173=>true
  |174=>true
  |175=>true
  |176=>true
  |177=>true
  |182=>true
  |183=>true
  |184=>true
  |193=>true
  |194=>true
  |195=>true
  |202=>true
  |208=>true
  |209=>true
  |211=>true
  |215=>true
  |217=>true
  |218=>true
  |221=>true
  |222=>true
  |223=>true
  |225=>true
  |226=>true
  |227=>true
  |236=>true
  |237=>true
  |240=>true
  |242=>true
  |252=>true
  |255=>true
  |256=>true
  |257=>true
  |258=>true
  |259=>true
  |261=>true
  |262=>true
  |263=>true
  |268=>true
  |269=>true
  |270=>true
  |271=>true
  |272=>true
  |273=>true
  |275=>true
  |276=>true
  |280=>true
  |283=>true
  |284=>true
  |294=>true
  |305=>true
  |307=>true
  |308=>true
  |310=>true
  |311=>true
  |322=>true
  |323=>true
  |332=>true
  |333=>true
  |336=>true
  |337=>true
  |340=>true
  |341=>true
  |371=>true
  |_=>false
def isFz:Nat->Bool
  |62=>true
  |112=>true
  |_=>false
def isEat:Nat->Nat->Bool
  |61,2=>true
  |61,3=>true
  |138,25=>true
  |284,0=>true
  |_,_=>false
def amz:rT Nat->Nat->Bool
  |_,_=>false
abbrev LN {ρ:Type} (E:Env ρ) (f:Nat) (ts rs:rT Ty) (x:Val (tyL ts)) (k:Val (tyL rs)->rF ρ):rF ρ:=topK E f (abK ts x) (fun h v=>Â (amY rs h v) k)
abbrev Ls (p:Nat) (c v:rT Ty) (h:Tpl) (e:rT (Exit×Tpl×rT Ty)):Å:=⟨p,c,v,h,e,false⟩
def Ö {ρ:Type} (pt:rT (Nat×ì)) (tab:rT (é ρ)):Env ρ :=
  {P:=Tryz.prog,eat:=isEat,clone:=PO,sort:=Zt,compact:=zF,inl:=isInl,fz:=isFz,stop:=amz,pure:=Wx pt,loops:=Ε tab}
def TB {ρ:Type} (pt:rT (Nat×ì)) (tab:rT (é ρ)) (xt:rT (Nat×aaE)):Env ρ:={Ö pt tab with ext:=extT xt}
def mkEnvU {ρ:Type} (pt:rT (Nat×ì)) (tab:rT (é ρ)) (us:rT amb):Env ρ :=
  {P:=Tryz.prog,eat:=isEat,clone:=PO,sort:=Zt,compact:=zF,inl:=isInl,fz:=isFz,stop:=amz,pure:=Wx pt,loops:=adu (Ö pt tab) us}
abbrev bJ:Χ:=.cells [.con ab]
abbrev bK:Χ:=.cells [.con tI,.con tI,.con ae,.con aa,.con af,.con ac,.con aa]
abbrev bL:Χ:=.cells [.con tI,.con tI,.con tI,.con tI,.con tI,.con tI,.con tI,.con tI]
abbrev bM:Χ:=.cells [.con tI,.con tI,.con tI,.con tI]
abbrev bN:Χ:=.cells [.con tI]
abbrev bO:Χ:=.cells [.con tI,.con tI,.con ab,.con ab,.con tI,.con tI,.con tI,.con tI]
abbrev bP:Χ:=.cells [.con tI,.con tI,.con ae,.con aa,.con af,.con ac,.con aa,.con ai]
abbrev bQ:Χ:=.cells [.con tI,.con ab]
abbrev bR:Χ:=.cells [.omp 3]
abbrev bS:Χ:=.cells [.con tI,.con tI,.nils,.nils,.nils,.nils,.nils]
abbrev bT:Χ:=.cells [.con tI,.con tI,.own 3,.own 4,.nils,.nils,.nils]
abbrev bU:Χ:=.cells [.con tI,.con tI,.own 3,.own 4,.own 5,.nils,.nils]
abbrev bV:Χ:=.cells [.con tI,.con tI,.own 3,.own 4,.own 5,.own 6,.nils]
abbrev bW:Χ:=.cells [.con tI,.con tI,.own 2,.own 3,.own 4,.own 5,.own 6]
abbrev bX:Χ:=.cells [.con tI,.con tI]
abbrev bY:Χ:=.cells [.con tI,.con tI,.con ae,.con aa,.con af,.con ac,.con aa,.con aa,.con tI,.own 3,.own 4]
abbrev bZ:Χ:=.cells [.con tI,.con tI,.con ae,.con aa,.con af,.con ac,.con aa,.con aa,.con tI,.own 2,.own 3]
abbrev b7:Χ:=.cells [.con tI,.con ak]
abbrev b9:Χ:=.cells [.own 6]
abbrev ca:Χ:=.cells [.var tI,.var tI,.var ae,.var aa,.var af,.var ac,.var aa,.var ai]
abbrev cd:Χ:=.cells [.con ai]
abbrev ce:Χ:=.cells [.own 4]
abbrev cf:Χ:=.cells [.con tI,.con tI,.own 9,.own 10,.own 11,.con ac,.own 12]
abbrev cg:Χ:=.cells [.con tI,.con tI,.nils,.nils,.nils,.nils,.nils,.nils]
abbrev ci:Χ:=.cells [.fn 139 [(1,0)]]
abbrev cj:Χ:=.cells [.fn 66 [(0,0),(1,0)]]
abbrev cm:Χ:=.cells [.fn 66 [(3,0),(0,0)]]
abbrev cn:Χ:=.cells [.fn 73 [(1,0)]]
abbrev cp:Χ:=.cells [.con tI,.con tI,.con tI]
abbrev cq:Χ:=.cells [.con tI,.con tI,.con ae,.con aa,.con af,.con ac,.con aa,.own 6]
abbrev cr:Χ:=.cells [.var tI,.var tI,.var tI,.var tI]
abbrev cw:Χ:=.cells [.nils,.nils]
abbrev cz:Χ:=.cells [.own 3,.own 4]
abbrev cA:Χ:=.cells [.con tI,.con tI,.own 9,.own 10,.own 11,.own 8,.own 12]
abbrev cB:Χ:=.cells [.con tI,.con tI,.con ae,.con aa,.con af,.con ac,.con aa,.own 3]
abbrev cD:Χ:=.cells [.var tI,.var tI,.own 2,.own 3,.own 4,.own 5,.own 6]
abbrev cE:Χ:=.cells [.con tI,.con tI,.nils,.nils,.nils,.nils,.nils,.own 2]
abbrev cF:rT Χ:=[.rowv tI]
abbrev cG:rT Χ:=[bK,bM]
abbrev cH:rT Χ:=[bK,bO,.rowc tI]
abbrev cI:rT Χ:=[bK,bQ]
abbrev cJ:rT Χ:=[bK,bQ,bR,.mapc tI tI]
abbrev cM:rT Χ:=[bS,bK,bU,.rowc Ú,.rowc Æ,.rowv Θ]
abbrev cN:rT Χ:=[bS,bK,bV,.rowc Ú,.rowc Æ,.rowc Θ,.rowv Ò]
abbrev cO:rT Χ:=[bS,bW,.rowc Ú,.rowc Æ,.rowc Θ,.rowc Ò,.rowv Æ]
abbrev cP:rT Χ:=[bK,bZ,.rowv Ę,.rowv Æ]
abbrev cQ:rT Χ:=[b7,.rowc tI,b7,b9,.rowv .bool,.rowc tI,.rowv tI]
abbrev cR:rT Χ:=[b7,.rowv tI,b7,b9,.rowv .bool,.rowc tI,.rowv tI]
abbrev cS:rT Χ:=[b7,.rowv tI,b7,b9,.rowv .bool,.rowv tI,.rowv tI]
abbrev cT:rT Χ:=[.rowv am,bP]
abbrev cV:rT Χ:=[.rowc am,bP]
abbrev cW:rT Χ:=[.rowv am,ca]
abbrev cX:rT Χ:=[bK,bX,bS,bK,bS,.dead,cf,bS,.rowv Ò,.rowc Ú,.rowc Æ,.rowc Θ,.rowc Æ]
abbrev cY:rT Χ:=[bP,bJ,cg,bP,ci,cg,.rowc Ò]
abbrev cZ:rT Χ:=[bJ,cm,.rowc tI,bP]
abbrev dc:rT Χ:=[bJ,cm,.rowv tI,bP]
abbrev de:rT Χ:=[bP,bN,bP,cn,cg,.rowc Ò]
abbrev df:rT Χ:=[.rowc ab,b7,.dead,.dead,.rowv tI]
abbrev dg:rT Χ:=[b7,.rowc am,cp,b7,.rowv tI]
abbrev dh:rT Χ:=[bK,.rowv .str]
abbrev di:rT Χ:=[bK,bK]
abbrev dj:rT Χ:=[bK,.rowv tI]
abbrev dk:rT Χ:=[bK,.rowc tI,.rowv Æ]
abbrev dl:rT Χ:=[bK,cw,cz,.rowv Ę,.rowv Æ]
abbrev dm:rT Χ:=[bK,bJ,bS,bK,bS,.dead,cf,bS,.rowv Ò,.rowc Ú,.rowc Æ,.rowc Θ,.rowc Æ]
abbrev dp:rT Χ:=[bK,bJ,bS,bK,bS,cA,cA,cA,.rowc Ò,.rowc Ú,.rowc Æ,.rowc Θ,.rowc Æ]
abbrev dq:rT Χ:=[bK,bJ,bS,bK,bS,cA,cA,cA,.rowv Ò,.rowc Ú,.rowc Æ,.rowc Θ,.rowc Æ]
abbrev dr:rT Χ:=[bS,cD,.rowv Ú,.rowv Æ,.rowv Θ,.rowv Ò,.rowv Æ]
variable [LC]
def iH:ì:=⟨[am],[ab],fun(x:b5)=>Ė x⟩
def lK:Å:=Ls 0 [am,am,tI] [tI,tI] ⟨36,.con am::aN 2 (.var tI::aN 5 [.con am,.con tI,.var tI]),[]⟩ [(.exit 0,⟨36,.con am::aN 2 (.var tI::aN 5 [.con am,.con tI]),[]⟩,[tI])]
def lJ (ρ:Type):é ρ:=⟨[],62,0,lK,fun(p:Val (tyL lK.cs)) (v:bx) a b=>Ű p.2.1 p.2.2 v.1 v.2 (fun c d=>a (c,d)) (b 0)⟩
def vn:Å:=Ls 0 [am,tI] [tI,ab] ⟨36,aN 6 (.own 0::aN 18 [.con am,.con tI,.var tI]),cF⟩ [(.exit 2,⟨36,aN 6 (.own 0::aN 18 [.con am,.con tI]),cF⟩,[ab])]
def lH (ρ:Type):é ρ:=⟨[],62,2,vn,fun(p:kU) (v:dy) a b=>Ď p.1 p.2 v.1 v.2 (fun c d=>a (c,d)) (b 0)⟩
def jJ (ρ:Type):Env ρ:=Ö [] [lJ ρ,lH ρ]
def PM:amI:=⟨264,ab,ab,Au⟩
def Ι:Tpl:=⟨37,.any::.box 1 0::.box 2 0::.any::.box 3 0::aN 6 [.con ab,.con tI,.con tI],[.acc ab,.cells [.con ab],.cells [.yld],.cells [.con tI]]⟩
def jf (al:b5) (rec:an->rF (b5)) (ρ:Type):HD ρ:=⟨[],264,2,4,[ab,tI,tI,ab,tI],[am],Ι,⟨264,ab,ab,rec⟩,fun(p:Val bj) (v:b5) y a=>pN al rec p.2.2.2.2 v y (fun b=>a b)⟩
def ŏ:Å:=Ls 2 [ab,tI,ab] [tI,am] ⟨37,.any::.box 1 0::.box 2 0::aN 8 [.con ab,.con tI,.var tI],[.acc ab,bJ,.cells [.yld]]⟩ [(.exit 0,⟨37,.any::.box 1 0::.box 2 0::aN 8 [.con ab,.con tI],[.acc ab,bJ,.cells [.yld]]⟩,[am])]
def mo (al:b5) (rec:an->rF (b5)) (ρ:Type):é ρ:=⟨[],264,0,ŏ,fun(p:Val bo) (v:Val bz) a b=>pO al rec p.1 p.2.1 p.2.2 v.1 v.2 (fun c d=>a (c,d)) (b 0)⟩
def xW (al:b5) (rec:an->rF (b5)) (ρ:Type):rT (HD ρ):=[jf al rec ρ]
def wx (al:b5) (rec:an->rF (b5)) (ρ:Type):rT (é ρ):=[mo al rec ρ]
def õ (al:b5) (rec:an->rF (b5)) (ρ:Type):Env ρ:={Ö [(62,iH)] (wx al rec ρ) with ranges:=ő (xW al rec ρ),yld:=some ⟨ab,al,false⟩}
def qq:amI:=⟨210,ai,am,uD⟩
def ŕ:Tpl:=⟨27,.any::.box 1 0::.box 2 0::.box 3 0::aN 11 [.con ab],[.acc am,.cells [.con ai],.cells [.yld],.cells [.con ab]]⟩
def ς (al:a7) (rec:b8->rF (a7)) (ρ:Type):HD ρ:=⟨[],210,2,4,[ab,ai,ab],[ag],ŕ,⟨210,ai,am,rec⟩,fun(p:Val bB) (v:a7) y a=>mq al rec p.2.2 v y (fun b=>a b)⟩
def Ŗ:Tpl:=⟨27,[.any,.box 1 0,.box 2 0],[.acc am,.cells [.con ai],.cells [.yld]]⟩
def υ (al:a7) (rec:b8->rF (a7)) (ρ:Type):HD ρ:=⟨[],210,0,3,[ai],[ag],Ŗ,PM,fun(p:b8) (v:a7) y a=>mr al rec p v y (fun b=>a b)⟩
def tz (al:a7) (rec:b8->rF (a7)) (ρ:Type):rT (HD ρ):=[ς al rec ρ,υ al rec ρ]
def ro (al:a7) (rec:b8->rF (a7)) (ρ:Type):rT (é ρ):=[]
def ç (al:a7) (rec:b8->rF (a7)) (ρ:Type):Env ρ:={Ö [] (ro al rec ρ) with ranges:=ő (tz al rec ρ),yld:=some ⟨am,al,false⟩}
def GN:amI:=⟨243,ab,tI,GK⟩
def ă:Å:=Ls 2 [ab,tI,ab] [tI,ab] ⟨16,.yld::aN 4 [.con ab,.con tI,.var tI],[.acc tI,bJ]⟩ [(.exit 0,⟨16,.yld::aN 4 [.con ab,.con tI],[.acc tI,bJ]⟩,[ab])]
def ŷ (al:an) (rec:an->rF (an)) (ρ:Type):é ρ:=⟨[],243,0,ă,fun(p:Val bo) (v:dy) a b=>χ al rec p.1 p.2.1 v.1 v.2 (fun c d=>a (c,d)) (b 0)⟩
def tW (al:an) (rec:an->rF (an)) (ρ:Type):rT (é ρ):=[ŷ al rec ρ]
def þ (al:an) (rec:an->rF (an)) (ρ:Type):Env ρ:={Ö [] (tW al rec ρ) with yld:=some ⟨tI,al,false⟩}
def tg:ì:=⟨[Æ,tI,tI],[.bool],fun(x:gv)=>Ū x.1 x.2.1 x.2.2⟩
def Zh (ρ:Type):Env ρ:=Ö [] []
def ky:ì:=⟨[tI,tI,tI],[.bool],fun(x:kV)=>ć x.1 x.2.1 x.2.2⟩
def Zc (ρ:Type):Env ρ:=Ö [] []
def xH:ì:=⟨[tI],[.bool],fun(x:Int)=>l5 x⟩
def abu (ρ:Type):Env ρ:=Ö [(220,ky)] []
def Vk:ì:=⟨[tI],[(.int .u64)],fun(x:Int)=>sq x⟩
def afa (ρ:Type):Env ρ:=Ö [] []
def aa1:ì:=⟨[(.int .u64),(.int .u64)],[(.int .u64)],fun(x:hO)=>Qc x.1 x.2⟩
def Y7:Å:=Ls 0 [] [(.int .u64),(.int .u64)] ⟨12,[.var (.int .u64),.var (.int .u64)],[]⟩ [(.exit 0,⟨12,[.var (.int .u64)],[]⟩,[(.int .u64)])]
def JZ (ρ:Type):é ρ:=⟨[],304,0,Y7,fun(p:Unit) (v:hO) a b=>Al v.1 v.2 (fun c d=>a (c,d)) (b 0)⟩
def Y8 (ρ:Type):Env ρ:=Ö [] [JZ ρ]
def EE:ì:=⟨[Æ],[.bool],fun(x:bx)=>uP x⟩
def abr (ρ:Type):Env ρ:=Ö [(303,Vk),(304,aa1)] []
def MS:ì:=⟨[Ú],[.bool],fun(x:kf)=>vL x⟩
def Gt (ρ:Type):Env ρ:=Ö [(114,tg),(200,xH),(220,ky),(254,EE)] []
def xI:ì:=⟨[È],[tI],fun(x:bA)=>Ś x⟩
def Bf:Å:=Ls 0 [ae,tI,tI,tI,ae,aa,af,ac,aa] [tI] ⟨31,.any::.box 0 0::aN 4 [.con ae,.con tI,.var tI],[bK]⟩ [(.ret,⟨31,[.any,.box 0 0,.var tI,.any,.any,.any,.con ae,.con tI],[bK]⟩,[tI]),(.exit 0,⟨31,.any::.box 0 0::aN 4 [.con ae,.con tI],[bK]⟩,[])]
def ou (ρ:Type):é ρ:=⟨[],115,0,Bf,fun(p:Val (.pair ae bg)) (v:Int) b a=>iJ p.1 p.2.1 p.2.2.2.2.1 v (fun c=>b c) (a 0) (a 1)⟩
def uz (ρ:Type):Env ρ:=Ö [(198,MS)] [ou ρ]
def vc:ì:=⟨[È],[ax],fun(x:bA)=>ģ x⟩
def Lq:Å:=Ls 0 [ae,tI] [tI,ax] ⟨20,aN 3 (.omp 0::aN 4 [.con ae,.con tI,.var tI]),[.mapv tI Ú]⟩ [(.exit 0,⟨20,aN 3 (.omp 0::aN 4 [.con ae,.con tI]),[.mapv tI Ú]⟩,[ax])]
def wH (ρ:Type):é ρ:=⟨[],116,0,Lq,fun(p:Val (.pair ae tI)) (v:Val (.pair tI ax)) a b=>mL p.1 p.2 v.1 v.2 (fun c d=>a (c,d)) (b 0)⟩
def Ga (ρ:Type):Env ρ:=Ö [] [wH ρ]
def mj:ì:=⟨[ab,tI],[tI],fun(x:kw)=>Ξ x.1 x.2⟩
def xa:Å:=Ls 0 [ab,tI,tI] [tI] ⟨19,.con ab::.con tI::aN 5 [.con tI,.var tI],[]⟩ [(.ret,⟨19,[.con ab,.con tI,.any,.any,.var tI,.any,.any,.con tI],[]⟩,[tI]),(.exit 0,⟨19,.con ab::.con tI::aN 5 [.con tI],[]⟩,[])]
def mg (ρ:Type):é ρ:=⟨[],94,0,xa,fun(p:Val (.pair ab Æ)) (v:Int) b a=>Δ p.1 p.2.1 p.2.2 v (fun c=>b c) (a 0) (a 1)⟩
def qe (ρ:Type):Env ρ:=Ö [] [mg ρ]
def Ħ:ì:=⟨[ab,tI],[.bool],fun(x:kw)=>á x.1 x.2⟩
def xb (ρ:Type):Env ρ:=Ö [(94,mj)] []
def Vl:ì:=⟨[È,Ú],[ab],fun(x:Val (.pair È Ú))=>vM x.1 x.2⟩
def Wa:Å:=Ls 0 [ac,tI,tI,tI,ae,aa,af,ac,aa,tI,tI,tI,tI,tI,tI,tI,tI] [tI,ab] ⟨59,aN 2 (.box 0 0::.box 1 0::.any::.own 2::aN 8 [.con ac,.con tI,.var tI]),[bK,bL,.rowv tI]⟩ [(.exit 0,⟨59,aN 2 (.box 0 0::.box 1 0::.any::.own 2::aN 8 [.con ac,.con tI]),[bK,bL,.rowv tI]⟩,[ab])]
def Gv (ρ:Type):é ρ:=⟨[],205,0,Wa,fun(p:Val (.pair ac au)) (v:dy) a b=>vC p.1 p.2.1 p.2.2.2.2.2.2.2.2.2.1 v.1 v.2 (fun c d=>a (c,d)) (b 0)⟩
def V9:Å:=Ls 0 [aa,tI,tI,tI,tI,tI,tI,tI,tI,tI] [tI,ab] ⟨59,aN 3 (.box 0 0::.any::.own 1::aN 32 [.con aa,.con tI,.var tI]),[bL,.rowv tI]⟩ [(.exit 2,⟨59,aN 3 (.box 0 0::.any::.own 1::aN 32 [.con aa,.con tI]),[bL,.rowv tI]⟩,[ab])]
def Gu (ρ:Type):é ρ:=⟨[],205,2,V9,fun(p:Val bC) (v:dy) a b=>vB p.1 p.2.1 p.2.2.1 v.1 v.2 (fun c d=>a (c,d)) (b 0)⟩
def Ir (ρ:Type):Env ρ:=Ö [(75,Ħ)] [Gv ρ,Gu ρ]
def EH:ì:=⟨[È],[aa],fun(x:bA)=>qy x⟩
def CD:Å:=Ls 0 [ae,tI,tI,ab,tI,tI,tI,ae,aa,af,ac,aa,tI,tI,tI,tI,tI,tI,tI,tI] [tI,aa] ⟨33,.any::.box 0 0::.any::.own 1::.any::.box 2 0::aN 3 (.con ae::.con tI::.con tI::aN 5 [.con ab,.con tI,.var tI]),[bK,.rowv Æ,bL]⟩ [(.exit 2,⟨33,.any::.box 0 0::.any::.own 1::.any::.box 2 0::aN 3 (.con ae::.con tI::.con tI::aN 5 [.con ab,.con tI]),[bK,.rowv Æ,bL]⟩,[aa])]
def CC (ρ:Type):é ρ:=⟨[],118,2,CD,fun(p:Val (tyL CD.cs)) (v:kW) a b=>rW p.2.2.2.1 p.2.2.2.2.1 p.2.2.2.2.2.2.2.2.2.2.2.2.1 v.1 v.2 (fun c d=>a (c,d)) (b 0)⟩
def R0:Å:=Ls 0 [ae,tI,tI,tI,ae,aa,af,ac,aa] [tI,aa] ⟨33,.any::.box 0 0::.any::.own 1::aN 5 [.con ae,.con tI,.var tI],[bK,.rowv Æ]⟩ [(.exit 0,⟨33,.any::.box 0 0::.any::.own 1::aN 5 [.con ae,.con tI],[bK,.rowv Æ]⟩,[aa])]
def CE (ρ:Type):é ρ:=⟨[],118,0,R0,fun(p:Val (.pair ae bg)) (v:kW) a b=>let A:=p.2.2.2.2;rX p.1 p.2.1 p.2.2.1 p.2.2.2.1 A.1 A.2.1 A.2.2.1 A.2.2.2.1 A.2.2.2.2 v.1 v.2 (fun c d=>a (c,d)) (b 0)⟩
def DR (ρ:Type):Env ρ:=Ö [(205,Vl)] [CC ρ,CE ρ]
def mJ:ì:=⟨[ax,tI,tI],[tI],fun(x:Val (.pair ax Æ))=>iG x.1 x.2.1 x.2.2⟩
def Lt (ρ:Type):Env ρ:=Ö [] []
def aa3:ì:=⟨[tI,tI,(.ptr ax)],[tI],fun(x:Val (.pair tI (.pair tI (.ptr ax))))=>Ĥ x.1 x.2.1 x.2.2⟩
def V5 (ρ:Type):Env ρ:=Ö [(200,xH),(201,mJ)] []
def Vm:ì:=⟨[È,ax,tI],[tI],fun(x:Val bG)=>Ų x.1 x.2.1 x.2.2⟩
def Gx:Å:=Ls 2 [af,tI,tI,tI,ae,aa,af,ac,aa,tI,tI,tI,tI] [tI] ⟨19,.con af::.fn 255 [(1,0)]::aN 5 [.con tI,.var tI],cG⟩ [(.ret,⟨19,[.con af,.fn 255 [(1,0)],.any,.any,.var tI,.any,.any,.con tI],cG⟩,[tI]),(.exit 0,⟨19,.con af::.fn 255 [(1,0)]::aN 5 [.con tI],cG⟩,[])]
def rZ (ρ:Type):é ρ:=⟨[9,5,1,2],262,0,Gx,fun(p:Val (.pair af aK)) (v:Int) b a=>let A:=p.2.2.2.2.2.2.2.2.2;j9 p.1 p.2.1 A.1 A.2.1 A.2.2.1 v (fun c=>b c) (a 0) (a 1)⟩
def Gw:Å:=Ls 2 [aa,tI,tI,tI,ae,aa,af,ac,aa,tI,tI,tI,tI] [tI] ⟨19,.con aa::.fn 256 [(1,0)]::aN 5 [.con tI,.var tI],cG⟩ [(.ret,⟨19,[.con aa,.fn 256 [(1,0)],.any,.any,.var tI,.any,.any,.con tI],cG⟩,[tI]),(.exit 0,⟨19,.con aa::.fn 256 [(1,0)]::aN 5 [.con tI],cG⟩,[])]
def rY (ρ:Type):é ρ:=⟨[9,10,1,2],305,0,Gw,fun(p:Val (.pair aa aK)) (v:Int) b a=>let A:=p.2.2.2.2.2.2.2.2.2;Ũ p.1 p.2.1 A.1 A.2.1 A.2.2.1 v (fun c=>b c) (a 0) (a 1)⟩
def lU (ρ:Type):Env ρ:=Ö [(114,tg),(201,mJ),(220,ky)] [rZ ρ,rY ρ]
def HX:ì:=⟨[ab],[.bool],fun(x:an)=>mF x⟩
def Pl:Å:=Ls 0 [ab,ab,tI] [tI] ⟨32,.con ab::aN 4 [.con ab,.con tI,.var tI],[]⟩ [(.ret,⟨32,[.con ab,.any,.var .bool,.any,.any,.con ab,.con tI],[]⟩,[.bool]),(.exit 0,⟨32,.con ab::aN 4 [.con ab,.con tI],[]⟩,[])]
def zw (ρ:Type):é ρ:=⟨[],145,0,Pl,fun(p:Val (.pair ab aL)) (v:Int) b a=>oV p.1 p.2.1 p.2.2 v (fun c=>b c) (a 0) (a 1)⟩
def J2 (ρ:Type):Env ρ:=Ö [(220,ky)] [zw ρ]
def EI:ì:=⟨[ab,ab],[ab],fun(x:lx)=>ű x.1 x.2⟩
def V8:Å:=Ls 2 [tI,ab,ab] [tI] ⟨19,.own 1::.fn 222 [(0,0)]::aN 5 [.con tI,.var tI],[bJ,.rowc tI]⟩ [(.ret,⟨19,[.own 1,.fn 222 [(0,0)],.any,.any,.var tI,.any,.any,.con tI],[bJ,.rowc tI]⟩,[tI]),(.exit 0,⟨19,.own 1::.fn 222 [(0,0)]::aN 5 [.con tI],[bJ,.rowc tI]⟩,[])]
def Gs (ρ:Type):é ρ:=⟨[1,3,1,2],208,0,V8,fun(p:Val (.pair tI aT)) (v:Int) b a=>vA p.1 p.2.1 p.2.2 v (fun c=>b c) (a 0) (a 1)⟩
def V7:Å:=Ls 2 [ab] [tI,tI,ab] ⟨42,[.own 1,.fn 222 [(0,0)],.any,.any,.any,.var tI,.var tI],[bJ,.rowv tI]⟩ [(.exit 0,⟨42,[.own 1,.fn 222 [(0,0)],.any,.any,.any,.var tI],[bJ,.rowv tI]⟩,[tI,ab])]
def Gr (ρ:Type):é ρ:=⟨[1,3],221,0,V7,fun(p:an) (v:Val bm) a b=>kp p v.1 v.2.1 v.2.2 (fun c d e=>a (c,d,e)) (b 0)⟩
def Iq (ρ:Type):Env ρ:=Ö [(75,Ħ)] [Gs ρ,Gr ρ]
def Vn:ì:=⟨[È,tI,tI],[Θ,.bool],fun(x:Val bc)=>vN x.1 x.2.1 x.2.2⟩
def Gz:Å:=Ls 4 [af,tI,tI,tI,ae,aa,af,ac,aa,tI,tI,tI,tI,tI,tI] [tI] ⟨19,.con af::.fn 263 [(1,0),(2,0)]::aN 5 [.con tI,.var tI],[bK,bN,bN,bM]⟩ [(.ret,⟨19,[.con af,.fn 263 [(1,0),(2,0)],.any,.any,.var tI,.any,.any,.con tI],[bK,bN,bN,bM]⟩,[tI]),(.exit 0,⟨19,.con af::.fn 263 [(1,0),(2,0)]::aN 5 [.con tI],[bK,bN,bN,bM]⟩,[])]
def Gy (ρ:Type):é ρ:=⟨[1,3],262,0,Gz,fun(p:Val (tyL Gz.cs)) (v:Int) b a=>vE p.1 p.2.1 p.2.2.2.2.2.2.2.2.2.1 p.2.2.2.2.2.2.2.2.2.2.1 v (fun c=>b c) (a 0) (a 1)⟩
def Ug (ρ:Type):Env ρ:=Ö [(220,ky)] [Gy ρ]
def Ko:ì:=⟨[È,ax,tI],[tI],fun(x:Val bG)=>ĩ x.1 x.2.1 x.2.2⟩
def nI:Å:=Ls 2 [ac,tI,tI,tI,ae,aa,af,ac,aa,tI,tI,ab,ab,tI,tI,tI,tI] [tI] ⟨19,.con ac::.fn 259 [(1,0)]::aN 5 [.con tI,.var tI],[bK,bO]⟩ [(.ret,⟨19,[.con ac,.fn 259 [(1,0)],.any,.any,.var tI,.any,.any,.con tI],[bK,bO]⟩,[tI]),(.exit 0,⟨19,.con ac::.fn 259 [(1,0)]::aN 5 [.con tI],[bK,bO]⟩,[])]
def nH (ρ:Type):é ρ:=⟨[4,5,1,2],140,0,nI,fun(p:Val (tyL nI.cs)) (v:Int) b a=>ig p.1 p.2.1 p.2.2.2.2.2.2.2.2.2.1 v (fun c=>b c) (a 0) (a 1)⟩
def nD:Å:=Ls 0 [ax,ab,tI,tI,tI,ab,tI,tI,tI,ae,aa,af,ac,aa,tI,tI,ab,ab,tI,tI,tI,tI,ab] [tI] ⟨140,.any::.con ax::.any::.box 0 0::aN 3 (.box 1 0::.con ab::.any::.con tI::aN 65 [.own 2,.con tI,.con tI,.any,.any,.any,.con ab,.con tI,.var tI]),cH⟩ [(.ret,⟨140,.any::.con ax::.any::.box 0 0::aN 2 (.var tI::.box 1 0::.con ab::.any::.con tI::aN 65 [.own 2,.con tI,.con tI,.any,.any,.any,.con ab,.con tI]),cH⟩,[tI]),(.exit 2,⟨140,.any::.con ax::.any::.box 0 0::aN 3 (.box 1 0::.con ab::.any::.con tI::aN 65 [.own 2,.con tI,.con tI,.any,.any,.any,.con ab,.con tI]),cH⟩,[])]
def nB (ρ:Type):é ρ:=⟨[],204,2,nD,fun(p:Val (tyL nD.cs)) (v:Int) b a=>let A:=p.2.2.2.2.2;ω p.1 p.2.2.1 A.1 A.2.1 A.2.2.2.2.2.2.2.2.2.2.1 v (fun c=>b c) (a 0) (a 1)⟩
def nF:Å:=Ls 0 [ax,ab,tI,tI,tI,ae,aa,af,ac,aa,tI,tI,ab,ab,tI,tI,tI,tI,ab] [tI] ⟨140,.any::.con ax::.any::.box 0 0::aN 3 (.box 1 0::.con ab::aN 67 [.own 2,.con tI,.var tI]),cH⟩ [(.ret,⟨140,.any::.con ax::.any::.box 0 0::aN 2 (.var tI::.box 1 0::.con ab::aN 67 [.own 2,.con tI]),cH⟩,[tI]),(.exit 0,⟨140,.any::.con ax::.any::.box 0 0::aN 3 (.box 1 0::.con ab::aN 67 [.own 2,.con tI]),cH⟩,[])]
def nE (ρ:Type):é ρ:=⟨[],204,0,nF,fun(p:Val (tyL nF.cs)) (v:Int) b a=>Ĵ p.1 p.2.1 p.2.2.1 p.2.2.2.2.2.2.2.2.2.2.2.1 p.2.2.2.2.2.2.2.2.2.2.2.2.2.2.2.2.2.2 v (fun c=>b c) (a 0) (a 1)⟩
def nA:Å:=Ls 0 [ab,tI,tI,tI,ae,aa,af,ac,aa,tI,tI,ab,ab,tI,tI,tI,tI] [tI] ⟨140,aN 3 (.box 0 0::aN 3 (.box 1 0::aN 90 [.con ab,.con tI,.var tI])),[bK,bO]⟩ [(.ret,⟨140,aN 3 (.box 0 0::aN 2 (.var tI::.box 1 0::aN 90 [.con ab,.con tI])),[bK,bO]⟩,[tI]),(.exit 4,⟨140,aN 3 (.box 0 0::aN 3 (.box 1 0::aN 90 [.con ab,.con tI])),[bK,bO]⟩,[])]
def nz (ρ:Type):é ρ:=⟨[],204,4,nA,fun(p:Val (tyL nA.cs)) (v:Int) b a=>let A:=p.2.2.2.2;į p.1 p.2.1 p.2.2.1 p.2.2.2.1 A.1 A.2.1 A.2.2.1 A.2.2.2.1 A.2.2.2.2.1 A.2.2.2.2.2.2.1 v (fun c=>b c) (a 0) (a 1)⟩
def ĺ (ρ:Type):Env ρ:=Ö [(62,iH),(114,tg),(145,HX),(146,EI),(200,xH),(201,mJ),(207,Vn),(220,ky)] [nH ρ,nB ρ,nE ρ,nz ρ]
def mT:ì:=⟨[È],[tI],fun(x:bA)=>ē x⟩
def XL:ì:=⟨[ab],[(.pair tI bE)],fun(x:an)=>P8 x⟩
variable [LC]
def Ta:ì:=⟨[Ä],[.bool],fun(x:a8)=>AB x⟩
def xO:Å:=Ls 0 [tI,tI,ae,aa,af,ac,aa,ai,tI,tI,ae,aa,af,ac,aa] [tI] ⟨90,[.any,.box 0 0,.any,.box 1 0,.var tI],[bP,bK]⟩ [(.ret,⟨90,[.any,.box 0 0,.var .bool,.box 1 0],[bP,bK]⟩,[.bool]),(.exit 0,⟨90,[.any,.box 0 0,.any,.box 1 0],[bP,bK]⟩,[])]
def xN (ρ:Type):é ρ:=⟨[],5,0,xO,fun(p:Val (tyL xO.cs)) (v:Int) b a=>oC p.2.2.2.2.2.2.2.2.2.2.2.2.2.1 v (fun c=>b c) (a 0) (a 1)⟩
def xM:Å:=Ls 0 [tI,tI,ae,aa,af,ac,aa,ai,tI,tI,ae,aa,af,ac,aa] [tI] ⟨90,[.any,.box 0 0,.any,.box 1 0,.any,.var tI],[bP,bK]⟩ [(.ret,⟨90,[.any,.box 0 0,.var .bool,.box 1 0],[bP,bK]⟩,[.bool]),(.exit 2,⟨90,[.any,.box 0 0,.any,.box 1 0],[bP,bK]⟩,[])]
def xL (ρ:Type):é ρ:=⟨[],5,2,xM,fun(p:Val (tyL xM.cs)) (v:Int) b a=>lq p.2.2.2.2.2.2.2.1 v (fun c=>b c) (a 0) (a 1)⟩
def xP (ρ:Type):Env ρ:=Ö [] [xN ρ,xL ρ]
def Ye:ì:=⟨[È,tI,ab],[tI],fun(x:Val (.pair È ð))=>Hg x.1 x.2.1 x.2.2⟩
def Sq:Å:=Ls 1 [ab,tI,tI,tI,ae,aa,af,ac,aa] [tI] ⟨19,.con ab::.fn 261 []::aN 5 [.con tI,.var tI],[bK]⟩ [(.ret,⟨19,[.con ab,.fn 261 [],.any,.any,.var tI,.any,.any,.con tI],[bK]⟩,[tI]),(.exit 0,⟨19,.con ab::.fn 261 []::aN 5 [.con tI],[bK]⟩,[])]
def CF (ρ:Type):é ρ:=⟨[4,1,1,2],208,0,Sq,fun(p:Val (.pair ab bg)) (v:Int) b a=>sa p.1 p.2.1 v (fun c=>b c) (a 0) (a 1)⟩
def Po (ρ:Type):Env ρ:=Ö [(54,mT),(116,vc),(200,xH)] [CF ρ]
def ac0:ì:=⟨[È,tI,tI],[.bool,tI],fun(x:Val bc)=>AQ x.1 x.2.1 x.2.2⟩
def afg (ρ:Type):Env ρ:=Ö [(206,Ye),(207,Vn)] []
def XN:ì:=⟨[È,ai,tI],[tI],fun(x:Val (.pair È (.pair ai tI)))=>G3 x.1 x.2.1 x.2.2⟩
def BN:Å:=Ls 0 [ai,tI,tI,tI,ae,aa,af,ac,aa,tI,ab] [tI] ⟨104,[.any,.con ai,.con tI,.box 0 0,.any,.any,.any,.box 1 0,.var tI],cI⟩ [(.ret,⟨104,[.any,.con ai,.con tI,.box 0 0,.any,.any,.var tI,.box 1 0],cI⟩,[tI]),(.exit 0,⟨104,[.any,.con ai,.con tI,.box 0 0,.any,.any,.any,.box 1 0],cI⟩,[])]
def BM (ρ:Type):é ρ:=⟨[],55,0,BN,fun(p:Val (tyL BN.cs)) (v:Int) b a=>mX p.2.2.2.2.2.2.2.2.2.2 v (fun c=>b c) (a 0) (a 1)⟩
def BK:Å:=Ls 0 [ai,tI,ae,tI,tI,tI,ae,aa,af,ac,aa,tI,ab] [tI,bq] ⟨104,.any::.con ai::.con tI::.box 0 0::aN 3 (.box 1 0::.any::.box 2 0::aN 50 [.con ae,.con tI,.var tI]),[bK,bQ,bR,.mapv tI tI]⟩ [(.exit 2,⟨104,.any::.con ai::.con tI::.box 0 0::aN 3 (.box 1 0::.any::.box 2 0::aN 50 [.con ae,.con tI]),[bK,bQ,bR,.mapv tI tI]⟩,[bq])]
def BJ (ρ:Type):é ρ:=⟨[],55,2,BK,fun(p:Val (tyL BK.cs)) (v:Val (.pair tI bq)) a b=>mW p.2.2.1 p.2.2.2.1 v.1 v.2 (fun c d=>a (c,d)) (b 0)⟩
def Q6:Å:=Ls 4 [ab,tI,tI,tI,ae,aa,af,ac,aa,tI,ab,bq] [tI] ⟨19,.con ab::.fn 119 [(2,0)]::aN 5 [.con tI,.var tI],cJ⟩ [(.ret,⟨19,[.con ab,.fn 119 [(2,0)],.any,.any,.var tI,.any,.any,.con tI],cJ⟩,[tI]),(.exit 0,⟨19,.con ab::.fn 119 [(2,0)]::aN 5 [.con tI],cJ⟩,[])]
def BI (ρ:Type):é ρ:=⟨[18,3,1,2],208,0,Q6,fun(p:Val aR) (v:Int) b a=>mV p.1 p.2.1 p.2.2.2.2.2.2.2.2.2.2.2 v (fun c=>b c) (a 0) (a 1)⟩
def Q5:Å:=Ls 4 [ab,tI,tI,tI,ae,aa,af,ac,aa,tI,ab,bq] [tI] ⟨19,.con ab::.fn 120 [(1,0),(2,0)]::aN 5 [.con tI,.var tI],cJ⟩ [(.ret,⟨19,[.con ab,.fn 120 [(1,0),(2,0)],.any,.any,.var tI,.any,.any,.con tI],cJ⟩,[tI]),(.exit 0,⟨19,.con ab::.fn 120 [(1,0),(2,0)]::aN 5 [.con tI],cJ⟩,[])]
def BH (ρ:Type):é ρ:=⟨[20,3,1,2],208,0,Q5,fun(p:Val aR) (v:Int) b a=>kB p.1 p.2.1 p.2.2.2.2.2.2.2.2.2.1 p.2.2.2.2.2.2.2.2.2.2.2 v (fun c=>b c) (a 0) (a 1)⟩
def Q4:Å:=Ls 4 [ab,tI,tI,tI,ae,aa,af,ac,aa,tI,ab,bq] [tI] ⟨19,.con ab::.fn 121 [(0,0),(1,0)]::aN 5 [.con tI,.var tI],cJ⟩ [(.ret,⟨19,[.con ab,.fn 121 [(0,0),(1,0)],.any,.any,.var tI,.any,.any,.con tI],cJ⟩,[tI]),(.exit 0,⟨19,.con ab::.fn 121 [(0,0),(1,0)]::aN 5 [.con tI],cJ⟩,[])]
def BG (ρ:Type):é ρ:=⟨[24,3,1,2],208,0,Q4,fun(p:Val aR) (v:Int) b a=>let A:=p.2.2.2.2;Ĩ p.1 p.2.1 p.2.2.1 p.2.2.2.1 A.1 A.2.1 A.2.2.1 A.2.2.2.1 A.2.2.2.2.1 A.2.2.2.2.2.1 v (fun c=>b c) (a 0) (a 1)⟩
def km (ρ:Type):Env ρ:=Ö [(122,ac0)] [BM ρ,BJ ρ,BI ρ,BH ρ,BG ρ]
def ŭ:ì:=⟨[Ä],[tI],fun(x:a8)=>Ģ x⟩
def Rk:Å:=Ls 0 [ai,tI,tI,tI,tI,tI,ae,aa,af,ac,aa,ai] [tI,tI] ⟨50,.any::.box 0 0::aN 2 (.var tI::aN 15 (.con ai::.con tI::.con tI::aN 15 [.con tI,.var tI])),[bP]⟩ [(.exit 2,⟨50,.any::.box 0 0::aN 2 (.var tI::aN 15 (.con ai::.con tI::.con tI::aN 15 [.con tI])),[bP]⟩,[tI])]
def BW (ρ:Type):é ρ:=⟨[],16,2,Rk,fun(p:Val (.pair ai bt)) (v:bx) a b=>m8 p.2.2.2.1 v.1 v.2 (fun c d=>a (c,d)) (b 0)⟩
def Rl:Å:=Ls 0 [ai,tI,tI,tI,ae,aa,af,ac,aa,ai] [tI,tI] ⟨50,.any::.box 0 0::aN 2 (.var tI::aN 15 [.con ai,.con tI,.var tI]),[bP]⟩ [(.ret,⟨50,.any::.box 0 0::.var tI::aN 17 [.con ai,.con tI],[bP]⟩,[tI]),(.exit 0,⟨50,.any::.box 0 0::aN 2 (.var tI::aN 15 [.con ai,.con tI]),[bP]⟩,[tI])]
def BX (ρ:Type):é ρ:=⟨[],16,0,Rl,fun(p:Val (.pair ai aP)) (v:bx) b a=>let A:=p.2.2.2.2;rz p.1 p.2.1 p.2.2.1 p.2.2.2.1 A.1 A.2.1 A.2.2.1 A.2.2.2.1 A.2.2.2.2.1 A.2.2.2.2.2 v.1 v.2 (fun c d=>b (c,d)) (a 0) (a 1)⟩
def DB (ρ:Type):Env ρ:=Ö [(54,mT),(55,XN)] [BW ρ,BX ρ]
def MM:ì:=⟨[Ä,am,tI,tI],[tI],fun(x:Val (.pair Ä (.pair am Æ)))=>D6 x.1 x.2.1 x.2.2.1 x.2.2.2⟩
def Yu:Å:=Ls 0 [am,tI,tI,tI,ae,aa,af,ac,aa,ai] [tI,tI] ⟨47,.any::.con am::.var tI::.con tI::.box 0 0::aN 4 [.var tI],[bP]⟩ [(.exit 0,⟨47,[.any,.con am,.var tI,.con tI,.box 0 0],[bP]⟩,[tI])]
def Jw (ρ:Type):é ρ:=⟨[],41,0,Yu,fun(p:Val (.pair am aP)) (v:bx) a b=>TG p.1 p.2.1 p.2.2.2.2.2.2.2.2.2 v.1 v.2 (fun c d=>a (c,d)) (b 0)⟩
def Yv (ρ:Type):Env ρ:=Ö [(94,mj)] [Jw ρ]
def xB:ì:=⟨[ab,tI,aE,aS],[ab],fun(x:Val (.pair ab (.pair tI (.pair aE aS))))=>qu x.1 x.2.1 x.2.2.1 x.2.2.2⟩
def oq:Å:=Ls 0 [tI,aE,aS,ab,tI] [tI,ab] ⟨28,[.any,.con tI,.con aE,.con aS,.any,.any,.any,.own 0,.any,.any,.con ab,.con tI,.var tI],cF⟩ [(.exit 0,⟨28,[.any,.con tI,.con aE,.con aS,.any,.any,.any,.own 0,.any,.any,.con ab,.con tI],cF⟩,[ab])]
def oo (ρ:Type):é ρ:=⟨[],136,0,oq,fun(p:Val (tyL oq.cs)) (v:dy) a b=>rk p.1 p.2.1 p.2.2.1 p.2.2.2.1 p.2.2.2.2 v.1 v.2 (fun c d=>a (c,d)) (b 0)⟩
def tv (ρ:Type):Env ρ:=Ö [(41,MM)] [oo ρ]
def lf:ì:=⟨[Ä,am],[È],fun(x:Val bp)=>lY x.1 x.2⟩
def rj:Å:=Ls 0 [aE,aS,aE,aS,aa,tI,tI,tI,tI,tI,ae,aa,af,ac,aa,tI,tI,ae] [tI,aa] ⟨123,aN 2 (.con aE::.con aS::.box 0 0::.box 1 0::.box 2 0::.fnd 136 [Ä,am]::aN 18 [.con aa,.con tI,.var tI]),[bS,bK,bT,.rowc Ú,.rowv Æ]⟩ [(.exit 0,⟨123,aN 2 (.con aE::.con aS::.box 0 0::.box 1 0::.box 2 0::.fnd 136 [Ä,am]::aN 18 [.con aa,.con tI]),[bS,bK,bT,.rowc Ú,.rowv Æ]⟩,[aa])]
def ri (ρ:Type):é ρ:=⟨[],61,0,rj,fun(p:Val (tyL rj.cs)) (v:kW) a b=>ww p.1 p.2.1 p.2.2.2.2.1 p.2.2.2.2.2.1 v.1 v.2 (fun c d=>a (c,d)) (b 0)⟩
def rh:Å:=Ls 0 [aE,aS,aE,aS,af,tI,tI,tI,tI,tI,ae,aa,af,ac,aa,tI,tI,ae,aa] [tI,af] ⟨123,aN 2 (.con aE::.con aS::.box 0 0::.box 1 0::.box 2 0::.fnd 136 [Ä,am]::aN 41 [.con af,.con tI,.var tI]),cM⟩ [(.exit 2,⟨123,aN 2 (.con aE::.con aS::.box 0 0::.box 1 0::.box 2 0::.fnd 136 [Ä,am]::aN 41 [.con af,.con tI]),cM⟩,[af])]
def rg (ρ:Type):é ρ:=⟨[],61,2,rh,fun(p:Val (tyL rh.cs)) (v:Val (.pair tI af)) a b=>wu p.1 p.2.1 p.2.2.2.2.1 p.2.2.2.2.2.1 v.1 v.2 (fun c d=>a (c,d)) (b 0)⟩
def qZ:Å:=Ls 0 [aE,aS,aE,aS,ac,tI,tI,tI,tI,tI,ae,aa,af,ac,aa,tI,tI,ae,aa,af] [tI,ac] ⟨123,aN 2 (.con aE::.con aS::.box 0 0::.box 1 0::.box 2 0::.fnd 136 [Ä,am]::aN 64 [.con ac,.con tI,.var tI]),cN⟩ [(.exit 4,⟨123,aN 2 (.con aE::.con aS::.box 0 0::.box 1 0::.box 2 0::.fnd 136 [Ä,am]::aN 64 [.con ac,.con tI]),cN⟩,[ac])]
def qY (ρ:Type):é ρ:=⟨[],61,4,qZ,fun(p:Val (tyL qZ.cs)) (v:Val aU) a b=>wt p.2.2.1 p.2.2.2.1 p.2.2.2.2.1 p.2.2.2.2.2.1 v.1 v.2 (fun c d=>a (c,d)) (b 0)⟩
def qX:Å:=Ls 0 [aE,aS,aa,tI,tI,tI,tI,tI,ae,aa,af,ac] [tI,aa] ⟨123,aN 2 (.con aE::.con aS::.box 0 0::.any::.box 1 0::aN 93 [.con aa,.con tI,.var tI]),cO⟩ [(.exit 6,⟨123,aN 2 (.con aE::.con aS::.box 0 0::.any::.box 1 0::aN 93 [.con aa,.con tI]),cO⟩,[aa])]
def qW (ρ:Type):é ρ:=⟨[],61,6,qX,fun(p:Val (tyL qX.cs)) (v:kW) a b=>wq p.1 p.2.1 p.2.2.1 p.2.2.2.1 v.1 v.2 (fun c d=>a (c,d)) (b 0)⟩
def Ŕ (ρ:Type):Env ρ:={Ö [(41,MM),(136,xB)] [ri ρ,rg ρ,qY ρ,qW ρ] with hint:=Wp [(78,136),(84,136)]}
def œ:ì:=⟨[aa,Æ],[tI],fun(x:Val (.pair aa Æ))=>ř x.1 x.2⟩
def me:Å:=Ls 0 [aa,tI,tI,tI] [tI] ⟨19,[.con aa,.any,.any,.box 0 0,.any,.any,.any,.con tI,.var tI],[bX]⟩ [(.ret,⟨19,[.con aa,.any,.any,.box 0 0,.var tI,.any,.any,.con tI],[bX]⟩,[tI]),(.exit 0,⟨19,[.con aa,.any,.any,.box 0 0,.any,.any,.any,.con tI],[bX]⟩,[])]
def ž (ρ:Type):é ρ:=⟨[],214,0,me,fun(p:Val (.pair aa Ę)) (v:Int) b a=>Ω p.1 p.2.1 p.2.2.1 p.2.2.2 v (fun c=>b c) (a 0) (a 1)⟩
def iu (ρ:Type):Env ρ:=Ö [] [ž ρ]
def Jo:ì:=⟨[(.ptr C3),ab,tI],[tI],fun(x:Val (.pair (.ptr C3) aL))=>sr x.1 x.2.1 x.2.2⟩
def Sa (ρ:Type):Env ρ:=Ö [(214,œ)] []
def acX:ì:=⟨[È,Ú,tI,tI],[tI],fun(x:Val (.pair È (.pair Ú Æ)))=>adR x.1 x.2.1 x.2.2.1 x.2.2.2⟩
def Gp:Å:=Ls 0 [tI,tI,af,tI,tI,tI,ae,aa,af,ac,aa,tI,tI,tI,tI,tI,tI,tI,tI] [tI,tI] ⟨88,aN 2 (.con tI::.con tI::.box 0 0::.box 1 0::aN 3 (.var tI::aN 7 [.con af,.con tI,.var tI])),[bK,bL]⟩ [(.exit 0,⟨88,aN 2 (.con tI::.con tI::.box 0 0::.box 1 0::aN 3 (.var tI::aN 7 [.con af,.con tI])),[bK,bL]⟩,[tI])]
def Gn (ρ:Type):é ρ:=⟨[],281,0,Gp,fun(p:Val (tyL Gp.cs)) (v:bx) a b=>Pk p.1 p.2.1 p.2.2.1 p.2.2.2.1 p.2.2.2.2.2.2.2.2.2.2.2.1 v.1 v.2 (fun c d=>a (c,d)) (b 0)⟩
def Gm:Å:=Ls 0 [tI,tI,tI,aa,tI,tI,tI,tI,tI,tI,tI,tI,tI] [tI,ab] ⟨88,aN 2 (.con tI::.con tI::.any::.box 0 0::aN 3 (.con tI::aN 3 (.own 1::aN 39 [.con aa,.con tI,.var tI]))),[bL,.rowv tI]⟩ [(.exit 2,⟨88,aN 2 (.con tI::.con tI::.any::.box 0 0::aN 3 (.con tI::aN 3 (.own 1::aN 39 [.con aa,.con tI]))),[bL,.rowv tI]⟩,[ab])]
def Gj (ρ:Type):é ρ:=⟨[],281,2,Gm,fun(p:Val (tyL Gm.cs)) (v:dy) a b=>Pj p.1 p.2.1 p.2.2.2.1 p.2.2.2.2.1 p.2.2.2.2.2.1 v.1 v.2 (fun c d=>a (c,d)) (b 0)⟩
def Ip (ρ:Type):Env ρ:=Ö [(220,ky)] [Gn ρ,Gj ρ]
def wm:ì:=⟨[ax,ab],[Æ],fun(x:Val (.pair ax ab))=>ol x.1 x.2⟩
def Gb (ρ:Type):Env ρ:=Ö [] []
def tf:ì:=⟨[aa],[tI],fun(x:bl)=>uO x⟩
def RX:Å:=Ls 0 [aa,tI] [tI] ⟨15,aN 5 [.con aa,.con tI,.var tI],[]⟩ [(.ret,⟨15,[.any,.any,.var tI,.any,.any,.con aa,.con tI],[]⟩,[tI]),(.exit 0,⟨15,aN 5 [.con aa,.con tI],[]⟩,[])]
def Cy (ρ:Type):é ρ:=⟨[],327,0,RX,fun(p:nj) (v:Int) b a=>JY p.1 p.2 v (fun c=>b c) (a 0) (a 1)⟩
def O4 (ρ:Type):Env ρ:=Ö [(254,EE)] [Cy ρ]
def Dg:ì:=⟨[tI,tI],[Æ,tI],fun(x:bx)=>D7 x.1 x.2⟩
def VW (ρ:Type):Env ρ:=Ö [(303,Vk),(304,aa1)] []
def ag5:ì:=⟨[Æ,Æ],[Æ,tI],fun(x:gv)=>aiL x.1 x.2⟩
def ahS (ρ:Type):Env ρ:=Ö [(327,tf),(334,Dg)] []
def EG:ì:=⟨[Æ,Æ],[Æ],fun(x:gv)=>He x.1 x.2⟩
def O8 (ρ:Type):Env ρ:=Ö [(330,ag5)] []
def aa2:ì:=⟨[Æ,Æ],[tI],fun(x:gv)=>abH x.1 x.2⟩
def ahR (ρ:Type):Env ρ:=Ö [] []
def BB:ì:=⟨[Ą],[.bool],fun(x:gv)=>CV x⟩
def Ln (ρ:Type):Env ρ:=Ö [(327,tf),(339,aa2)] []
def ag6:ì:=⟨[Æ,Æ],[Æ,tI],fun(x:gv)=>abI x.1 x.2⟩
def ahT (ρ:Type):Env ρ:=Ö [(327,tf),(334,Dg)] []
def Ya:ì:=⟨[Ą,Æ],[Ą,tI],fun(x:Val (.pair Ą Æ))=>ZT x.1 x.2⟩
def J1:rT (Nat×ì):=[(254,EE),(335,BB),(338,ag6),(339,aa2)]
def vy (ρ:Type):rT (é ρ):=[]
def J0:rT amb:=[⟨[3,2],336,0,4⟩]
def Za (ρ:Type):Env ρ:=Ö J1 (vy ρ)
def DN (ρ:Type):Env ρ:=mkEnvU J1 (vy ρ) J0
def EF:ì:=⟨[Æ,Æ],[Ą],fun(x:gv)=>Hd x.1 x.2⟩
def O7 (ρ:Type):Env ρ:=Ö [(331,Ya)] []
def Tu:ì:=⟨[È,Ò],[Ą],fun(x:Val aZ)=>UB x.1 x.2⟩
def Zi (ρ:Type):Env ρ:=Ö [(116,vc),(146,EI),(324,wm),(325,EG),(326,EF)] []
def Yd:ì:=⟨[È,Ò],[Æ],fun(x:Val aZ)=>ZV x.1 x.2⟩
def abv (ρ:Type):Env ρ:=Ö [] []
def MR:ì:=⟨[tI,tI],[tI],fun(x:bx)=>Qd x.1 x.2⟩
def abq (ρ:Type):Env ρ:=Ö [] []
def Yb:ì:=⟨[Æ],[tI,tI],fun(x:bx)=>ZU x⟩
def abt (ρ:Type):Env ρ:=Ö [(327,tf),(328,MR)] []
def acU:ì:=⟨[Æ],[tI,tI],fun(x:bx)=>adO x⟩
def afb (ρ:Type):Env ρ:=Ö [(327,tf),(328,MR)] []
def acV:ì:=⟨[È,Ò],[Æ],fun(x:Val aZ)=>adP x.1 x.2⟩
def afc (ρ:Type):Env ρ:=Ö [(312,Tu),(313,Yd),(314,Yb),(315,acU)] []
def acW:ì:=⟨[È],[(.ptr C3)],fun(x:bA)=>adQ x⟩
def Gf:Å:=Ls 2 [tI,ab,tI,ae,tI,tI,tI,tI,ae,aa,af,ac,aa,tI,tI,ae,aa,af,ac,aa,aa,tI,tI,tI,tI,tI,tI,tI,tI,tI] [tI,ak,aa] ⟨144,.box 1 0::.any::.con tI::.box 2 0::.con ab::.con tI::.var tI::aN 24 [.con ae,.con tI,.con tI],[bK,bY,bL,.rowv Ę,.rowv Æ]⟩ [(.exit 2,⟨144,.box 1 0::.any::.con tI::.box 2 0::.con ab::.con tI::aN 25 [.con ae,.con tI,.con tI],[bK,bY,bL,.rowv Ę,.rowv Æ]⟩,[ak,aa])]
def Ge (ρ:Type):é ρ:=⟨[2,1],223,2,Gf,fun(p:Val (tyL Gf.cs)) (v:l7) a b=>let A:=p.2.2.2.2.2.2.2.2.2.2.2.2.2;let B:=A.2.2.2.2;let C:=B.2.2.2.2.2;let D:=C.2.2.2.2;Pg p.1 p.2.1 p.2.2.1 A.1 A.2.1 A.2.2.1 A.2.2.2.1 B.1 B.2.1 B.2.2.1 C.1 C.2.1 C.2.2.1 C.2.2.2.1 D.1 D.2.1 D.2.2.1 D.2.2.2 v.1 v.2.1 v.2.2 (fun c d e=>a (c,d,e)) (b 0)⟩
def Gi:Å:=Ls 2 [ae,tI,tI,tI,ae,aa,af,ac,aa,tI,tI,ae,aa,af,ac,aa,aa,tI] [tI,ak,aa] ⟨144,.box 1 0::aN 30 [.con ae,.con tI,.var tI],cP⟩ [(.exit 0,⟨144,.box 1 0::aN 30 [.con ae,.con tI],cP⟩,[ak,aa])]
def Gg (ρ:Type):é ρ:=⟨[2,1],223,0,Gi,fun(p:Val (tyL Gi.cs)) (v:l7) a b=>let A:=p.2.2.2.2.2.2.2.2.2;let B:=A.2.2.2.2;Ph p.1 p.2.1 A.1 A.2.1 A.2.2.1 A.2.2.2.1 B.1 B.2.1 B.2.2.1 B.2.2.2.1 B.2.2.2.2 v.1 v.2.1 v.2.2 (fun c d e=>a (c,d,e)) (b 0)⟩
def Gd:Å:=Ls 2 [ac,tI,tI,tI,ae,aa,af,ac,aa,tI,tI,ae,aa,af,ac,aa,aa,tI] [tI,ak,aa] ⟨144,.box 1 0::aN 107 [.con ac,.con tI,.var tI],cP⟩ [(.exit 4,⟨144,.box 1 0::aN 107 [.con ac,.con tI],cP⟩,[ak,aa])]
def Gc (ρ:Type):é ρ:=⟨[2,1],223,4,Gd,fun(p:Val (tyL Gd.cs)) (v:l7) a b=>let A:=p.2.2.2.2.2.2.2.2.2;let B:=A.2.2.2.2;Pf p.1 p.2.1 A.1 A.2.1 A.2.2.1 A.2.2.2.1 B.1 B.2.1 B.2.2.1 B.2.2.2.1 B.2.2.2.2 v.1 v.2.1 v.2.2 (fun c d e=>a (c,d,e)) (b 0)⟩
def Ao (ρ:Type):Env ρ:=Ö [(118,EH),(146,EI),(205,Vl),(279,Jo),(281,acX),(282,acV)] [Ge ρ,Gg ρ,Gc ρ]
def tj:ì:=⟨[È],[Ý,aa,tI],fun(x:bA)=>pA x⟩
def Zk (ρ:Type):Env ρ:=Ö [(54,mT),(147,acW)] []
def Vj:ì:=⟨[Ý,tI],[.bool],fun(x:Val (.pair Ý tI))=>Md x.1 x.2⟩
def ae8 (ρ:Type):Env ρ:=Ö [] []
def xF:ì:=⟨[Ý],[tI,tI],fun(x:fy)=>zI x⟩
def RV:Å:=Ls 0 [ak,tI,tI,ak] [tI] ⟨57,.any::.box 0 0::aN 17 [.con ak,.con tI,.var tI],[b7]⟩ [(.ret,⟨57,.any::.box 0 0::.var tI::.var tI::aN 15 [.con ak,.con tI],[b7]⟩,[tI,tI]),(.exit 0,⟨57,.any::.box 0 0::aN 17 [.con ak,.con tI],[b7]⟩,[])]
def Cx (ρ:Type):é ρ:=⟨[],148,0,RV,fun(p:Val (.pair ak ba)) (v:Int) b a=>JX p.1 p.2.1 p.2.2.1 p.2.2.2 v (fun c=>b c) (a 0) (a 1)⟩
def O2 (ρ:Type):Env ρ:=Ö [(224,Vj)] [Cx ρ]
def qU:ì:=⟨[Ý,ay],[ab,.bool],fun(x:Val (.pair Ý ay))=>sn x.1 x.2⟩
def uw:Å:=Ls 2 [ay,ak,tI,tI,ak,ab,tI,ak,aB,ab] [tI,tI] ⟨140,.any::.con ay::.own 1::.box 2 0::aN 3 (.box 3 0::.own 4::.own 5::.var tI::aN 14 [.con ak,.con tI,.var tI]),[b7,.rowc tI,b7,.cells [.nils],.rowc .bool,.rowc tI]⟩ [(.exit 0,⟨140,.any::.con ay::.own 1::.box 2 0::aN 3 (.box 3 0::.own 4::.own 5::.var tI::aN 14 [.con ak,.con tI]),[b7,.rowc tI,b7,.cells [.nils],.rowc .bool,.rowc tI]⟩,[tI])]
def uu (ρ:Type):é ρ:=⟨[2,3],225,0,uw,fun(p:Val (tyL uw.cs)) (v:bx) a b=>zj p.2.1 p.2.2.1 v.1 v.2 (fun c d=>a (c,d)) (b 0)⟩
def ut:Å:=Ls 2 [ay,tI,tI,tI,ak,ab,tI,ak,ab] [tI,aB,ab] ⟨140,.any::.con ay::.own 1::.box 2 0::aN 3 (.box 3 0::.own 4::.own 5::.con tI::aN 27 [.con tI,.var tI]),cQ⟩ [(.exit 2,⟨140,.any::.con ay::.own 1::.box 2 0::aN 3 (.box 3 0::.own 4::.own 5::.con tI::aN 27 [.con tI]),cQ⟩,[aB,ab])]
def ur (ρ:Type):é ρ:=⟨[2,3],225,2,ut,fun(p:Val (tyL ut.cs)) (v:nn) a b=>zi p.2.2.1 p.2.2.2.2.2.1 v.1 v.2.1 v.2.2 (fun c d e=>a (c,d,e)) (b 0)⟩
def un:Å:=Ls 2 [ay,tI,tI,ak,tI,tI,ak,tI,ak,ab] [tI,ab,aB,ab] ⟨140,.any::.con ay::.own 1::.box 2 0::aN 3 (.box 3 0::.own 4::.own 5::.con tI::aN 3 (.con tI::aN 62 [.con ak,.con tI,.var tI])),cR⟩ [(.ret,⟨140,.any::.con ay::.own 1::.box 2 0::aN 2 (.var .bool::.box 3 0::.own 4::.own 5::.con tI::aN 3 (.con tI::aN 62 [.con ak,.con tI])),cR⟩,[.bool,ab,aB,ab]),(.exit 6,⟨140,.any::.con ay::.own 1::.box 2 0::aN 3 (.box 3 0::.own 4::.own 5::.con tI::aN 3 (.con tI::aN 62 [.con ak,.con tI])),cR⟩,[ab,aB,ab])]
def uk (ρ:Type):é ρ:=⟨[2,3],225,6,un,fun(p:Val (tyL un.cs)) (v:gV) b a=>ze p.1 p.2.1 p.2.2.1 p.2.2.2.1 p.2.2.2.2.1 v.1 v.2.1 v.2.2.1 v.2.2.2 (fun c d e f=>b (c,d,e,f)) (a 0) (a 1)⟩
def Ii:Å:=Ls 2 [ay,tI,tI,ak,tI,ak] [ab,aB,ab,ab] ⟨140,[.any,.con ay,.own 1,.box 2 0,.any,.any,.any,.box 3 0,.own 4,.own 5,.con tI],cS⟩ [(.ret,⟨140,[.any,.con ay,.own 1,.box 2 0,.any,.any,.var .bool,.box 3 0,.own 4,.own 5,.con tI],cS⟩,[.bool,ab,aB,ab,ab])]
def uq (ρ:Type):é ρ:=⟨[2,3],225,4,Ii,fun(p:Val (.pair ay bH)) (v:Val br) a b=>zh p.1 p.2.1 p.2.2.2.2.1 p.2.2.2.2.2 v.1 v.2.1 v.2.2.1 v.2.2.2 (fun c d e f=>a (c,d,e,f)) (b 0)⟩
def Ih:Å:=Ls 0 [tI,tI] [tI,ab] ⟨34,aN 6 (.own 0::.con tI::aN 13 [.con tI,.var tI]),cF⟩ [(.exit 0,⟨34,aN 6 (.own 0::.con tI::aN 13 [.con tI]),cF⟩,[ab])]
def uj (ρ:Type):é ρ:=⟨[],149,0,Ih,fun(p:bx) (v:dy) a b=>zd p.1 p.2 v.1 v.2 (fun c d=>a (c,d)) (b 0)⟩
def Ź (ρ:Type):Env ρ:=Ö [] [uu ρ,ur ρ,uk ρ,uq ρ,uj ρ]
def Bz:ì:=⟨[Ý],[.bool,tI],fun(x:fy)=>CT x⟩
def Ll (ρ:Type):Env ρ:=Ö [(148,xF),(149,qU)] []
def qT:ì:=⟨[Ä,am],[.bool],fun(x:Val bp)=>kP x.1 x.2⟩
def Re (ρ:Type):Env ρ:=Ö [(61,lf),(76,tj),(141,Bz)] []
def xG:ì:=⟨[tI],[.bool],fun(x:Int)=>qx x⟩
def Ik (ρ:Type):Env ρ:=Ö [] []
def ml:ì:=⟨[tI,tI],[tI],fun(x:bx)=>mE x.1 x.2⟩
def DP (ρ:Type):Env ρ:=Ö [(213,xG)] []
def Tb:ì:=⟨[Ä,am],[tI],fun(x:Val bp)=>IP x.1 x.2⟩
def xS:Å:=Ls 0 [tI,am,tI,tI,ab,tI,tI,tI,ae,aa,af,ac,aa,ai] [tI,tI] ⟨40,aN 2 (.box 0 0::aN 2 (.var tI::.con tI::aN 3 (.con am::.con tI::.con tI::aN 4 [.con ab,.con tI,.var tI]))),[bP]⟩ [(.exit 2,⟨40,aN 2 (.box 0 0::aN 2 (.var tI::.con tI::aN 3 (.con am::.con tI::.con tI::aN 4 [.con ab,.con tI]))),[bP]⟩,[tI])]
def xR (ρ:Type):é ρ:=⟨[],130,2,xS,fun(p:Val (tyL xS.cs)) (v:bx) a b=>let A:=p.2.2.2.2;ET p.1 A.1 A.2.1 A.2.2.2.2.2.2.2.2.2 v.1 v.2 (fun c d=>a (c,d)) (b 0)⟩
def M9:Å:=Ls 0 [am,tI,tI,tI,ae,aa,af,ac,aa,ai] [tI,tI] ⟨40,aN 2 (.box 0 0::aN 2 (.var tI::aN 4 [.con am,.con tI,.var tI])),[bP]⟩ [(.exit 0,⟨40,aN 2 (.box 0 0::aN 2 (.var tI::aN 4 [.con am,.con tI])),[bP]⟩,[tI])]
def xT (ρ:Type):é ρ:=⟨[],130,0,M9,fun(p:Val (.pair am aP)) (v:bx) a b=>EU p.1 p.2.1 p.2.2.2.2.2.2.2.2.2 v.1 v.2 (fun c d=>a (c,d)) (b 0)⟩
def xU (ρ:Type):Env ρ:=Ö [] [xR ρ,xT ρ]
def HQ:ì:=⟨[am,am,aE],[tI],fun(x:Val (.pair am (.pair am aE)))=>uJ x.1 x.2.1 x.2.2⟩
def Yx (ρ:Type):Env ρ:=Ö [(129,ml),(130,Tb)] []
def ö:agm:=⟨am,[tI,tI],128,Ä,fun(xs:a7) (x:bx) (m:a8)=>Ō xs x.1 x.2 m⟩
def lE:Å:=Ls 2 [tI,tI,tI,tI,tI,ae,aa,af,ac,aa,ai] [tI,ag] ⟨53,.own 0::.con tI::.con tI::.fn 128 [(1,0)]::aN 4 [.con tI,.var tI],cT⟩ [(.exit 2,⟨53,.own 0::.con tI::.con tI::.fn 128 [(1,0)]::aN 4 [.con tI],cT⟩,[ag])]
def Ů (ρ:Type):é ρ:=⟨[],265,2,lE,fun(p:Val bt) (v:gx) a b=>let A:=p.2.2.2.2;let B:=A.2.2.2.2;Λ p.1 p.2.2.2.1 A.1 A.2.1 A.2.2.1 A.2.2.2.1 B.1 B.2.1 B.2.2 v.1 v.2 (fun c d=>a (c,d)) (b 0)⟩
def lF:Å:=Ls 2 [tI,tI,tI,tI,ae,aa,af,ac,aa,ai] [tI,ag] ⟨53,.own 0::.con tI::.con tI::.fn 128 [(1,0)]::aN 4 [.var tI],cT⟩ [(.exit 0,⟨53,[.own 0,.con tI,.con tI,.fn 128 [(1,0)]],cT⟩,[ag])]
def ů (ρ:Type):é ρ:=⟨[],265,0,lF,fun(p:Val (.pair tI aP)) (v:gx) a b=>let A:=p.2.2.2.2;Μ p.1 p.2.1 p.2.2.1 p.2.2.2.1 A.1 A.2.1 A.2.2.1 A.2.2.2.1 A.2.2.2.2.1 A.2.2.2.2.2 v.1 v.2 (fun c d=>a (c,d)) (b 0)⟩
def ï (ρ:Type):Env ρ:={Ö [(128,HQ)] [Ů ρ,ů ρ] with hint:=Wp [(22,128)]}
def Ĝ:agm:=⟨am,[tI,tI,tI],128,Ä,fun(xs:a7) (x:kV) (m:a8)=>iW xs x.1 x.2.1 x.2.2 m⟩
def qM:Å:=Ls 2 [tI,tI,tI,tI,tI,ae,aa,af,ac,aa,ai] [tI,ag] ⟨38,.own 0::.con tI::.con tI::.con tI::aN 6 [.var tI],cT⟩ [(.exit 0,⟨38,[.own 0,.con tI,.con tI,.con tI],cT⟩,[ag])]
def jD (ρ:Type):é ρ:=⟨[4,7],322,0,qM,fun(p:Val bt) (v:gx) a b=>kJ p.1 p.2.1 p.2.2.1 v.1 v.2 (fun c d=>a (c,d)) (b 0)⟩
def qL:Å:=Ls 2 [tI,tI,tI,tI,tI,ae,aa,af,ac,aa,ai] [tI,ag] ⟨38,.own 0::.con tI::.con tI::.con tI::aN 6 [.var tI],cT⟩ [(.exit 0,⟨38,[.own 0,.con tI,.con tI,.con tI],cT⟩,[ag])]
def jC (ρ:Type):é ρ:=⟨[6,11],322,0,qL,fun(p:Val bt) (v:gx) a b=>kI p.1 p.2.1 p.2.2.1 v.1 v.2 (fun c d=>a (c,d)) (b 0)⟩
def qN:Å:=Ls 2 [tI,tI,tI,ae,aa,af,ac,aa,ai] [tI,tI,ag] ⟨58,.own 0::.any::.con tI::.any::.fn 128 [(1,0)]::aN 5 [.var tI,.var tI],cT⟩ [(.exit 0,⟨58,.own 0::.any::.con tI::.any::.fn 128 [(1,0)]::aN 5 [.var tI],cT⟩,[tI,ag])]
def jE (ρ:Type):é ρ:=⟨[],306,0,qN,fun(p:ry) (v:nT) a b=>kK p.1 v.1 v.2.1 v.2.2 (fun c d e=>a (c,d,e)) (b 0)⟩
def qK:Å:=Ls 2 [tI,tI,tI,tI,tI,ae,aa,af,ac,aa,ai] [tI,ag] ⟨38,.own 0::.con tI::.con tI::.con tI::aN 6 [.var tI],cT⟩ [(.exit 0,⟨38,[.own 0,.con tI,.con tI,.con tI],cT⟩,[ag])]
def jB (ρ:Type):é ρ:=⟨[8,7],322,0,qK,fun(p:Val bt) (v:gx) a b=>kH p.1 p.2.1 p.2.2.1 v.1 v.2 (fun c d=>a (c,d)) (b 0)⟩
def ó (ρ:Type):Env ρ:=Ö [] [jD ρ,jC ρ,jE ρ,jB ρ]
def lg:agm:=⟨am,[tI,tI,tI],128,Ä,fun(xs:a7) (x:kV) (m:a8)=>ip xs x.1 x.2.1 x.2.2 m⟩
def ü:Å:=Ls 2 [tI,ag,tI,tI,ae,aa,af,ac,aa,ai] [tI,tI] ⟨220,.own 0::.con tI::aN 2 (.fn 128 [(1,0)]::aN 5 [.var tI,.var tI]),cV⟩ [(.exit 0,⟨220,.own 0::.con tI::aN 2 (.fn 128 [(1,0)]::aN 5 [.var tI]),cV⟩,[tI])]
def ň (rec:a7->Int->Int->Int->a8->rF (a7×a8)) (ρ:Type):é ρ:=⟨[],266,0,ü,fun(p:lI) (v:bx) a b=>jx rec p.1 p.2.1 p.2.2.1 p.2.2.2.1 p.2.2.2.2.1 p.2.2.2.2.2.1 p.2.2.2.2.2.2.1 p.2.2.2.2.2.2.2.1 p.2.2.2.2.2.2.2.2.1 p.2.2.2.2.2.2.2.2.2 v.1 v.2 (fun c d=>a (c,d)) (b 0)⟩
def û:Å:=Ls 2 [tI,tI,tI,ae,aa,af,ac,aa,ai] [tI,ag] ⟨220,.own 0::aN 9 [.con tI,.any,.any,.var tI],cT⟩ [(.exit 2,⟨220,.own 0::aN 9 [.con tI],cT⟩,[ag])]
def Ň (rec:a7->Int->Int->Int->a8->rF (a7×a8)) (ρ:Type):é ρ:=⟨[],266,2,û,fun(p:ry) (v:gx) a b=>jw rec p.1 v.1 v.2 (fun c d=>a (c,d)) (b 0)⟩
def ú:Å:=Ls 2 [tI,ag,tI,tI,ae,aa,af,ac,aa,ai] [tI,tI] ⟨220,.own 0::.any::.con tI::.any::.fn 128 [(1,0)]::aN 9 [.var tI,.var tI],cV⟩ [(.exit 4,⟨220,.own 0::.any::.con tI::.any::.fn 128 [(1,0)]::aN 9 [.var tI],cV⟩,[tI])]
def ņ (rec:a7->Int->Int->Int->a8->rF (a7×a8)) (ρ:Type):é ρ:=⟨[],266,4,ú,fun(p:lI) (v:bx) a b=>jv rec p.1 p.2.1 p.2.2.1 p.2.2.2.1 p.2.2.2.2.1 p.2.2.2.2.2.1 p.2.2.2.2.2.2.1 p.2.2.2.2.2.2.2.1 p.2.2.2.2.2.2.2.2.1 p.2.2.2.2.2.2.2.2.2 v.1 v.2 (fun c d=>a (c,d)) (b 0)⟩
def ù:Å:=Ls 2 [tI,tI,tI,ae,aa,af,ac,aa,ai] [tI,ag] ⟨220,.own 0::aN 13 [.con tI,.any,.any,.var tI],cT⟩ [(.exit 6,⟨220,.own 0::aN 13 [.con tI],cT⟩,[ag])]
def Ņ (rec:a7->Int->Int->Int->a8->rF (a7×a8)) (ρ:Type):é ρ:=⟨[],266,6,ù,fun(p:ry) (v:gx) a b=>ju rec p.1 v.1 v.2 (fun c d=>a (c,d)) (b 0)⟩
def ø:Å:=Ls 2 [tI,tI,tI,tI,tI,tI,ag,tI,tI,ae,aa,af,ac,aa,ai] [tI,tI] ⟨220,.own 0::.con tI::.con tI::.con tI::.fn 128 [(1,0)]::aN 13 [.con tI,.con tI,.var tI,.var tI,.con tI],cV⟩ [(.exit 8,⟨220,.own 0::.con tI::.con tI::.con tI::.fn 128 [(1,0)]::aN 13 [.con tI,.con tI,.var tI,.any,.con tI],cV⟩,[tI])]
def ń (rec:a7->Int->Int->Int->a8->rF (a7×a8)) (ρ:Type):é ρ:=⟨[],266,8,ø,fun(p:Val aX) (v:bx) a b=>ţ rec p.2.2.2.2.2.1 p.2.2.2.2.2.2.1 p.2.2.2.2.2.2.2.1 p.2.2.2.2.2.2.2.2.1 p.2.2.2.2.2.2.2.2.2.1 p.2.2.2.2.2.2.2.2.2.2.1 p.2.2.2.2.2.2.2.2.2.2.2.1 p.2.2.2.2.2.2.2.2.2.2.2.2.1 p.2.2.2.2.2.2.2.2.2.2.2.2.2.1 p.2.2.2.2.2.2.2.2.2.2.2.2.2.2 v.1 v.2 (fun c d=>a (c,d)) (b 0)⟩
def qG (rec:a7->Int->Int->Int->a8->rF (a7×a8)):rT (Nat×ì):=[(128,HQ)]
def qF (rec:a7->Int->Int->Int->a8->rF (a7×a8)):rT (Nat×aaE):=[(266,.row ⟨am,[tI,tI,tI],128,Ä,fun(xs:a7) (x:kV) (m:a8)=>rec xs x.1 x.2.1 x.2.2 m⟩),(306,.row Ĝ)]
def iP (rec:a7->Int->Int->Int->a8->rF (a7×a8)) (ρ:Type):rT (é ρ):=[ň rec ρ,Ň rec ρ,ņ rec ρ,Ņ rec ρ,ń rec ρ]
def É (rec:a7->Int->Int->Int->a8->rF (a7×a8)) (ρ:Type):Env ρ:={TB (qG rec) (iP rec ρ) (qF rec) with hint:=Wp [(40,128),(92,128),(158,128)]}
def Č:agm:=⟨am,[tI],128,Ä,fun(xs:a7) (x:Int) (m:a8)=>iV xs x m⟩
def qJ:Å:=Ls 2 [tI,tI] [tI,tI,ag,tI,tI,ae,aa,af,ac,aa,ai] ⟨63,[.own 0,.con tI,.fn 128 [(1,0)],.any,.any,.any,.con tI,.var tI,.var tI],cW⟩ [(.exit 0,⟨63,[.own 0,.con tI,.fn 128 [(1,0)],.any,.any,.any,.con tI,.var tI],cW⟩,[tI,ag,tI,tI,ae,aa,af,ac,aa,ai])]
def jA (ρ:Type):é ρ:=⟨[],212,0,qJ,fun(p:bx) (v:pc) a b=>kG p.1 p.2 v.1 v.2.1 v.2.2.1 v.2.2.2.1 v.2.2.2.2.1 v.2.2.2.2.2.1 v.2.2.2.2.2.2.1 v.2.2.2.2.2.2.2.1 v.2.2.2.2.2.2.2.2.1 v.2.2.2.2.2.2.2.2.2.1 v.2.2.2.2.2.2.2.2.2.2 (fun c d e f g h i j k l m=>a (c,d,e,f,g,h,i,j,k,l,m)) (b 0)⟩
def qH:Å:=Ls 2 [tI,tI] [tI,tI,ag,tI,tI,ae,aa,af,ac,aa,ai] ⟨63,[.own 0,.con tI,.fn 128 [(1,0)],.any,.any,.any,.con tI,.var tI,.var tI],cW⟩ [(.exit 4,⟨63,[.own 0,.con tI,.fn 128 [(1,0)],.any,.any,.any,.con tI,.var tI],cW⟩,[tI,ag,tI,tI,ae,aa,af,ac,aa,ai])]
def jy (ρ:Type):é ρ:=⟨[],212,4,qH,fun(p:bx) (v:pc) a b=>kE p.1 p.2 v.1 v.2.1 v.2.2.1 v.2.2.2.1 v.2.2.2.2.1 v.2.2.2.2.2.1 v.2.2.2.2.2.2.1 v.2.2.2.2.2.2.2.1 v.2.2.2.2.2.2.2.2.1 v.2.2.2.2.2.2.2.2.2.1 v.2.2.2.2.2.2.2.2.2.2 (fun c d e f g h i j k l m=>a (c,d,e,f,g,h,i,j,k,l,m)) (b 0)⟩
def qI:Å:=Ls 2 [tI] [tI,ag,tI,tI,ae,aa,af,ac,aa,ai] ⟨63,[.own 0,.con tI,.fn 128 [(1,0)],.any,.any,.any,.var tI],cW⟩ [(.exit 2,⟨63,[.own 0,.con tI,.fn 128 [(1,0)]],cW⟩,[ag,tI,tI,ae,aa,af,ac,aa,ai])]
def jz (ρ:Type):é ρ:=⟨[],212,2,qI,fun(p:Int) (v:lI) a b=>kF p v.1 v.2.1 v.2.2.1 v.2.2.2.1 v.2.2.2.2.1 v.2.2.2.2.2.1 v.2.2.2.2.2.2.1 v.2.2.2.2.2.2.2.1 v.2.2.2.2.2.2.2.2.1 v.2.2.2.2.2.2.2.2.2 (fun c d e f g h i j k l=>a (c,d,e,f,g,h,i,j,k,l)) (b 0)⟩
def tV:rT (Nat×aaE):=[(265,.row ö),(266,.row lg)]
def ā (ρ:Type):Env ρ:=TB [] [jA ρ,jy ρ,jz ρ] tV
def Vg:ì:=⟨[Ä],[ag],fun(x:a8)=>Wz x⟩
def lz:Tpl:=⟨13,[.any,.any,.box 3 0],[.cells [.con tI,.con tI,.con ae,.con aa,.con af,.con ac,.con aa,.con ai],.cells [.con tI,.con tI,.con ae,.con aa,.con af,.con ac,.con aa,.con ai],.dead,.cells [.own 4],.rowv am]⟩
def oE (ρ:Type):HD ρ:=⟨[1,1,1,3,1,1],209,0,4,[tI,tI,ae,aa,af,ac,aa,ai,tI,tI,ae,aa,af,ac,aa,ai],[ag],lz,qq,fun(p:Val aF) (v:a7) y a=>Nz v y (fun b=>a b)⟩
def Ff:Å:=Ls 5 [tI,tI,tI,ae,aa,af,ac,aa,ai,tI,tI,ae,aa,af,ac,aa,ai,ai,ag] [tI] ⟨19,.own 4::.fn 92 [(0,0)]::aN 5 [.con tI,.var tI],[bP,bP,cd,ce,.rowc am]⟩ [(.ret,⟨19,[.own 4,.fn 92 [(0,0)],.any,.any,.var tI,.any,.any,.con tI],[bP,bP,cd,ce,.rowc am]⟩,[tI]),(.exit 0,⟨19,.own 4::.fn 92 [(0,0)]::aN 5 [.con tI],[bP,bP,cd,ce,.rowc am]⟩,[])]
def Fe (ρ:Type):é ρ:=⟨[1,3,1,2],93,0,Ff,fun(p:Val (tyL Ff.cs)) (v:Int) b a=>let A:=p.2.2.2.2;NB p.1 p.2.1 p.2.2.1 p.2.2.2.1 A.1 A.2.1 A.2.2.1 A.2.2.2.1 A.2.2.2.2.1 A.2.2.2.2.2.2.2.2.2.2.2.2.2.2 v (fun c=>b c) (a 0) (a 1)⟩
def Fc:Å:=Ls 5 [tI,tI,ae,aa,af,ac,aa,ai,tI,tI,ae,aa,af,ac,aa,ai,ai] [tI,tI,ag] ⟨42,[.own 4,.fn 92 [(0,0)],.any,.any,.any,.var tI,.var tI],[bP,bP,cd,ce,.rowv am]⟩ [(.exit 0,⟨42,[.own 4,.fn 92 [(0,0)],.any,.any,.any,.var tI],[bP,bP,cd,ce,.rowv am]⟩,[tI,ag])]
def E9 (ρ:Type):é ρ:=⟨[1,3],91,0,Fc,fun(p:Val (tyL Fc.cs)) (v:nT) a b=>let A:=p.2.2.2.2;NA p.1 p.2.1 p.2.2.1 p.2.2.2.1 A.1 A.2.1 A.2.2.1 A.2.2.2.1 v.1 v.2.1 v.2.2 (fun c d e=>a (c,d,e)) (b 0)⟩
def Nw (ρ:Type):rT (HD ρ):=[oE ρ]
def abd:rT (Nat×aaE):=[(212,.row Č)]
def Κ (ρ:Type):Env ρ:={TB [(67,qT)] [Fe ρ,E9 ρ] abd with ranges:=ő (Nw ρ)}
def ag3:ì:=⟨[Ä],[ag,tI],fun(x:a8)=>aiK x⟩
def ahE (ρ:Type):Env ρ:=Ö [(16,ŭ),(38,Vg)] []
def XM:ì:=⟨[Ä,am],[.bool],fun(x:Val bp)=>ZL x.1 x.2⟩
def jU:Tpl:=⟨13,[.any,.any,.box 2 0],[.cells [.con tI,.con tI,.con ae,.con aa,.con af,.con ac,.con aa,.con ai],.dead,.cells [.own 3],.rowv tI]⟩
def mK (ρ:Type):HD ρ:=⟨[7,8,1,1,1,1],294,0,3,[tI,tI,ae,aa,af,ac,aa,ai],[ab],jU,GN,fun(p:lw) (v:an) y a=>JA v y (fun b=>a b)⟩
def Q3:Å:=Ls 0 [am,tI,tI,tI,ae,aa,af,ac,aa,ai] [tI] ⟨42,aN 2 (.box 0 0::aN 11 [.con am,.con tI,.var tI]),[bP]⟩ [(.ret,⟨42,aN 2 (.box 0 0::.any::.var .bool::aN 9 [.con am,.con tI]),[bP]⟩,[.bool]),(.exit 0,⟨42,aN 2 (.box 0 0::aN 11 [.con am,.con tI]),[bP]⟩,[])]
def BF (ρ:Type):é ρ:=⟨[],97,0,Q3,fun(p:Val (.pair am aP)) (v:Int) b a=>JB p.1 p.2.1 p.2.2.2.2.2.2.2.2.2 v (fun c=>b c) (a 0) (a 1)⟩
def Jz (ρ:Type):rT (HD ρ):=[mK ρ]
def ŵ (ρ:Type):Env ρ:={Ö [(181,XL)] [BF ρ] with ranges:=ő (Jz ρ)}
def XO:ì:=⟨[Ä,am],[tI],fun(x:Val bp)=>ZM x.1 x.2⟩
def abe (ρ:Type):Env ρ:=Ö [(16,ŭ),(97,XM)] []
def Ez:ì:=⟨[Ä,tI,tI],[tI],fun(x:Val (.pair Ä Æ))=>G0 x.1 x.2.1 x.2.2⟩
def BD:Å:=Ls 2 [ae,tI,tI,tI,ae,aa,af,ac,aa,ai,tI] [tI] ⟨19,.con ae::.fn 99 [(1,0)]::aN 5 [.con tI,.var tI],[bP,bN]⟩ [(.ret,⟨19,[.con ae,.fn 99 [(1,0)],.any,.any,.var tI,.any,.any,.con tI],[bP,bN]⟩,[tI]),(.exit 0,⟨19,.con ae::.fn 99 [(1,0)]::aN 5 [.con tI],[bP,bN]⟩,[])]
def BC (ρ:Type):é ρ:=⟨[3,4,1,2],184,0,BD,fun(p:Val (tyL BD.cs)) (v:Int) b a=>Jy p.1 p.2.1 p.2.2.2.2.2.2.2.2.2.2 v (fun c=>b c) (a 0) (a 1)⟩
def Nj (ρ:Type):Env ρ:=Ö [] [BC ρ]
def ag2:ì:=⟨[Ä,am,tI,tI],[tI,tI],fun(x:Val (.pair Ä (.pair am Æ)))=>aiJ x.1 x.2.1 x.2.2.1 x.2.2.2⟩
def ahB (ρ:Type):Env ρ:=Ö [(41,MM),(43,XO),(44,Ez)] []
def Af:ì:=⟨[Ä],[ag],fun(x:a8)=>AC x⟩
def lr:Tpl:=⟨13,[.any,.any,.box 2 0],[.cells [.con tI,.con tI,.con ae,.con aa,.con af,.con ac,.con aa,.con ai],.dead,.cells [.own 3],.rowv am]⟩
def oD (ρ:Type):HD ρ:=⟨[1,3,1,1],209,0,3,[tI,tI,ae,aa,af,ac,aa,ai],[ag],lr,qq,fun(p:lw) (v:a7) y a=>Nd v y (fun b=>a b)⟩
def Na (ρ:Type):rT (HD ρ):=[oD ρ]
def abc:rT (Nat×aaE):=[(212,.row Č)]
def je (ρ:Type):Env ρ:={TB [] [] abc with ranges:=ő (Na ρ)}
def acK:ì:=⟨[Ä],[ag,tI],fun(x:a8)=>adL x⟩
def aeZ (ρ:Type):Env ρ:=Ö [(16,ŭ),(58,Af)] []
def Jj:ì:=⟨[ac],[Ä],fun(x:b6)=>iU x⟩
def QV (ρ:Type):Env ρ:=Ö [] []
def oA:ì:=⟨[Ä],[am,.bool],fun(x:a8)=>ik x⟩
def Fg:Å:=Ls 1 [ag,tI,tI,tI,ae,aa,af,ac,aa,ai] [tI] ⟨21,.any::.fn 131 [(0,0)]::aN 7 [.con ag,.con tI,.var tI],[bP]⟩ [(.ret,⟨21,[.any,.fn 131 [(0,0)],.any,.any,.var am,.var .bool,.any,.any,.any,.con ag,.con tI],[bP]⟩,[am,.bool]),(.exit 0,⟨21,.any::.fn 131 [(0,0)]::aN 7 [.con ag,.con tI],[bP]⟩,[])]
def rl (ρ:Type):é ρ:=⟨[1,3],69,0,Fg,fun(p:Val (.pair ag aP)) (v:Int) b a=>let A:=p.2.2.2.2;wy p.1 p.2.1 p.2.2.1 p.2.2.2.1 A.1 A.2.1 A.2.2.1 A.2.2.2.1 A.2.2.2.2.1 A.2.2.2.2.2 v (fun c=>b c) (a 0) (a 1)⟩
def xY (ρ:Type):Env ρ:=Ö [(58,Af),(67,qT)] [rl ρ]
def XR:ì:=⟨[Ä],[am,tI],fun(x:a8)=>ZO x⟩
def abf (ρ:Type):Env ρ:=Ö [(16,ŭ),(59,oA)] []
def Yg:ì:=⟨[È,Æ],[tI,tI],fun(x:Val bc)=>Hj x.1 x.2⟩
def abw (ρ:Type):Env ρ:=Ö [(54,mT),(118,EH),(214,œ)] []
def acZ:ì:=⟨[È,Æ],[È,tI],fun(x:Val bc)=>adS x.1 x.2⟩
def GC:Å:=Ls 6 [tI,tI,tI,ae,aa,af,ac,aa,tI,tI,tI,tI,tI,tI,ae,aa,af,ac,aa,tI,tI,tI,tI,ac,tI,tI,ae,aa,af,aa] [tI,ac] ⟨50,.any::.box 6 0::.box 7 0::.own 8::aN 21 [.own 8,.con tI,.var tI],cX⟩ [(.exit 0,⟨50,.any::.box 6 0::.box 7 0::.own 8::aN 21 [.own 8,.con tI],cX⟩,[ac])]
def GB (ρ:Type):é ρ:=⟨[1,2,4,1],252,0,GC,fun(p:Val (tyL GC.cs)) (v:Val aU) a b=>PC p.1 v.1 v.2 (fun c d=>a (c,d)) (b 0)⟩
def Uh (ρ:Type):Env ρ:=Ö [(54,mT)] [GB ρ]
def X7:ì:=⟨[Ý,ab],[tI],fun(x:Val (.pair Ý ab))=>ZR x.1 x.2⟩
def RO:Å:=Ls 0 [ab,tI,tI,ak] [tI] ⟨37,aN 2 (.box 0 0::aN 16 [.con ab,.con tI,.var tI]),[b7]⟩ [(.ret,⟨37,aN 2 (.box 0 0::.any::.var tI::aN 14 [.con ab,.con tI]),[b7]⟩,[tI]),(.exit 0,⟨37,aN 2 (.box 0 0::aN 16 [.con ab,.con tI]),[b7]⟩,[])]
def Cl (ρ:Type):é ρ:=⟨[],216,0,RO,fun(p:Val (.pair ab ba)) (v:Int) b a=>JP p.1 p.2.1 p.2.2.1 p.2.2.2 v (fun c=>b c) (a 0) (a 1)⟩
def OT (ρ:Type):Env ρ:=Ö [(148,xF),(149,qU),(224,Vj)] [Cl ρ]
def Tt:ì:=⟨[Ý,ay,tI],[ab],fun(x:Val (.pair Ý (.pair ay tI)))=>IQ x.1 x.2.1 x.2.2⟩
def zu:Å:=Ls 0 [ay,tI,tI,tI,ak] [tI,ab] ⟨29,.any::.con ay::.con tI::.box 0 0::aN 3 (.own 1::aN 5 [.con tI,.var tI]),[b7,.rowv tI]⟩ [(.exit 0,⟨29,.any::.con ay::.con tI::.box 0 0::aN 3 (.own 1::aN 5 [.con tI]),[b7,.rowv tI]⟩,[ab])]
def zr (ρ:Type):é ρ:=⟨[],267,0,zu,fun(p:Val (tyL zu.cs)) (v:dy) a b=>F9 p.2.2.1 v.1 v.2 (fun c d=>a (c,d)) (b 0)⟩
def zq:Å:=Ls 2 [ay,ak,tI,tI,ak,ab,tI,ak,aB,ab] [tI,tI] ⟨140,.any::.con ay::.own 1::.box 2 0::aN 3 (.box 3 0::.own 4::.own 5::.var tI::aN 14 [.con ak,.con tI,.var tI]),[b7,.rowc tI,b7,.cells [.nils],.rowc .bool,.rowc tI]⟩ [(.exit 0,⟨140,.any::.con ay::.own 1::.box 2 0::aN 3 (.box 3 0::.own 4::.own 5::.var tI::aN 14 [.con ak,.con tI]),[b7,.rowc tI,b7,.cells [.nils],.rowc .bool,.rowc tI]⟩,[tI])]
def zp (ρ:Type):é ρ:=⟨[8,3],225,0,zq,fun(p:Val (tyL zq.cs)) (v:bx) a b=>F8 p.2.1 p.2.2.1 v.1 v.2 (fun c d=>a (c,d)) (b 0)⟩
def zo:Å:=Ls 2 [ay,tI,tI,tI,ak,ab,tI,ak,ab] [tI,aB,ab] ⟨140,.any::.con ay::.own 1::.box 2 0::aN 3 (.box 3 0::.own 4::.own 5::.con tI::aN 27 [.con tI,.var tI]),cQ⟩ [(.exit 2,⟨140,.any::.con ay::.own 1::.box 2 0::aN 3 (.box 3 0::.own 4::.own 5::.con tI::aN 27 [.con tI]),cQ⟩,[aB,ab])]
def zn (ρ:Type):é ρ:=⟨[8,3],225,2,zo,fun(p:Val (tyL zo.cs)) (v:nn) a b=>F7 p.2.2.1 p.2.2.2.2.2.1 v.1 v.2.1 v.2.2 (fun c d e=>a (c,d,e)) (b 0)⟩
def zl:Å:=Ls 2 [ay,tI,tI,ak,tI,tI,ak,tI,ak,ab] [tI,ab,aB,ab] ⟨140,.any::.con ay::.own 1::.box 2 0::aN 3 (.box 3 0::.own 4::.own 5::.con tI::aN 3 (.con tI::aN 62 [.con ak,.con tI,.var tI])),cR⟩ [(.ret,⟨140,.any::.con ay::.own 1::.box 2 0::aN 2 (.var .bool::.box 3 0::.own 4::.own 5::.con tI::aN 3 (.con tI::aN 62 [.con ak,.con tI])),cR⟩,[.bool,ab,aB,ab]),(.exit 6,⟨140,.any::.con ay::.own 1::.box 2 0::aN 3 (.box 3 0::.own 4::.own 5::.con tI::aN 3 (.con tI::aN 62 [.con ak,.con tI])),cR⟩,[ab,aB,ab])]
def zk (ρ:Type):é ρ:=⟨[8,3],225,6,zl,fun(p:Val (tyL zl.cs)) (v:gV) b a=>F5 p.1 p.2.1 p.2.2.1 p.2.2.2.1 p.2.2.2.2.1 v.1 v.2.1 v.2.2.1 v.2.2.2 (fun c d e f=>b (c,d,e,f)) (a 0) (a 1)⟩
def OQ:Å:=Ls 2 [ay,tI,tI,ak,tI,ak] [ab,aB,ab,ab] ⟨140,[.any,.con ay,.own 1,.box 2 0,.any,.any,.any,.box 3 0,.own 4,.own 5,.con tI],cS⟩ [(.ret,⟨140,[.any,.con ay,.own 1,.box 2 0,.any,.any,.var .bool,.box 3 0,.own 4,.own 5,.con tI],cS⟩,[.bool,ab,aB,ab,ab])]
def zm (ρ:Type):é ρ:=⟨[8,3],225,4,OQ,fun(p:Val (.pair ay bH)) (v:Val br) a b=>F6 p.1 p.2.1 p.2.2.2.2.1 p.2.2.2.2.2 v.1 v.2.1 v.2.2.1 v.2.2.2 (fun c d e f=>a (c,d,e,f)) (b 0)⟩
def iS (ρ:Type):Env ρ:=Ö [] [zr ρ,zp ρ,zn ρ,zk ρ,zm ρ]
def X8:ì:=⟨[Ý],[aa,tI],fun(x:fy)=>Qb x⟩
def RQ:Å:=Ls 1 [ab,tI,tI,ak,tI,ak] [tI,ab] ⟨28,.any::.box 1 0::aN 2 (.con ab::.own 2::aN 7 [.con tI,.var tI]),[b7,b7,.rowv tI]⟩ [(.exit 0,⟨28,.any::.box 1 0::aN 2 (.con ab::.own 2::aN 7 [.con tI]),[b7,b7,.rowv tI]⟩,[ab])]
def Cn (ρ:Type):é ρ:=⟨[4,1],217,0,RQ,fun(p:Val (.pair ab bH)) (v:dy) a b=>JR p.2.1 p.2.2.2.2.1 p.2.2.2.2.2 v.1 v.2 (fun c d=>a (c,d)) (b 0)⟩
def RP:Å:=Ls 0 [ab,tI,ab] [tI,aa] ⟨39,aN 5 (.con ab::.own 0::.own 1::aN 12 [.con tI,.var tI]),[.rowc tI,.rowv Æ]⟩ [(.exit 0,⟨39,aN 5 (.con ab::.own 0::.own 1::aN 12 [.con tI]),[.rowc tI,.rowv Æ]⟩,[aa])]
def Cm (ρ:Type):é ρ:=⟨[],134,0,RP,fun(p:Val bo) (v:kW) a b=>JQ p.1 p.2.1 p.2.2 v.1 v.2 (fun c d=>a (c,d)) (b 0)⟩
def DM (ρ:Type):Env ρ:=Ö [(216,X7),(267,Tt)] [Cn ρ,Cm ρ]
def Tc:ì:=⟨[È,Æ],[Æ,tI],fun(x:Val bc)=>Uz x.1 x.2⟩
def Yz (ρ:Type):Env ρ:=Ö [(76,tj),(132,Yg),(133,acZ),(134,X8)] []
def Tf:ì:=⟨[Ä,tI,tI],[ak,tI],fun(x:Val (.pair Ä Æ))=>UA x.1 x.2.1 x.2.2⟩
def yo:Å:=Ls 0 [tI,tI,ag,tI,tI,tI,ae,aa,af,ac,aa,ai] [tI,aY] ⟨113,.any::.con tI::.con tI::.box 0 0::aN 7 (.omp 1::aN 30 [.con ag,.con tI,.var tI]),[bP,.mapv tI Æ]⟩ [(.ret,⟨113,.any::.con tI::.con tI::.box 0 0::aN 2 (.nils::.var tI::aN 3 (.omp 1::aN 30 [.con ag,.con tI])),[bP,.mapv tI Æ]⟩,[tI,aY]),(.exit 0,⟨113,.any::.con tI::.con tI::.box 0 0::aN 7 (.omp 1::aN 30 [.con ag,.con tI]),[bP,.mapv tI Æ]⟩,[aY])]
def yn (ρ:Type):é ρ:=⟨[],21,0,yo,fun(p:Val (tyL yo.cs)) (v:Val (.pair tI aY)) b a=>let A:=p.2.2.2.2;let B:=A.2.2.2.2;Fy p.1 p.2.1 p.2.2.1 p.2.2.2.1 A.1 A.2.1 A.2.2.1 A.2.2.2.1 B.1 B.2.1 B.2.2.1 B.2.2.2 v.1 v.2 (fun c d=>b (c,d)) (a 0) (a 1)⟩
def ym:Å:=Ls 0 [ae,tI,aY] [tI,ak] ⟨113,aN 11 (.omp 0::aN 7 (.own 1::aN 70 [.con ae,.con tI,.var tI])),[.mapc tI Æ,.rowv Ę]⟩ [(.exit 2,⟨113,aN 11 (.omp 0::aN 7 (.own 1::aN 70 [.con ae,.con tI])),[.mapc tI Æ,.rowv Ę]⟩,[ak])]
def yl (ρ:Type):é ρ:=⟨[],21,2,ym,fun(p:Val (tyL ym.cs)) (v:fy) a b=>Fx p.1 p.2.1 p.2.2 v.1 v.2 (fun c d=>a (c,d)) (b 0)⟩
def yp (ρ:Type):Env ρ:=Ö [(16,ŭ),(38,Vg),(41,MM),(44,Ez),(60,Tc),(61,lf)] [yn ρ,yl ρ]
variable [LC]
def Vf:ì:=⟨[Ä,ab],[Ä],fun(x:ni)=>L8 x.1 x.2⟩
def E8:Å:=Ls 7 [tI,tI,tI,ae,aa,af,ac,aa,ai,ab,tI,tI,tI,tI,ae,aa,af,ac,aa,ai,tI,tI,ac] [tI] ⟨19,.own 6::.fn 144 [(4,0)]::aN 5 [.con tI,.var tI],cY⟩ [(.ret,⟨19,[.own 6,.fn 144 [(4,0)],.any,.any,.var tI,.any,.any,.con tI],cY⟩,[tI]),(.exit 0,⟨19,.own 6::.fn 144 [(4,0)]::aN 5 [.con tI],cY⟩,[])]
def E7 (ρ:Type):é ρ:=⟨[1,2,1,5,1,2],140,0,E8,fun(p:Val (tyL E8.cs)) (v:Int) b a=>Nh p.1 p.2.2.2.2.2.2.2.2.2.1 p.2.2.2.2.2.2.2.2.2.2.2.2.2.2.2.2.2.2.2.2.2.2 v (fun c=>b c) (a 0) (a 1)⟩
def E6:Å:=Ls 7 [tI,tI,ae,aa,af,ac,aa,ai,ab,tI,tI,tI,tI,ae,aa,af,ac,aa,ai,tI,tI] [tI,tI,ac] ⟨42,[.own 6,.fn 144 [(4,0)],.any,.any,.any,.var tI,.var tI],[bP,bJ,cg,bP,ci,cg,.rowv Ò]⟩ [(.exit 0,⟨42,[.own 6,.fn 144 [(4,0)],.any,.any,.any,.var tI],[bP,bJ,cg,bP,ci,cg,.rowv Ò]⟩,[tI,ac])]
def E5 (ρ:Type):é ρ:=⟨[1,2,1,5],142,0,E6,fun(p:Val (tyL E6.cs)) (v:im) a b=>Ng p.2.2.2.2.2.2.2.2.1 v.1 v.2.1 v.2.2 (fun c d e=>a (c,d,e)) (b 0)⟩
def Ai (ρ:Type):Env ρ:=Ö [(75,Ħ)] [E7 ρ,E5 ρ]
def acL:ì:=⟨[Ä],[ab,tI],fun(x:a8)=>adM x⟩
def VJ:Å:=Ls 0 [ac,tI,tI,tI,ae,aa,af,ac,aa,ai] [tI,ab] ⟨66,.any::.box 0 0::aN 5 (.own 1::aN 19 [.con ac,.con tI,.var tI]),[bP,.rowv tI]⟩ [(.exit 0,⟨66,.any::.box 0 0::aN 5 (.own 1::aN 19 [.con ac,.con tI]),[bP,.rowv tI]⟩,[ab])]
def FA (ρ:Type):é ρ:=⟨[],22,0,VJ,fun(p:Val (.pair ac aP)) (v:dy) a b=>NQ p.1 p.2.1 v.1 v.2 (fun c d=>a (c,d)) (b 0)⟩
def VI:Å:=Ls 0 [tI,tI,ae,aa,af,ac,aa,ai] [ab,tI] ⟨66,.any::.box 0 0::aN 5 [.var ab,.any,.any,.var tI],[bP]⟩ [(.exit 2,⟨66,.any::.box 0 0::aN 5 [.var ab],[bP]⟩,[ab])]
def Fz (ρ:Type):é ρ:=⟨[],22,2,VI,fun(p:lw) (v:kw) a b=>let A:=p.2.2.2.2;NP p.1 p.2.1 p.2.2.1 p.2.2.2.1 A.1 A.2.1 A.2.2.1 A.2.2.2 v.1 v.2 (fun c d=>a (c,d)) (b 0)⟩
def H7 (ρ:Type):Env ρ:=Ö [(16,ŭ),(59,oA),(62,iH),(63,Vf)] [FA ρ,Fz ρ]
def Te:ì:=⟨[ab,tI],[ab],fun(x:kw)=>pw x.1 x.2⟩
def NC:Å:=Ls 0 [tI,ab,tI] [tI,ab] ⟨26,[.any,.con tI,.any,.any,.any,.own 0,.any,.any,.con ab,.con tI,.var tI],cF⟩ [(.exit 0,⟨26,[.any,.con tI,.any,.any,.any,.own 0,.any,.any,.con ab,.con tI],cF⟩,[ab])]
def yd (ρ:Type):é ρ:=⟨[],68,0,NC,fun(p:Val (.pair tI aL)) (v:dy) a b=>Fk p.1 p.2.1 p.2.2 v.1 v.2 (fun c d=>a (c,d)) (b 0)⟩
def JC (ρ:Type):Env ρ:=Ö [] [yd ρ]
def Jk:ì:=⟨[Ä,ab],[ab,tI],fun(x:ni)=>J9 x.1 x.2⟩
def tR:Å:=Ls 3 [ac,tI,tI,tI,ae,aa,af,ac,aa,ai,ab,tI] [tI] ⟨19,.con ac::.fn 65 [(2,0)]::aN 5 [.con tI,.var tI],[bP,bJ,bN]⟩ [(.ret,⟨19,[.con ac,.fn 65 [(2,0)],.any,.any,.var tI,.any,.any,.con tI],[bP,bJ,bN]⟩,[tI]),(.exit 0,⟨19,.con ac::.fn 65 [(2,0)]::aN 5 [.con tI],[bP,bJ,bN]⟩,[])]
def tQ (ρ:Type):é ρ:=⟨[9,4,1,2],140,0,tR,fun(p:Val (tyL tR.cs)) (v:Int) b a=>yi p.1 p.2.1 p.2.2.2.2.2.2.2.2.2.2.2 v (fun c=>b c) (a 0) (a 1)⟩
def tT:Å:=Ls 0 [ab,tI,tI,tI,ae,aa,af,ac,aa,ai,ab] [tI] ⟨135,aN 2 (.box 0 0::.box 1 0::aN 28 [.con ab,.con tI,.var tI]),[bP,bJ]⟩ [(.ret,⟨135,aN 2 (.box 0 0::.box 1 0::.nils::.var tI::aN 26 [.con ab,.con tI]),[bP,bJ]⟩,[tI]),(.exit 0,⟨135,aN 2 (.box 0 0::.box 1 0::aN 28 [.con ab,.con tI]),[bP,bJ]⟩,[])]
def tS (ρ:Type):é ρ:=⟨[],23,0,tT,fun(p:Val (tyL tT.cs)) (v:Int) b a=>yj p.1 p.2.1 p.2.2.2.2.2.2.2.1 v (fun c=>b c) (a 0) (a 1)⟩
def tP:Å:=Ls 0 [tI,tI,ae,aa,af,ac,aa,ai,ab] [tI] ⟨135,aN 2 (.box 0 0::.box 1 0::aN 5 [.var tI]),[bP,bJ]⟩ [(.ret,⟨135,[.any,.any,.box 0 0,.box 1 0,.nils,.var tI],[bP,bJ]⟩,[tI]),(.exit 2,⟨135,[.any,.any,.box 0 0,.box 1 0],[bP,bJ]⟩,[])]
def tO (ρ:Type):é ρ:=⟨[],23,2,tP,fun(p:Val (tyL tP.cs)) (v:Int) b a=>yh p.2.2.2.2.2.2.2.2 v (fun c=>b c) (a 0) (a 1)⟩
def tN:Å:=Ls 4 [ag,tI,tI,tI,ae,aa,af,ac,aa,ai,ab,tI] [tI] ⟨21,.any::.fn 70 [(3,0),(2,0)]::aN 7 [.con ag,.con tI,.var tI],[bP,bJ,bN,cj]⟩ [(.ret,⟨21,[.any,.fn 70 [(3,0),(2,0)],.any,.any,.var am,.var .bool,.any,.any,.any,.con ag,.con tI],[bP,bJ,bN,cj]⟩,[am,.bool]),(.exit 0,⟨21,.any::.fn 70 [(3,0),(2,0)]::aN 7 [.con ag,.con tI],[bP,bJ,bN,cj]⟩,[])]
def tM (ρ:Type):é ρ:=⟨[21,2],69,0,tN,fun(p:Val (tyL tN.cs)) (v:Int) b a=>let A:=p.2.2.2.2;let B:=A.2.2.2.2;yf p.1 p.2.1 p.2.2.1 p.2.2.2.1 A.1 A.2.1 A.2.2.1 A.2.2.2.1 B.1 B.2.1 B.2.2.1 B.2.2.2 v (fun c=>b c) (a 0) (a 1)⟩
def tG:Å:=Ls 4 [ab,ab,ab,tI,ab,ab,tI,tI,ae,aa,af,ac,aa,ai] [tI] ⟨36,.con ab::.con ab::aN 7 [.con ab,.con tI,.var tI],cZ⟩ [(.ret,⟨36,.con ab::.con ab::aN 2 (.var tI::aN 4 [.con ab,.con tI]),cZ⟩,[tI]),(.exit 0,⟨36,.con ab::.con ab::aN 7 [.con ab,.con tI],cZ⟩,[])]
def tF (ρ:Type):é ρ:=⟨[29,14],71,0,tG,fun(p:Val (tyL tG.cs)) (v:Int) b a=>ye p.2.1 p.2.2.1 p.2.2.2.1 v (fun c=>b c) (a 0) (a 1)⟩
def tE:Å:=Ls 0 [ag,ab,tI,tI,ab,tI,tI,tI,ab,ab,tI,tI,ae,aa,af,ac,aa,ai] [tI] ⟨135,aN 3 (.box 0 0::aN 6 (.con ag::.any::.box 1 0::.own 2::aN 2 (.con ab::.con tI::.con tI::.con ab::aN 57 (.con tI::.con tI::aN 23 [.own 2,.con tI,.var tI])))),cZ⟩ [(.exit 5,⟨135,aN 3 (.box 0 0::aN 6 (.con ag::.any::.box 1 0::.own 2::aN 2 (.con ab::.con tI::.con tI::.con ab::aN 57 (.con tI::.con tI::aN 23 [.own 2,.con tI])))),cZ⟩,[]),(.exit 6,⟨135,aN 3 (.box 0 0::aN 6 (.con ag::.any::.box 1 0::.own 2::aN 2 (.con ab::.con tI::.con tI::.con ab::aN 57 (.con tI::.con tI::aN 23 [.own 2,.con tI])))),cZ⟩,[])]
def tD (ρ:Type):é ρ:=⟨[],23,6,tE,fun(p:Val (tyL tE.cs)) (v:Int) b a=>lD p.2.2.2.1 p.2.2.2.2.2.2.2.1 p.2.2.2.2.2.2.2.2.2.1 v (fun c=>b c) (a 0) (a 1)⟩
def tC:Å:=Ls 0 [ag,ab,tI,tI,ab,tI,tI,ag,tI,ab,tI,tI,ae,aa,af,ac,aa,ai] [tI,ab] ⟨135,aN 3 (.box 0 0::aN 6 (.con ag::.any::.box 1 0::.own 2::aN 2 (.con ab::.con tI::.con tI::.con ab::aN 57 (.con tI::.con tI::aN 34 [.con ag,.con tI,.var tI])))),dc⟩ [(.exit 5,⟨135,aN 3 (.box 0 0::aN 6 (.con ag::.any::.box 1 0::.own 2::aN 2 (.con ab::.con tI::.con tI::.con ab::aN 57 (.con tI::.con tI::aN 34 [.con ag,.con tI])))),dc⟩,[ab]),(.exit 8,⟨135,aN 3 (.box 0 0::aN 6 (.con ag::.any::.box 1 0::.own 2::aN 2 (.con ab::.con tI::.con tI::.con ab::aN 57 (.con tI::.con tI::aN 34 [.con ag,.con tI])))),dc⟩,[ab])]
def tB (ρ:Type):é ρ:=⟨[],23,8,tC,fun(p:Val (tyL tC.cs)) (v:dy) b a=>let A:=p.2.2.2.2.2.2.2;let B:=A.2.2.2.2;let C:=B.2.2.2.2;lC p.2.2.2.1 A.1 A.2.1 A.2.2.1 A.2.2.2.1 B.1 B.2.1 B.2.2.1 B.2.2.2.1 C.1 C.2.1 C.2.2 v.1 v.2 (fun c d=>b (c,d)) (a 0) (a 1)⟩
def tK:Å:=Ls 0 [ag,tI,ab,tI,tI,ae,aa,af,ac,aa,ai] [ab,tI,tI,ab] ⟨135,aN 3 (.box 0 0::aN 6 (.con ag::.any::.box 1 0::.own 2::aN 2 (.var ab::.var tI::aN 59 [.con tI,.var tI]))),dc⟩ [(.exit 4,⟨135,aN 3 (.box 0 0::aN 6 (.con ag::.any::.box 1 0::.own 2::aN 3 (.var tI::aN 59 [.con tI]))),dc⟩,[tI,ab])]
def tJ (ρ:Type):é ρ:=⟨[],23,4,tK,fun(p:Val (tyL tK.cs)) (v:Val (.pair ab bm)) a b=>let A:=p.2.2.2.2;let B:=A.2.2.2.2;pP p.1 p.2.1 p.2.2.1 p.2.2.2.1 A.1 A.2.1 A.2.2.1 A.2.2.2.1 B.1 B.2.1 B.2.2 v.1 v.2.1 v.2.2.1 v.2.2.2 (fun c d e f=>a (c,d,e,f)) (b 0)⟩
def ğ (ρ:Type):Env ρ:=Ö [(16,ŭ),(58,Af),(63,Vf),(67,qT),(68,Te),(129,ml)] [tQ ρ,tS ρ,tO ρ,tM ρ,tF ρ,tD ρ,tB ρ,tJ ρ]
def Tv:ì:=⟨[ab,ab],[ab,ab,tI],fun(x:lx)=>IR x.1 x.2⟩
def Zl (ρ:Type):Env ρ:=Ö [(145,HX),(146,EI)] []
def EA:ì:=⟨[Ä,tI],[.bool,tI],fun(x:Val bw)=>G4 x.1 x.2⟩
def ru:Å:=Ls 6 [tI,tI,tI,ae,aa,af,ac,aa,ai,tI,tI,tI,ae,aa,af,ac,aa,ai,tI,tI,ac] [tI] ⟨19,.own 5::.fn 144 [(3,0)]::aN 5 [.con tI,.var tI],de⟩ [(.ret,⟨19,[.own 5,.fn 144 [(3,0)],.any,.any,.var tI,.any,.any,.con tI],de⟩,[tI]),(.exit 0,⟨19,.own 5::.fn 144 [(3,0)]::aN 5 [.con tI],de⟩,[])]
def rt (ρ:Type):é ρ:=⟨[7,2,1,5,1,2],140,0,ru,fun(p:Val (tyL ru.cs)) (v:Int) b a=>wA p.1 p.2.2.2.2.2.2.2.2.2.1 p.2.2.2.2.2.2.2.2.2.2.2.2.2.2.2.2.2.2.2.2 v (fun c=>b c) (a 0) (a 1)⟩
def rr:Å:=Ls 6 [tI,tI,ae,aa,af,ac,aa,ai,tI,tI,tI,ae,aa,af,ac,aa,ai,tI,tI] [tI,tI,ac] ⟨42,[.own 5,.fn 144 [(3,0)],.any,.any,.any,.var tI,.var tI],[bP,bN,bP,cn,cg,.rowv Ò]⟩ [(.exit 0,⟨42,[.own 5,.fn 144 [(3,0)],.any,.any,.any,.var tI],[bP,bN,bP,cn,cg,.rowv Ò]⟩,[tI,ac])]
def rq (ρ:Type):é ρ:=⟨[7,2,1,5],142,0,rr,fun(p:Val (tyL rr.cs)) (v:im) a b=>wz p.2.2.2.2.2.2.2.2.1 v.1 v.2.1 v.2.2 (fun c d e=>a (c,d,e)) (b 0)⟩
def lB (ρ:Type):Env ρ:=Ö [(16,ŭ),(44,Ez),(59,oA),(74,Tv),(75,Ħ)] [rt ρ,rq ρ]
def X6:ì:=⟨[Ý,tI,tI],[am],fun(x:Val (.pair Ý Æ))=>ZQ x.1 x.2.1 x.2.2⟩
def Ua:Å:=Ls 0 [tI,tI,tI,tI,ak] [tI,ab] ⟨45,.any::.con tI::.con tI::.box 0 0::aN 3 (.own 1::aN 7 [.con tI,.var tI]),[b7,.rowv tI]⟩ [(.exit 0,⟨45,.any::.con tI::.con tI::.box 0 0::aN 3 (.own 1::aN 7 [.con tI]),[b7,.rowv tI]⟩,[ab])]
def T9 (ρ:Type):é ρ:=⟨[],150,0,Ua,fun(p:Val (tyL Ua.cs)) (v:dy) a b=>adn p.2.2.1 v.1 v.2 (fun c d=>a (c,d)) (b 0)⟩
def T7:Å:=Ls 4 [ab,tI,am,tI,ak] [tI,ab] ⟨53,.con ab::.box 1 0::aN 2 (.own 4::aN 7 [.con tI,.var tI]),df⟩ [(.exit 0,⟨53,.con ab::.box 1 0::aN 2 (.own 4::aN 7 [.con tI]),df⟩,[ab])]
def T6 (ρ:Type):é ρ:=⟨[12,8],226,0,T7,fun(p:Val (tyL T7.cs)) (v:dy) a b=>adl p.2.1 v.1 v.2 (fun c d=>a (c,d)) (b 0)⟩
def T5:Å:=Ls 4 [ab,ak,tI,am,tI,ak] [tI,ab] ⟨53,.con ab::aN 3 (.own 4::aN 16 [.con ak,.con tI,.var tI]),df⟩ [(.exit 2,⟨53,.con ab::aN 3 (.own 4::aN 16 [.con ak,.con tI]),df⟩,[ab])]
def T4 (ρ:Type):é ρ:=⟨[12,8],226,2,T5,fun(p:Val (tyL T5.cs)) (v:dy) a b=>adk p.1 p.2.1 p.2.2.1 v.1 v.2 (fun c d=>a (c,d)) (b 0)⟩
def ae9:Å:=Ls 0 [tI,tI,ak] [tI,am] ⟨45,aN 9 (.own 0::.fn 226 [(1,0)]::aN 18 [.con tI,.var tI]),[.rowv ab,b7]⟩ [(.exit 2,⟨45,aN 9 (.own 0::.fn 226 [(1,0)]::aN 18 [.con tI]),[.rowv ab,b7]⟩,[am])]
def T8 (ρ:Type):é ρ:=⟨[],150,2,ae9,fun(p:Val ba) (v:Val bz) a b=>adm p.1 p.2.1 p.2.2 v.1 v.2 (fun c d=>a (c,d)) (b 0)⟩
def OP (ρ:Type):Env ρ:=Ö [] [T9 ρ,T6 ρ,T4 ρ,T8 ρ]
def X9:ì:=⟨[Ý],[ab,tI],fun(x:fy)=>ZS x⟩
def RU:Å:=Ls 0 [tI,tI,ak] [tI,ag] ⟨93,.any::.box 0 0::aN 6 (.own 1::aN 24 [.con tI,.var tI]),[b7,.rowv am]⟩ [(.exit 0,⟨93,.any::.box 0 0::aN 6 (.own 1::aN 24 [.con tI]),[b7,.rowv am]⟩,[ag])]
def Cw (ρ:Type):é ρ:=⟨[],77,0,RU,fun(p:Val ba) (v:gx) a b=>JW p.1 p.2.1 p.2.2 v.1 v.2 (fun c d=>a (c,d)) (b 0)⟩
def Cp:Å:=Ls 3 [tI,am,ak,tI,tI,ak,ag,tI,tI,tI,tI,ak] [tI,tI,tI,ab] ⟨73,.any::.var tI::.con tI::.con am::.fn 151 []::.box 3 0::aN 5 (.own 4::.var tI::aN 7 [.con ak,.con tI,.var tI]),dg⟩ [(.exit 2,⟨73,.any::.var tI::.con tI::.con am::.fn 151 []::.box 3 0::aN 5 (.own 4::.var tI::aN 7 [.con ak,.con tI]),dg⟩,[tI,tI,ab])]
def Co (ρ:Type):é ρ:=⟨[22,10],152,2,Cp,fun(p:Val (tyL Cp.cs)) (v:pi) a b=>JS p.1 p.2.1 p.2.2.1 p.2.2.2.1 v.1 v.2.1 v.2.2.1 v.2.2.2 (fun c d e f=>a (c,d,e,f)) (b 0)⟩
def Cr:Å:=Ls 3 [am,tI,ak,ag,tI,tI,tI,tI,ak] [tI,tI,tI,ab] ⟨73,.any::.var tI::.var tI::.con am::.fn 151 []::.box 3 0::aN 5 [.own 4,.var tI],dg⟩ [(.exit 0,⟨73,aN 3 (.con am::.fn 151 []::.box 3 0::aN 5 [.own 4]),dg⟩,[ab])]
def Cq (ρ:Type):é ρ:=⟨[22,10],152,0,Cr,fun(p:Val (tyL Cr.cs)) (v:pi) a b=>JT p.1 p.2.2.2.2.2.2.2.2 v.1 v.2.1 v.2.2.1 v.2.2.2 (fun c d e f=>a (c,d,e,f)) (b 0)⟩
def Ct:Å:=Ls 0 [tI,ak,tI,tI,ak,ag] [tI] ⟨93,.any::.box 0 0::aN 6 (.own 1::.any::.fn 151 []::.con tI::aN 37 [.con ak,.con tI,.var tI]),[b7,.rowc am]⟩ [(.exit 2,⟨93,.any::.box 0 0::aN 6 (.own 1::.any::.fn 151 []::.con tI::aN 37 [.con ak,.con tI]),[b7,.rowc am]⟩,[]),(.ret,⟨93,.any::.box 0 0::.own 2::.var tI::aN 4 (.own 1::.any::.fn 151 []::.con tI::aN 37 [.con ak,.con tI]),[b7,.rowc am,.rowv tI]⟩,[tI,ab]),(.exit 4,⟨93,.any::.box 0 0::aN 6 (.own 1::.any::.fn 151 []::.con tI::aN 37 [.con ak,.con tI]),[b7,.rowc am]⟩,[])]
def Cs (ρ:Type):é ρ:=⟨[],77,4,Ct,fun(p:Val (tyL Ct.cs)) (v:Int) b a=>JU p.1 p.2.1 p.2.2.1 p.2.2.2.1 p.2.2.2.2.1 p.2.2.2.2.2 v (fun c=>b c) (a 0) (a 1) (a 2)⟩
def Cv:Å:=Ls 0 [tI,ak,ag] [tI] ⟨93,.any::.box 0 0::aN 6 [.own 1,.any,.fn 151 [],.var tI],[b7,.rowc am]⟩ [(.exit 2,⟨93,.any::.box 0 0::aN 6 [.own 1,.any,.fn 151 []],[b7,.rowc am]⟩,[]),(.ret,⟨93,.any::.box 0 0::.own 2::.var tI::aN 4 [.own 1,.any,.fn 151 []],[b7,.rowc am,.rowv tI]⟩,[tI,ab])]
def Cu (ρ:Type):é ρ:=⟨[],77,2,Cv,fun(p:Val (tyL Cv.cs)) (v:Int) b a=>JV p.1 p.2.1 p.2.2 v (fun c=>b c) (a 0) (a 1)⟩
def mw (ρ:Type):Env ρ:=Ö [(148,xF),(149,qU),(150,X6)] [Cw ρ,Co ρ,Cq ρ,Cs ρ,Cu ρ]
def XP:ì:=⟨[Ä],[am,tI],fun(x:a8)=>ZN x⟩
def Rg:Å:=Ls 0 [ag,tI,tI,tI,ae,aa,af,ac,aa,ai] [tI,am] ⟨46,.any::.box 0 0::aN 3 (.own 1::aN 13 [.con ag,.con tI,.var tI]),[bP,.rowv ab]⟩ [(.ret,⟨46,.any::.box 0 0::.nils::.var tI::.any::.own 1::aN 13 [.con ag,.con tI],[bP,.rowv ab]⟩,[tI,am]),(.exit 0,⟨46,.any::.box 0 0::aN 3 (.own 1::aN 13 [.con ag,.con tI]),[bP,.rowv ab]⟩,[am])]
def BO (ρ:Type):é ρ:=⟨[],25,0,Rg,fun(p:Val (.pair ag aP)) (v:Val bz) b a=>let A:=p.2.2.2.2;JE p.1 p.2.1 p.2.2.1 p.2.2.2.1 A.1 A.2.1 A.2.2.1 A.2.2.2.1 A.2.2.2.2.1 A.2.2.2.2.2 v.1 v.2 (fun c d=>b (c,d)) (a 0) (a 1)⟩
def NE (ρ:Type):Env ρ:=Ö [(16,ŭ),(58,Af),(61,lf),(76,tj),(77,X9)] [BO ρ]
def MQ:ì:=⟨[Ý,ab],[tI],fun(x:Val (.pair Ý ab))=>Qa x.1 x.2⟩
def Le:Å:=Ls 1 [ab,tI,tI,ak] [tI] ⟨19,.con ab::.fn 227 [(0,0)]::aN 5 [.con tI,.var tI],[b7]⟩ [(.ret,⟨19,[.con ab,.fn 227 [(0,0)],.any,.any,.var tI,.any,.any,.con tI],[b7]⟩,[tI]),(.exit 0,⟨19,.con ab::.fn 227 [(0,0)]::aN 5 [.con tI],[b7]⟩,[])]
def wG (ρ:Type):é ρ:=⟨[3,2,1,2],208,0,Le,fun(p:Val (.pair ab ba)) (v:Int) b a=>Ck p.1 p.2.1 p.2.2.2 v (fun c=>b c) (a 0) (a 1)⟩
def F4 (ρ:Type):Env ρ:=Ö [] [wG ρ]
def acT:ì:=⟨[Ý,tI,ab],[tI,tI,.bool],fun(x:Val (.pair Ý ð))=>adN x.1 x.2.1 x.2.2⟩
def VV:Å:=Ls 0 [ab,tI,tI,ak] [tI,tI,tI] ⟨37,.any::.var tI::.any::.box 0 0::aN 5 [.var tI,.any,.any,.any,.con ab,.con tI,.var tI],[b7]⟩ [(.ret,⟨37,aN 3 (.box 0 0::aN 2 (.var tI::.var tI::.var .bool::aN 4 [.con ab,.con tI])),[b7]⟩,[tI,tI,.bool]),(.exit 0,⟨37,.any::.var tI::.any::.box 0 0::aN 5 [.var tI,.any,.any,.any,.con ab,.con tI],[b7]⟩,[tI,tI])]
def FW (ρ:Type):é ρ:=⟨[],154,0,VV,fun(p:Val (.pair ab ba)) (v:kV) b a=>OO p.1 p.2.1 p.2.2.2 v.1 v.2.1 v.2.2 (fun c d e=>b (c,d,e)) (a 0) (a 1)⟩
def T3 (ρ:Type):Env ρ:=Ö [] [FW ρ]
def BA:ì:=⟨[Ý,ab],[tI],fun(x:Val (.pair Ý ab))=>CU x.1 x.2⟩
def Lm (ρ:Type):Env ρ:=Ö [(148,xF),(153,MQ),(154,acT)] []
def Bw:ì:=⟨[Ä,am],[tI],fun(x:Val bp)=>sW x.1 x.2⟩
def pR:Å:=Ls 0 [am,ag,tI,tI,tI,ae,aa,af,ac,aa,ai] [tI] ⟨47,.any::.con am::.box 0 0::aN 21 [.con ag,.con tI,.var tI],[bP]⟩ [(.ret,⟨47,.any::.con am::.box 0 0::.any::.var tI::aN 19 [.con ag,.con tI],[bP]⟩,[tI]),(.exit 0,⟨47,.any::.con am::.box 0 0::aN 21 [.con ag,.con tI],[bP]⟩,[])]
def pQ (ρ:Type):é ρ:=⟨[],26,0,pR,fun(p:Val (tyL pR.cs)) (v:Int) b a=>let A:=p.2.2.2.2;let B:=A.2.2.2.2;tU p.1 p.2.1 p.2.2.1 p.2.2.2.1 A.1 A.2.1 A.2.2.1 A.2.2.2.1 B.1 B.2.1 B.2.2 v (fun c=>b c) (a 0) (a 1)⟩
def wB (ρ:Type):Env ρ:=Ö [(16,ŭ),(58,Af),(61,lf),(76,tj),(78,BA)] [pQ ρ]
def lh:ì:=⟨[ab,ab],[.bool],fun(x:lx)=>ĸ x.1 x.2⟩
def FQ:Å:=Ls 0 [ab,ab] [tI] ⟨26,[.con ab,.con ab,.any,.any,.any,.var tI],[]⟩ [(.ret,⟨26,[.con ab,.con ab,.any,.any,.var .bool],[]⟩,[.bool]),(.exit 0,⟨26,[.con ab,.con ab],[]⟩,[])]
def rP (ρ:Type):é ρ:=⟨[],28,0,FQ,fun(p:lx) (v:Int) b a=>j7 p.1 p.2 v (fun c=>b c) (a 0) (a 1)⟩
def yI (ρ:Type):Env ρ:=Ö [] [rP ρ]
def Jm:ì:=⟨[am,am],[.bool],fun(x:Val (.pair am am))=>Ka x.1 x.2⟩
def Ia:Å:=Ls 0 [am,am] [tI] ⟨29,[.con am,.con am,.any,.any,.any,.var tI],[]⟩ [(.ret,⟨29,[.con am,.con am,.any,.any,.var .bool],[]⟩,[.bool]),(.exit 0,⟨29,[.con am,.con am],[]⟩,[])]
def ue (ρ:Type):é ρ:=⟨[],27,0,Ia,fun(p:Val (.pair am am)) (v:Int) b a=>yr p.1 p.2 v (fun c=>b c) (a 0) (a 1)⟩
def B0 (ρ:Type):Env ρ:=Ö [(28,lh)] [ue ρ]
def Ey:ì:=⟨[],[.bool],fun(_:Unit)=>vH⟩
def xQ (ρ:Type):Env ρ:=Ö [(10,ag3),(12,ag2),(18,acK),(19,Jj),(20,XR),(21,Tf),(22,acL),(23,Jk),(24,EA),(25,XP),(26,Bw),(27,Jm),(28,lh)] []
def Db:ì:=⟨[],[.bool],fun(_:Unit)=>Đ⟩
def acY:ì:=⟨[.str,ab],[.str],fun(x:Val (.pair .str ab))=>lZ x.1 x.2⟩
def V6:Å:=Ls 0 [ab,tI] [.str,tI] ⟨20,.var .str::aN 6 [.con ab,.con tI,.var tI],[]⟩ [(.exit 0,⟨20,.var .str::aN 6 [.con ab,.con tI],[]⟩,[.str])]
def Gq (ρ:Type):é ρ:=⟨[],88,0,V6,fun(p:kw) (v:ge) a b=>vz p.1 p.2 v.1 v.2 (fun c d=>a (c,d)) (b 0)⟩
def Ud (ρ:Type):Env ρ:=Ö [(37,sF)] [Gq ρ]
def MU:ì:=⟨[È],[.str,tI],fun(x:bA)=>l6 x⟩
def Sw:Å:=Ls 0 [ae,tI,tI,tI,ae,aa,af,ac,aa] [tI,ao] ⟨158,.any::.box 0 0::aN 3 (.own 1::aN 25 [.con ae,.con tI,.var tI]),dh⟩ [(.exit 0,⟨158,.any::.box 0 0::aN 3 (.own 1::aN 25 [.con ae,.con tI]),dh⟩,[ao])]
def CL (ρ:Type):é ρ:=⟨[],36,0,Sw,fun(p:Val (.pair ae bg)) (v:py) a b=>sg p.1 p.2.1 v.1 v.2 (fun c d=>a (c,d)) (b 0)⟩
def Sv:Å:=Ls 0 [aa,tI,tI,tI,ae,aa,af,ac,aa] [tI,ao] ⟨158,.any::.box 0 0::aN 3 (.own 1::aN 58 [.con aa,.con tI,.var tI]),dh⟩ [(.exit 2,⟨158,.any::.box 0 0::aN 3 (.own 1::aN 58 [.con aa,.con tI]),dh⟩,[ao])]
def CJ (ρ:Type):é ρ:=⟨[],36,2,Sv,fun(p:Val (.pair aa bg)) (v:py) a b=>sf p.1 p.2.1 v.1 v.2 (fun c d=>a (c,d)) (b 0)⟩
def Su:Å:=Ls 0 [af,tI,tI,tI,ae,aa,af,ac,aa] [tI,ao] ⟨158,.any::.box 0 0::aN 3 (.own 1::aN 75 [.con af,.con tI,.var tI]),dh⟩ [(.exit 4,⟨158,.any::.box 0 0::aN 3 (.own 1::aN 75 [.con af,.con tI]),dh⟩,[ao])]
def CI (ρ:Type):é ρ:=⟨[],36,4,Su,fun(p:Val (.pair af bg)) (v:py) a b=>se p.1 p.2.1 v.1 v.2 (fun c d=>a (c,d)) (b 0)⟩
def Ss:Å:=Ls 0 [ac,tI,tI,tI,ae,aa,af,ac,aa] [tI,ao] ⟨158,.any::.box 0 0::aN 3 (.own 1::aN 98 [.con ac,.con tI,.var tI]),dh⟩ [(.exit 6,⟨158,.any::.box 0 0::aN 3 (.own 1::aN 98 [.con ac,.con tI]),dh⟩,[ao])]
def CH (ρ:Type):é ρ:=⟨[],36,6,Ss,fun(p:Val (.pair ac bg)) (v:py) a b=>sd p.1 p.2.1 v.1 v.2 (fun c d=>a (c,d)) (b 0)⟩
def Sr:Å:=Ls 0 [aa,tI] [tI,ao] ⟨158,aN 5 (.own 0::aN 133 [.con aa,.con tI,.var tI]),[.rowv .str]⟩ [(.exit 8,⟨158,aN 5 (.own 0::aN 133 [.con aa,.con tI]),[.rowv .str]⟩,[ao])]
def CG (ρ:Type):é ρ:=⟨[],36,8,Sr,fun(p:nj) (v:py) a b=>sc p.1 p.2 v.1 v.2 (fun c d=>a (c,d)) (b 0)⟩
def kq (ρ:Type):Env ρ:=Ö [(54,mT),(88,acY),(89,Bx)] [CL ρ,CJ ρ,CI ρ,CH ρ,CG ρ]
def MN:ì:=⟨[Ä],[.str,tI],fun(x:a8)=>nQ x⟩
def BQ:Å:=Ls 0 [ai,tI,tI,ab,tI] [.str,tI] ⟨55,aN 5 (.var .str::aN 20 (.con ai::.con tI::.con tI::aN 10 [.con ab,.con tI,.var tI])),[]⟩ [(.exit 2,⟨55,aN 5 (.var .str::aN 20 (.con ai::.con tI::.con tI::aN 10 [.con ab,.con tI])),[]⟩,[.str])]
def BP (ρ:Type):é ρ:=⟨[],8,2,BQ,fun(p:Val (tyL BQ.cs)) (v:ge) a b=>mY p.2.2.2.1 p.2.2.2.2 v.1 v.2 (fun c d=>a (c,d)) (b 0)⟩
def Rh:Å:=Ls 0 [ai,tI] [.str,tI] ⟨55,aN 5 (.var .str::aN 20 [.con ai,.con tI,.var tI]),[]⟩ [(.exit 0,⟨55,aN 5 (.var .str::aN 20 [.con ai,.con tI]),[]⟩,[.str])]
def BS (ρ:Type):é ρ:=⟨[],8,0,Rh,fun(p:Val (.pair ai tI)) (v:ge) a b=>mZ p.1 p.2 v.1 v.2 (fun c d=>a (c,d)) (b 0)⟩
def DA (ρ:Type):Env ρ:=Ö [(16,ŭ),(36,MU),(37,sF)] [BP ρ,BS ρ]
def Ž:ì:=⟨[.str,.str],[.bool],fun(x:Val (.pair .str .str))=>Ī x.1 x.2⟩
def la (ρ:Type):Env ρ:=Ö [] []
def pL:ì:=⟨[.str,.str],[.bool],fun(x:Val (.pair .str .str))=>il x.1 x.2⟩
def yq (ρ:Type):Env ρ:=Ö [(79,Ž)] []
def Dh:ì:=⟨[ao],[ab],fun(x:ey)=>ľ x⟩
def Lu:Å:=Ls 0 [ao,tI] [tI,ab] ⟨27,aN 3 (.own 0::aN 4 [.con ao,.con tI,.var tI]),cF⟩ [(.exit 0,⟨27,aN 3 (.own 0::aN 4 [.con ao,.con tI]),cF⟩,[ab])]
def wI (ρ:Type):é ρ:=⟨[],161,0,Lu,fun(p:Val (.pair ao tI)) (v:dy) a b=>mM p.1 p.2 v.1 v.2 (fun c d=>a (c,d)) (b 0)⟩
def RZ:rT (Nat×aaE):=[(35,.atoi)]
def oU (ρ:Type):Env ρ:=TB [] [wI ρ] RZ
def Yc:ì:=⟨[ao],[ab,ab],fun(x:ey)=>Hf x⟩
def CB:Å:=Ls 0 [ao,ao,tI] [tI] ⟨34,.con ao::aN 14 [.con ao,.con tI,.var tI],[]⟩ [(.ret,⟨34,.con ao::.any::.var ab::.var ab::aN 11 [.con ao,.con tI],[]⟩,[ab,ab]),(.exit 0,⟨34,.con ao::aN 14 [.con ao,.con tI],[]⟩,[])]
def CA (ρ:Type):é ρ:=⟨[],167,0,CB,fun(p:Val (tyL CB.cs)) (v:Int) b a=>ny p.1 p.2.1 p.2.2 v (fun c=>b c) (a 0) (a 1)⟩
def Pa (ρ:Type):Env ρ:=Ö [(161,Dh)] [CA ρ]
def Yf:ì:=⟨[.str],[È,tI],fun(x:Val .str)=>qz x⟩
def iC:Tpl:=⟨51,[.con .str,.any,.box 0 0,.box 1 0,.box 2 0,.box 3 0],[.cells [.var tI,.var tI,.var ae,.var aa,.var af,.var ac,.var aa],.cells [.var tI],.cells [.var tI,.var tI,.own 18,.own 19,.own 20,.own 21,.own 22],.cells [.ofn 5],.cells [.box 2 0],.fns [((ByteArray.mk #[102,105,108,109]),160,[(6,0),(7,0)]),((ByteArray.mk #[103,97,117,103,101]),160,[(8,0),(9,0)]),((ByteArray.mk #[117,115,101]),160,[(10,0),(11,0)]),((ByteArray.mk #[108,111,97,110]),160,[(12,0),(13,0)]),((ByteArray.mk #[99,111,109,112,97,114,101]),160,[(14,0),(15,0)]),((ByteArray.mk #[108,111,111,107]),160,[(16,0),(17,0)])],.cells [.con tI],.cells [.fn 162 [(4,0)]],.cells [.con tI],.cells [.fn 163 [(4,0)]],.cells [.con tI],.cells [.fn 164 [(4,0)]],.cells [.con tI],.cells [.fn 165 [(4,0)]],.cells [.con tI],.cells [.fn 166 [(4,0)]],.cells [.con tI],.cells [.fn 168 [(4,0)]],.rowv Ú,.rowv Æ,.rowv Θ,.rowv Ò,.rowv Æ]⟩
def CM:Tpl:=⟨51,[.con .str,.any,.box 0 0,.box 1 0,.box 2 0,.box 3 0],[.cells [.var tI,.var tI,.var ae,.var aa,.var af,.var ac,.var aa],.cells [.var tI],.cells [.any,.any,.any,.any,.any,.any,.any],.cells [.ofn 5],.cells [.box 2 0],.fns [((ByteArray.mk #[102,105,108,109]),160,[(6,0),(7,0)]),((ByteArray.mk #[103,97,117,103,101]),160,[(8,0),(9,0)]),((ByteArray.mk #[117,115,101]),160,[(10,0),(11,0)]),((ByteArray.mk #[108,111,97,110]),160,[(12,0),(13,0)]),((ByteArray.mk #[99,111,109,112,97,114,101]),160,[(14,0),(15,0)]),((ByteArray.mk #[108,111,111,107]),160,[(16,0),(17,0)])],.cells [.con tI],.cells [.fn 162 [(4,0)]],.cells [.con tI],.cells [.fn 163 [(4,0)]],.cells [.con tI],.cells [.fn 164 [(4,0)]],.cells [.con tI],.cells [.fn 165 [(4,0)]],.cells [.con tI],.cells [.fn 166 [(4,0)]],.cells [.con tI],.cells [.fn 168 [(4,0)]]]⟩
def sP (ρ:Type):QR ρ:=⟨[],31,0,18,[.str,tI,tI,tI,tI,tI,tI],[tI,tI,ae,aa,af,ac,aa,tI,tI,tI,ae,aa,af,ac,aa],[tI,tI,ae,aa,af,ac,aa,tI],iC,CM,82,kO,fun(p:rm) (v:rn) y a b=>Â (ŗ p.2.1 p.2.2.1 p.2.2.2.1 p.2.2.2.2.1 p.2.2.2.2.2.1 p.2.2.2.2.2.2 v y) (outX a b)⟩
def J3 (ρ:Type):rT (QR ρ):=[sP ρ]
def ii (ρ:Type):Env ρ:={Ö [(33,xC),(34,jG),(36,MU),(161,Dh),(167,Yc)] [] with ranges:=GH (J3 ρ)}
def XQ:ì:=⟨[.str],[Ä,tI],fun(x:Val .str)=>G5 x⟩
def BV:Å:=Ls 4 [.str,.str,tI,tI,tI,ae,aa,af,ac,aa,tI,tI,ae,aa,af,ac,aa,ao,ai] [tI,tI,tI,ae,aa,af,ac,aa,ai,tI,tI,ab] ⟨100,.con .str::.any::.box 0 0::.box 1 0::aN 5 (.box 3 0::.any::.box 4 0::aN 34 [.con .str,.any,.any,.own 5,.con tI,.var tI]),[ca,.cells [.var tI],bK,cq,.cells [.var tI,.own 7],.rowc .str,.rowc ð,.rowv tI]⟩ [(.ret,⟨100,.con .str::.any::.box 0 0::.box 1 0::aN 5 (.box 3 0::.any::.box 4 0::aN 34 [.con .str,.any,.any,.own 5,.con tI]),[ca,.cells [.var tI],bK,cq,.cells [.var tI,.own 7],.rowc .str,.rowc ð,.rowv tI]⟩,[tI,tI,ae,aa,af,ac,aa,ai,tI,tI,ab]),(.exit 2,⟨100,.con .str::.any::.box 0 0::.box 1 0::aN 5 (.box 3 0::.any::.box 4 0::aN 34 [.con .str,.any,.any,.own 5,.con tI]),[ca,.cells [.var tI],bK,cq,.cells [.var tI,.own 7],.rowc .str,.rowc ð,.rowv tI]⟩,[tI,tI,ae,aa,af,ac,aa,ai,tI,tI,ab])]
def BU (ρ:Type):é ρ:=⟨[],7,2,BV,fun(p:Val (tyL BV.cs)) (v:Val (.pair tI aO)) b a=>kD p.2.2.1 p.2.2.2.2.2.2.2.2.2.2.2.2.2.2.2.2.2.1 v.1 v.2.1 v.2.2.1 v.2.2.2.1 v.2.2.2.2.1 v.2.2.2.2.2.1 v.2.2.2.2.2.2.1 v.2.2.2.2.2.2.2.1 v.2.2.2.2.2.2.2.2.1 v.2.2.2.2.2.2.2.2.2.1 v.2.2.2.2.2.2.2.2.2.2.1 v.2.2.2.2.2.2.2.2.2.2.2 (fun c d e f g h i j k l m n=>b (c,d,e,f,g,h,i,j,k,l,m,n)) (a 0) (a 1)⟩
def iB:Tpl:=⟨100,.con .str::.any::.box 0 0::.box 1 0::aN 5 [.box 3 0],[.cells [.var tI,.var tI,.var ae,.var aa,.var af,.var ac,.var aa,.var ai],.cells [.var tI],.cells [.con tI,.con tI,.con ae,.con aa,.con af,.con ac,.con aa],.cells [.con tI,.con tI,.con ae,.con aa,.con af,.con ac,.con aa,.own 4],.rowv ð]⟩
def BT:Tpl:=⟨100,.con .str::.any::.box 0 0::.box 1 0::aN 5 [.box 3 0],[.cells [.var tI,.var tI,.var ae,.var aa,.var af,.var ac,.var aa,.var ai],.cells [.var tI],.cells [.con tI,.con tI,.con ae,.con aa,.con af,.con ac,.con aa],.cells [.con tI,.con tI,.con ae,.con aa,.con af,.con ac,.con aa,.any]]⟩
def sJ (ρ:Type):QR ρ:=⟨[],7,0,4,[.str,tI,tI,ae,aa,af,ac,aa,tI,tI,ae,aa,af,ac,aa],[tI,tI,ae,aa,af,ac,aa,ai,tI,ai],[tI,tI,ae,aa,af,ac,aa,ai,tI],iB,BT,82,kO,fun(p:Val bI) (v:Val aw) y a b=>č v y a b⟩
def JF (ρ:Type):rT (QR ρ):=[sJ ρ]
def YF:rT (Nat×aaE):=[(33,.split),(35,.atoi)]
def Ŷ (ρ:Type):Env ρ:={TB [(8,MN),(29,pL),(30,xD),(31,Yf),(34,jG)] [BU ρ] YF with ranges:=GH (JF ρ)}
def wj:ì:=⟨[Ò,Ò],[.bool],fun(x:Val (.pair Ò Ò))=>kd x.1 x.2⟩
def FS (ρ:Type):Env ρ:=Ö [(28,lh)] []
def By:ì:=⟨[aa,aa],[.bool],fun(x:Val (.pair aa aa))=>jW x.1 x.2⟩
def DI:Å:=Ls 0 [aa,aa] [tI] ⟨26,[.con aa,.con aa,.any,.any,.any,.var tI],[]⟩ [(.ret,⟨26,[.con aa,.con aa,.any,.any,.var .bool],[]⟩,[.bool]),(.exit 0,⟨26,[.con aa,.con aa],[]⟩,[])]
def ql (ρ:Type):é ρ:=⟨[],96,0,DI,fun(p:Val (.pair aa aa)) (v:Int) b a=>jh p.1 p.2 v (fun c=>b c) (a 0) (a 1)⟩
def wD (ρ:Type):Env ρ:=Ö [] [ql ρ]
def XY:ì:=⟨[È,È],[.bool],fun(x:Val (.pair È È))=>G9 x.1 x.2⟩
def RD:Å:=Ls 0 [tI,tI,ae,aa,af,ac,aa,tI,tI,ae,aa,af,ac,aa] [tI] ⟨130,[.any,.any,.box 0 0,.box 1 0,.any,.var tI],di⟩ [(.ret,⟨130,[.any,.any,.box 0 0,.box 1 0,.var .bool],di⟩,[.bool]),(.exit 0,⟨130,[.any,.any,.box 0 0,.box 1 0],di⟩,[])]
def Cc (ρ:Type):é ρ:=⟨[],42,0,RD,fun(p:Val ar) (v:Int) b a=>rO p.2.2.1 p.2.2.2.2.2.2.2.2.2.1 v (fun c=>b c) (a 0) (a 1)⟩
def RC:Å:=Ls 0 [tI,tI,ae,aa,af,ac,aa,tI,tI,ae,aa,af,ac,aa] [tI] ⟨130,[.any,.any,.box 0 0,.box 1 0,.any,.any,.var tI],di⟩ [(.ret,⟨130,[.any,.any,.box 0 0,.box 1 0,.var .bool],di⟩,[.bool]),(.exit 2,⟨130,[.any,.any,.box 0 0,.box 1 0],di⟩,[])]
def Cb (ρ:Type):é ρ:=⟨[],42,2,RC,fun(p:Val ar) (v:Int) b a=>rN p.2.2.2.1 p.2.2.2.2.2.2.2.2.2.2.1 v (fun c=>b c) (a 0) (a 1)⟩
def RB:Å:=Ls 0 [tI,tI,ae,aa,af,ac,aa,tI,tI,ae,aa,af,ac,aa] [tI] ⟨130,[.any,.any,.box 0 0,.box 1 0,.any,.any,.any,.var tI],di⟩ [(.ret,⟨130,[.any,.any,.box 0 0,.box 1 0,.var .bool],di⟩,[.bool]),(.exit 4,⟨130,[.any,.any,.box 0 0,.box 1 0],di⟩,[])]
def Ca (ρ:Type):é ρ:=⟨[],42,4,RB,fun(p:Val ar) (v:Int) b a=>rM p.2.2.2.2.1 p.2.2.2.2.2.2.2.2.2.2.2.1 v (fun c=>b c) (a 0) (a 1)⟩
def RA:Å:=Ls 0 [tI,tI,ae,aa,af,ac,aa,tI,tI,ae,aa,af,ac,aa] [tI] ⟨130,aN 2 (.box 0 0::.box 1 0::aN 4 [.var tI]),di⟩ [(.ret,⟨130,[.any,.any,.box 0 0,.box 1 0,.var .bool],di⟩,[.bool]),(.exit 6,⟨130,[.any,.any,.box 0 0,.box 1 0],di⟩,[])]
def B9 (ρ:Type):é ρ:=⟨[],42,6,RA,fun(p:Val ar) (v:Int) b a=>rL p.2.2.2.2.2.1 p.2.2.2.2.2.2.2.2.2.2.2.2.1 v (fun c=>b c) (a 0) (a 1)⟩
def qk (ρ:Type):Env ρ:=Ö [(95,wj),(96,By)] [Cc ρ,Cb ρ,Ca ρ,B9 ρ]
def XS:ì:=⟨[Ä,Ä],[.bool],fun(x:Val (.pair Ä Ä))=>đ x.1 x.2⟩
def Rq:Å:=Ls 0 [tI,tI,ae,aa,af,ac,aa,ai,tI,tI,ae,aa,af,ac,aa,ai] [tI] ⟨61,[.any,.any,.box 0 0,.box 1 0,.any,.any,.var tI],[bP,bP]⟩ [(.ret,⟨61,[.any,.any,.box 0 0,.box 1 0,.var .bool],[bP,bP]⟩,[.bool]),(.exit 0,⟨61,[.any,.any,.box 0 0,.box 1 0],[bP,bP]⟩,[])]
def BZ (ρ:Type):é ρ:=⟨[],11,0,Rq,fun(p:Val aF) (v:Int) b a=>rB p.2.2.2.2.2.2.2.1 p.2.2.2.2.2.2.2.2.2.2.2.2.2.2.2 v (fun c=>b c) (a 0) (a 1)⟩
def NU (ρ:Type):Env ρ:=Ö [(28,lh),(42,XY)] [BZ ρ]
def mS:ì:=⟨[Æ,tI,tI],[.bool],fun(x:gv)=>iX x.1 x.2.1 x.2.2⟩
def Rs (ρ:Type):Env ρ:=Ö [] []
def De:ì:=⟨[tI,tI,tI],[.bool],fun(x:kV)=>jL x.1 x.2.1 x.2.2⟩
def ahF (ρ:Type):Env ρ:=Ö [] []
def ED:ì:=⟨[tI],[.bool],fun(x:Int)=>vJ x⟩
def ae2 (ρ:Type):Env ρ:=Ö [(110,De)] []
def Vh:ì:=⟨[tI,tI],[tI],fun(x:bx)=>AO x.1 x.2⟩
def VU:Å:=Ls 0 [] [tI,tI] ⟨14,[.var tI,.var tI],[]⟩ [(.exit 0,⟨14,[.var tI],[]⟩,[tI])]
def FV (ρ:Type):é ρ:=⟨[],244,0,VU,fun(p:Unit) (v:bx) a b=>vx v.1 v.2 (fun c d=>a (c,d)) (b 0)⟩
def T1 (ρ:Type):Env ρ:=Ö [] [FV ρ]
def Vi:ì:=⟨[tI],[tI],fun(x:Int)=>Hc x⟩
def ae7 (ρ:Type):Env ρ:=Ö [] []
def Tq:ì:=⟨[Æ],[.bool],fun(x:bx)=>AK x⟩
def Y3 (ρ:Type):Env ρ:=Ö [(244,Vh),(245,Vi)] []
def Tl:ì:=⟨[Ú],[.bool],fun(x:kf)=>AH x⟩
def YN (ρ:Type):Env ρ:=Ö [(100,mS),(106,ED),(110,De),(185,Tq)] []
def td:ì:=⟨[È,tI],[tI],fun(x:rd)=>jY x.1 x.2⟩
def RI:Å:=Ls 0 [tI,tI,tI,ae,aa,af,ac,aa] [tI] ⟨22,[.any,.con tI,.box 0 0,.any,.any,.var tI],[bK]⟩ [(.ret,⟨22,[.any,.con tI,.box 0 0,.any,.var tI],[bK]⟩,[tI]),(.exit 0,⟨22,[.any,.con tI,.box 0 0],[bK]⟩,[])]
def Cj (ρ:Type):é ρ:=⟨[],111,0,RI,fun(p:Val bg) (v:Int) b a=>rV p.1 p.2.2.2.1 v (fun c=>b c) (a 0) (a 1)⟩
def OE (ρ:Type):Env ρ:=Ö [] [Cj ρ]
def pp:ì:=⟨[È,tI,tI],[tI],fun(x:Val bc)=>iE x.1 x.2.1 x.2.2⟩
def YQ (ρ:Type):Env ρ:=Ö [(111,td)] []
def XT:ì:=⟨[È],[tI],fun(x:bA)=>G6 x⟩
def Rr:Å:=Ls 0 [tI,tI,ae,aa,af,ac,aa] [tI] ⟨37,[.any,.box 0 0,.any,.var tI],[bK]⟩ [(.ret,⟨37,[.any,.box 0 0,.var tI],[bK]⟩,[tI]),(.exit 0,⟨37,[.any,.box 0 0],[bK]⟩,[])]
def B4 (ρ:Type):é ρ:=⟨[],102,0,Rr,fun(p:kN) (v:Int) b a=>let A:=p.2.2.2.2;rC p.1 p.2.1 p.2.2.1 p.2.2.2.1 A.1 A.2.1 A.2.2 v (fun c=>b c) (a 0) (a 1)⟩
def NZ (ρ:Type):Env ρ:=Ö [(106,ED),(107,pp)] [B4 ρ]
def Tj:ì:=⟨[È],[tI],fun(x:bA)=>AG x⟩
def N3:Å:=Ls 0 [tI,tI,tI,ae,aa,af,ac,aa,tI,tI,tI,tI] [tI] ⟨111,[.any,.box 0 0,.any,.con tI,.box 1 0,.any,.var tI],cG⟩ [(.ret,⟨111,[.any,.box 0 0,.var tI,.con tI,.box 1 0],cG⟩,[tI]),(.exit 2,⟨111,[.any,.box 0 0,.any,.con tI,.box 1 0],cG⟩,[])]
def yF (ρ:Type):é ρ:=⟨[],103,2,N3,fun(p:Val aK) (v:Int) b a=>let A:=p.2.2.2.2.2;oG p.1 A.1 A.2.2.2.1 A.2.2.2.2.1 A.2.2.2.2.2.1 v (fun c=>b c) (a 0) (a 1)⟩
def N2:Å:=Ls 0 [tI,tI,tI,ae,aa,af,ac,aa,tI,tI,tI,tI] [tI] ⟨111,[.any,.box 0 0,.any,.con tI,.box 1 0,.any,.any,.var tI],cG⟩ [(.ret,⟨111,[.any,.box 0 0,.var tI,.con tI,.box 1 0],cG⟩,[tI]),(.exit 4,⟨111,[.any,.box 0 0,.any,.con tI,.box 1 0],cG⟩,[])]
def yE (ρ:Type):é ρ:=⟨[],103,4,N2,fun(p:Val aK) (v:Int) b a=>let A:=p.2.2.2.2;let B:=A.2.2.2.2;lP A.1 B.1 B.2.1 B.2.2.1 v (fun c=>b c) (a 0) (a 1)⟩
def N4:Å:=Ls 0 [tI,tI,ae,aa,af,ac,aa] [tI] ⟨111,[.any,.box 0 0,.any,.var tI],[bK]⟩ [(.ret,⟨111,[.any,.box 0 0,.var tI],[bK]⟩,[tI]),(.exit 0,⟨111,[.any,.box 0 0],[bK]⟩,[])]
def yG (ρ:Type):é ρ:=⟨[],103,0,N4,fun(p:kN) (v:Int) b a=>let A:=p.2.2.2.2;oH p.1 p.2.1 p.2.2.1 p.2.2.2.1 A.1 A.2.1 A.2.2 v (fun c=>b c) (a 0) (a 1)⟩
def rD (ρ:Type):Env ρ:=Ö [(100,mS),(107,pp),(110,De)] [yF ρ,yE ρ,yG ρ]
def XZ:ì:=⟨[ab],[.bool],fun(x:an)=>zH x⟩
def RE:Å:=Ls 0 [ab] [tI] ⟨35,[.con ab,.any,.any,.var tI],[]⟩ [(.ret,⟨35,[.con ab,.any,.var .bool],[]⟩,[.bool]),(.exit 0,⟨35,[.con ab],[]⟩,[])]
def Ce (ρ:Type):é ρ:=⟨[],186,0,RE,fun(p:an) (v:Int) b a=>rQ p v (fun c=>b c) (a 0) (a 1)⟩
def Oo (ρ:Type):Env ρ:=Ö [(110,De)] [Ce ρ]
def Th:ì:=⟨[Ò],[.bool],fun(x:fx)=>AE x⟩
def YK (ρ:Type):Env ρ:=Ö [(100,mS),(106,ED),(110,De),(186,XZ)] []
def EC:ì:=⟨[È,tI,tI],[Θ,.bool],fun(x:Val bc)=>iY x.1 x.2.1 x.2.2⟩
def RF:Å:=Ls 0 [tI,tI,tI,tI,ae,aa,af,ac,aa] [tI,tI,tI,tI,tI] ⟨42,[.any,.con tI,.con tI,.box 0 0,.any,.any,.box 1 0,.any,.var tI],[bK,cr]⟩ [(.ret,⟨42,[.any,.con tI,.con tI,.box 0 0,.any,.any,.box 1 0,.var .bool],[bK,cr]⟩,[.bool,tI,tI,tI,tI]),(.exit 0,⟨42,[.any,.con tI,.con tI,.box 0 0,.any,.any,.box 1 0],[bK,cr]⟩,[tI,tI,tI,tI])]
def Ch (ρ:Type):é ρ:=⟨[],47,0,RF,fun(p:Val (.pair tI bg)) (v:Val (.pair tI bE)) b a=>rS p.1 p.2.1 p.2.2.2.2.2.2.1 v.1 v.2.1 v.2.2.1 v.2.2.2.1 v.2.2.2.2 (fun c d e f g=>b (c,d,e,f,g)) (a 0) (a 1)⟩
def Oy (ρ:Type):Env ρ:=Ö [] [Ch ρ]
def acO:ì:=⟨[ab,tI],[.bool],fun(x:kw)=>Mb x.1 x.2⟩
def VQ:Å:=Ls 0 [ab,tI] [tI] ⟨18,[.con ab,.con tI,.any,.any,.any,.var tI],[]⟩ [(.ret,⟨18,[.con ab,.con tI,.any,.any,.var .bool],[]⟩,[.bool]),(.exit 0,⟨18,[.con ab,.con tI],[]⟩,[])]
def FT (ρ:Type):é ρ:=⟨[],246,0,VQ,fun(p:kw) (v:Int) b a=>vw p.1 p.2 v (fun c=>b c) (a 0) (a 1)⟩
def TX (ρ:Type):Env ρ:=Ö [] [FT ρ]
def MO:ì:=⟨[ab,ab],[ab],fun(x:lx)=>jX x.1 x.2⟩
def RG:Å:=Ls 0 [ab,ab] [tI,ab] ⟨28,[.con ab,.con ab,.any,.any,.any,.own 0,.var tI],cF⟩ [(.exit 0,⟨28,[.con ab,.con ab,.any,.any,.any,.own 0],cF⟩,[ab])]
def Ci (ρ:Type):é ρ:=⟨[],187,0,RG,fun(p:lx) (v:dy) a b=>rU p.1 p.2 v.1 v.2 (fun c d=>a (c,d)) (b 0)⟩
def OA (ρ:Type):Env ρ:=Ö [(246,acO)] [Ci ρ]
def EB:ì:=⟨[È,Ò],[tI],fun(x:Val aZ)=>jn x.1 x.2⟩
def FM:Å:=Ls 0 [tI,tI,ae,aa,af,ac,aa,tI,tI,ab,ab,tI,tI,tI,tI,ab] [tI] ⟨90,[.any,.any,.box 0 0,.box 1 0,.any,.own 2,.var tI],cH⟩ [(.ret,⟨90,[.any,.any,.box 0 0,.box 1 0,.var tI,.own 2],cH⟩,[tI]),(.exit 0,⟨90,[.any,.any,.box 0 0,.box 1 0,.any,.own 2],cH⟩,[])]
def rI (ρ:Type):é ρ:=⟨[],105,0,FM,fun(p:Val az) (v:Int) b a=>let A:=p.2.2.2.2;j6 p.1 p.2.1 p.2.2.1 p.2.2.2.1 A.1 A.2.1 A.2.2.1 A.2.2.2.2.2.2.2.2.2.2.2 v (fun c=>b c) (a 0) (a 1)⟩
def FL:Å:=Ls 0 [tI,tI,ae,aa,af,ac,aa,tI,tI,ab,ab,tI,tI,tI,tI,ab] [tI] ⟨90,[.any,.any,.box 0 0,.box 1 0,.any,.own 2,.any,.var tI],cH⟩ [(.ret,⟨90,[.any,.any,.box 0 0,.box 1 0,.var tI,.own 2],cH⟩,[tI]),(.exit 2,⟨90,[.any,.any,.box 0 0,.box 1 0,.any,.own 2],cH⟩,[])]
def rH (ρ:Type):é ρ:=⟨[],105,2,FL,fun(p:Val az) (v:Int) b a=>let A:=p.2.2.2.2;iv p.1 p.2.1 p.2.2.1 p.2.2.2.1 A.1 A.2.1 A.2.2.1 A.2.2.2.2.1 A.2.2.2.2.2.2.2.2.2.2.2 v (fun c=>b c) (a 0) (a 1)⟩
def FK:Å:=Ls 0 [tI,tI,ae,aa,af,ac,aa,tI,tI,ab,ab,tI,tI,tI,tI,ab] [tI] ⟨90,[.any,.any,.box 0 0,.box 1 0,.any,.own 2,.any,.any,.var tI],cH⟩ [(.ret,⟨90,[.any,.any,.box 0 0,.box 1 0,.var tI,.own 2],cH⟩,[tI]),(.exit 4,⟨90,[.any,.any,.box 0 0,.box 1 0,.any,.own 2],cH⟩,[])]
def rG (ρ:Type):é ρ:=⟨[],105,4,FK,fun(p:Val az) (v:Int) b a=>let A:=p.2.2.2.2;ŧ p.1 p.2.1 p.2.2.1 p.2.2.2.1 A.1 A.2.1 A.2.2.1 A.2.2.2.2.1 A.2.2.2.2.2.2.2.2.2.2.2 v (fun c=>b c) (a 0) (a 1)⟩
def iQ (ρ:Type):Env ρ:=Ö [(47,EC),(107,pp),(111,td),(187,MO)] [rI ρ,rH ρ,rG ρ]
def LW:ì:=⟨[ab,ab],[tI],fun(x:lx)=>oZ x.1 x.2⟩
def ae1 (ρ:Type):Env ρ:=Ö [(187,MO)] []
def XV:ì:=⟨[È,Ú,tI],[.bool],fun(x:Val (.pair È (.pair Ú tI)))=>G7 x.1 x.2.1 x.2.2⟩
def Rv:Å:=Ls 0 [tI,tI,tI,ae,aa,af,ac,aa,tI,tI,tI,tI,tI,tI,tI,tI] [tI] ⟨76,[.any,.any,.con tI,.box 0 0,.box 1 0,.any,.any,.var tI],[bK,bL]⟩ [(.ret,⟨76,[.any,.any,.con tI,.box 0 0,.box 1 0,.any,.var .bool],[bK,bL]⟩,[.bool]),(.exit 0,⟨76,[.any,.any,.con tI,.box 0 0,.box 1 0],[bK,bL]⟩,[])]
def B7 (ρ:Type):é ρ:=⟨[],188,0,Rv,fun(p:Val au) (v:Int) b a=>rJ p.1 p.2.2.2.2.2.2.1 p.2.2.2.2.2.2.2.2.1 v (fun c=>b c) (a 0) (a 1)⟩
def Ru:Å:=Ls 0 [tI,tI,tI,ae,aa,af,ac,aa,tI,tI,tI,tI,tI,tI,tI,tI] [tI] ⟨76,aN 2 (.con tI::.box 0 0::.box 1 0::aN 4 [.var tI]),[bK,bL]⟩ [(.ret,⟨76,[.any,.any,.con tI,.box 0 0,.box 1 0,.any,.var .bool],[bK,bL]⟩,[.bool]),(.exit 2,⟨76,[.any,.any,.con tI,.box 0 0,.box 1 0],[bK,bL]⟩,[])]
def B6 (ρ:Type):é ρ:=⟨[],188,2,Ru,fun(p:Val au) (v:Int) b a=>nw p.1 p.2.2.2.2.2.2.2.1 p.2.2.2.2.2.2.2.2.1 v (fun c=>b c) (a 0) (a 1)⟩
def DH (ρ:Type):Env ρ:=Ö [(191,LW)] [B7 ρ,B6 ρ]
def Ag:ì:=⟨[È],[aa],fun(x:bA)=>kQ x⟩
def Ou:Å:=Ls 0 [tI,tI,ae,aa,af,ac,aa] [tI,ab] ⟨114,[.any,.box 0 0,.any,.own 1,.var tI],dj⟩ [(.exit 0,⟨114,[.any,.box 0 0,.any,.own 1],dj⟩,[ab])]
def yY (ρ:Type):é ρ:=⟨[],108,0,Ou,fun(p:kN) (v:dy) a b=>oQ p.2.2.1 v.1 v.2 (fun c d=>a (c,d)) (b 0)⟩
def Ot:Å:=Ls 0 [tI,tI,ae,aa,af,ac,aa] [tI,ab] ⟨114,[.any,.box 0 0,.any,.own 1,.any,.var tI],dj⟩ [(.exit 2,⟨114,[.any,.box 0 0,.any,.own 1],dj⟩,[ab])]
def yX (ρ:Type):é ρ:=⟨[],108,2,Ot,fun(p:kN) (v:dy) a b=>oP p.2.2.2.2.2.1 v.1 v.2 (fun c d=>a (c,d)) (b 0)⟩
def Oq:Å:=Ls 0 [tI,tI,ae,aa,af,ac,aa] [tI,ab] ⟨114,[.any,.box 0 0,.any,.own 1,.any,.any,.var tI],dj⟩ [(.exit 4,⟨114,[.any,.box 0 0,.any,.own 1],dj⟩,[ab])]
def yW (ρ:Type):é ρ:=⟨[],108,4,Oq,fun(p:kN) (v:dy) a b=>oO p.2.2.2.2.2.2 v.1 v.2 (fun c d=>a (c,d)) (b 0)⟩
def yR:Å:=Ls 0 [tI,tI,tI,tI,ae,aa,af,ac,aa,ab,aa] [tI,tI] ⟨114,[.any,.box 0 0,.any,.own 1,.any,.any,.any,.own 2,.con tI,.con tI,.var tI,.var tI],[bK,.rowc tI,.rowc Æ]⟩ [(.exit 10,⟨114,[.any,.box 0 0,.any,.own 1,.any,.any,.any,.own 2,.con tI,.con tI,.var tI],[bK,.rowc tI,.rowc Æ]⟩,[tI])]
def yQ (ρ:Type):é ρ:=⟨[],108,10,yR,fun(p:Val (tyL yR.cs)) (v:bx) a b=>lR p.2.1 p.2.2.2.2.2.2.2.2.2.1 v.1 v.2 (fun c d=>a (c,d)) (b 0)⟩
def yT:Å:=Ls 0 [tI,tI,tI,ae,aa,af,ac,aa,ab] [tI,aa] ⟨114,[.any,.box 0 0,.any,.own 1,.any,.any,.any,.own 2,.con tI,.var tI],dk⟩ [(.exit 8,⟨114,[.any,.box 0 0,.any,.own 1,.any,.any,.any,.own 2,.con tI],dk⟩,[aa])]
def yS (ρ:Type):é ρ:=⟨[],108,8,yT,fun(p:Val (tyL yT.cs)) (v:kW) a b=>let A:=p.2.2.2.2;lS p.1 p.2.1 p.2.2.1 p.2.2.2.1 A.1 A.2.1 A.2.2.1 A.2.2.2.1 A.2.2.2.2 v.1 v.2 (fun c d=>a (c,d)) (b 0)⟩
def yV:Å:=Ls 0 [tI,tI,ae,aa,af,ac,aa,ab] [tI,aa] ⟨114,[.any,.box 0 0,.any,.own 1,.any,.any,.any,.own 2,.var tI],dk⟩ [(.exit 6,⟨114,[.any,.box 0 0,.any,.own 1,.any,.any,.any,.own 2],dk⟩,[aa])]
def yU (ρ:Type):é ρ:=⟨[],108,6,yV,fun(p:Val (tyL yV.cs)) (v:kW) a b=>let A:=p.2.2.2.2;oN p.1 p.2.1 p.2.2.1 p.2.2.2.1 A.1 A.2.1 A.2.2.1 A.2.2.2 v.1 v.2 (fun c d=>a (c,d)) (b 0)⟩
def iR (ρ:Type):Env ρ:=Ö [(188,XV)] [yY ρ,yX ρ,yW ρ,yQ ρ,yS ρ,yU ρ]
def XW:ì:=⟨[È,tI,tI],[.bool],fun(x:Val bc)=>G8 x.1 x.2.1 x.2.2⟩
def Rw:Å:=Ls 0 [tI,tI,tI,tI,ae,aa,af,ac,aa] [tI] ⟨33,[.any,.con tI,.con tI,.box 0 0,.any,.any,.any,.var tI],[bK]⟩ [(.ret,⟨33,[.any,.con tI,.con tI,.box 0 0,.any,.any,.var .bool],[bK]⟩,[.bool]),(.exit 0,⟨33,[.any,.con tI,.con tI,.box 0 0],[bK]⟩,[])]
def B8 (ρ:Type):é ρ:=⟨[],247,0,Rw,fun(p:Val (.pair tI bg)) (v:Int) b a=>rK p.1 p.2.1 p.2.2.2.2.2.1 v (fun c=>b c) (a 0) (a 1)⟩
def Ob (ρ:Type):Env ρ:=Ö [] [B8 ρ]
def X0:ì:=⟨[È,tI,tI,tI],[tI],fun(x:Val (.pair È Ę))=>uN x.1 x.2.1 x.2.2.1 x.2.2.2⟩
def Cg:Å:=Ls 0 [tI,tI,tI,tI,tI,ae,aa,af,ac,aa] [tI,tI] ⟨48,.any::.con tI::.any::.con tI::.box 0 0::aN 4 [.con tI,.var tI,.var tI],[bK]⟩ [(.exit 0,⟨48,.any::.con tI::.any::.con tI::.box 0 0::aN 4 [.con tI,.var tI],[bK]⟩,[tI])]
def Cf (ρ:Type):é ρ:=⟨[],189,0,Cg,fun(p:Val (tyL Cg.cs)) (v:bx) a b=>let A:=p.2.2.2.2;rR p.1 p.2.1 p.2.2.1 p.2.2.2.1 A.1 A.2.1 A.2.2.1 A.2.2.2.1 A.2.2.2.2.1 A.2.2.2.2.2 v.1 v.2 (fun c d=>a (c,d)) (b 0)⟩
def Ow (ρ:Type):Env ρ:=Ö [(47,EC),(111,td),(247,XW)] [Cf ρ]
def Tn:ì:=⟨[È,Æ],[tI],fun(x:Val bc)=>jo x.1 x.2⟩
def OB:Å:=Ls 0 [aa,tI,tI] [tI] ⟨23,[.any,.any,.any,.box 0 0,.any,.con aa,.var tI],[bX]⟩ [(.ret,⟨23,[.any,.any,.any,.box 0 0,.var tI,.con aa],[bX]⟩,[tI]),(.exit 0,⟨23,[.any,.any,.any,.box 0 0,.any,.con aa],[bX]⟩,[])]
def yZ (ρ:Type):é ρ:=⟨[],190,0,OB,fun(p:Val (.pair aa Æ)) (v:Int) b a=>oR p.1 p.2.1 p.2.2 v (fun c=>b c) (a 0) (a 1)⟩
def JN (ρ:Type):Env ρ:=Ö [(108,Ag)] [yZ ρ]
def Df:ì:=⟨[tI,tI],[kX],fun(x:bx)=>qw x.1 x.2⟩
def VT (ρ:Type):Env ρ:=Ö [(244,Vh),(245,Vi)] []
def acS:ì:=⟨[Æ,Æ],[kX],fun(x:gv)=>WD x.1 x.2⟩
def ae6 (ρ:Type):Env ρ:=Ö [(329,Df)] []
end Go.Proofs.ZzM
end
