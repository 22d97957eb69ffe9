/- lemmas -/
import Derived.Test.YtbiecdpaididoaaGreatDoorAmC
import Derived.Test.YtbiecdpaididoaaGreatDoorAmF
import Derived.KernelRfl
import Derived.Test.YtbiecdpaididoaaGreatDoorAmD
import Derived.Test.YtbiecdpaididoaaGreatDoorMdTA
import Derived.Test.YtbiecdpaididoaaGreatDoorProg
set_option linter.all false
noncomputable section
set_option maxRecDepth 100000
namespace Go.Proofs.ZzM
open Go Go.Am
def vn:Nat->Bool
  |109=>true
  |199=>true
  |200=>true
  |201=>true
  |202=>true
  |203=>true
  |_=>false
def BU:Nat->Bool
  |107=>true
  |_=>false
def lT:Nat->Bool
  |108=>true
  |_=>false
def Rt:Nat->Bool
  |2=>true
  |26=>true
  |27=>true
  |31=>true
  |67=>true
  |69=>true
  |72=>true
  |73=>true
  |75=>true
  |76=>true
  |77=>true
  |78=>true
  |79=>true
  |81=>true
  |82=>true
  |101=>true
  |102=>true
  |103=>true
  |106=>true
  |110=>true
  |111=>true
  |113=>true
  |114=>true
  |125=>true
  |126=>true
  |127=>true
  |130=>true
  |134=>true
  |135=>true
  |151=>true
  |152=>true
  |154=>true
  |155=>true
  |157=>true
  |161=>true
  |167=>true
  |168=>true
  |169=>true
  |170=>true
  |171=>true
  |172=>true
  |188=>true
  |189=>true
  |190=>true
  |191=>true
  |192=>true
  |193=>true
  |195=>true
  |196=>true
  |204=>true
  |205=>true
  |206=>true
  |207=>true
  |210=>true
  |211=>true
  |215=>true
  |216=>true
  |219=>true
  |222=>true
  |223=>true
  |224=>true
  |225=>true
  |234=>true
  |235=>true
  |237=>true
  |238=>true
  |241=>true
  |242=>true
  |252=>true
  |286=>true
  |_=>false
def isFz:Nat->Bool
  |62=>true
  |_=>false
def Ru:Nat->Nat->Bool
  |51,8=>true
  |51,11=>true
  |125,25=>true
  |205,0=>true
  |_,_=>false
def M5:AS Nat->Nat->Bool
  |_,_=>false
abbrev Lr {ρ:Type} (E:Env ρ) (f:Nat) (ts rs:AS Ty) (x:Val (tyL ts)) (k:Val (tyL rs)->AN ρ):AN ρ:=topK E f (HB ts x) (fun h v=>Â (Ra rs h v) k)
abbrev Ls (p:Nat) (c v:AS Ty) (h:Tpl) (e:AS (Exit×Tpl×AS Ty)):Ë:=⟨p,c,v,h,e,false⟩
def î {ρ:Type} (pt:AS (Nat×Ğ)) (tab:AS (ō ρ)):Env ρ :=
  {P:=Tryz.prog,eat:=Ru,clone:=vn,sort:=BU,compact:=lT,inl:=Rt,fz:=isFz,stop:=M5,pure:=AO pt,loops:=Ř tab}
def mkEnvX {ρ:Type} (pt:AS (Nat×Ğ)) (tab:AS (ō ρ)) (xt:AS (Nat×Ol)):Env ρ:={î pt tab with ext:=extT xt}
def mkEnvJ {ρ:Type} (pt:AS (Nat×Ğ)) (tab:AS (ō ρ)) (js:AS JEnt):Env ρ :=
  {P:=Tryz.prog,eat:=Ru,clone:=vn,sort:=BU,compact:=lT,inl:=Rt,fz:=isFz,stop:=M5,pure:=AO pt,loops:=Ř tab,joins:=Di js}
def mkEnvU {ρ:Type} (pt:AS (Nat×Ğ)) (tab:AS (ō ρ)) (us:AS Qg):Env ρ :=
  {P:=Tryz.prog,eat:=Ru,clone:=vn,sort:=BU,compact:=lT,inl:=Rt,fz:=isFz,stop:=M5,pure:=AO pt,loops:=I1 (î pt tab) us}
abbrev aP:nf:=.cells [.con tI,.con tI,.con ae,.con aa,.con af,.con ac,.con aa]
abbrev aQ:nf:=.cells [.con tI,.con tI,.con tI,.con tI,.con tI,.con tI,.con tI,.con tI]
abbrev aR:nf:=.cells [.con tI,.con tI,.con tI,.con tI]
abbrev aS:nf:=.cells [.con ab]
abbrev aT:nf:=.cells [.con tI]
abbrev aU:nf:=.cells [.con tI,.con tI,.con ab,.con ab,.con tI,.con tI,.con tI,.con tI]
abbrev aV:nf:=.cells [.con tI,.con tI]
abbrev aW:nf:=.cells [.con tI,.con tI,.con ae,.con aa,.con af,.con ac,.con aa,.con aa,.con tI,.own 3,.own 4]
abbrev aX:nf:=.cells [.con tI,.con tI,.con ae,.con aa,.con af,.con ac,.con aa,.con aa,.con tI,.own 2,.own 3]
abbrev aY:nf:=.cells [.con tI,.con ah]
abbrev aZ:nf:=.cells [.con tI,.con tI,.nils,.nils,.nils,.nils,.nils]
abbrev a8:nf:=.cells [.con tI,.con tI,.own 11,.own 12,.own 13,.con ac,.own 14]
abbrev ba:nf:=.cells [.own 6]
abbrev bc:nf:=.cells [.con tI,.con tI,.con ae,.own 3,.con af,.con ac,.con aa]
abbrev bf:nf:=.cells [.con tI,.con tI,.con ae,.own 3,.own 4,.con ac,.con aa]
abbrev bg:nf:=.cells [.con tI,.con tI,.con ae,.own 3,.own 4,.con ac,.own 5]
abbrev bh:AS nf:=[aP,aU,.rowc tI]
abbrev bi:AS nf:=[aP,aX,.rowv nP,.rowv Æ]
abbrev bj:AS nf:=[aP,aU,aZ,.dead,.dead,aP,aZ,.dead,a8,aZ,.rowv Ì,.rowc Ñ,.rowc Æ,.rowc Κ,.rowc Æ]
abbrev bl:AS nf:=[aY,.rowc tI,aY,ba,.rowv .bool,.rowc tI,.rowv tI]
abbrev bm:AS nf:=[aY,.rowv tI,aY,ba,.rowv .bool,.rowc tI,.rowv tI]
abbrev bn:AS nf:=[aY,.rowv tI,aY,ba,.rowv .bool,.rowv tI,.rowv tI]
abbrev bo:AS nf:=[aP,.rowv .str]
abbrev bp:AS nf:=[aP,aP]
abbrev bq:AS nf:=[aP,aU,bg,.rowc Æ,.rowc Κ,.rowv Æ]
def gg:Ğ:=⟨[Ã],[ak],fun(x:an)=>Ă x⟩
def wR:Ë:=Ls 0 [ae,tI] [tI,ak] ⟨20,aN 3 (.omp 0::aN 4 [.con ae,.con tI,.var tI]),[.mapv tI Ñ]⟩ [(.exit 0,⟨20,aN 3 (.omp 0::aN 4 [.con ae,.con tI]),[.mapv tI Ñ]⟩,[ak])]
def nl (ρ:Type):ō ρ:=⟨[],49,0,wR,fun(p:Val (.pair ae tI)) (v:Val (.pair tI ak)) a b=>gF p.1 p.2 v.1 v.2 (fun c d=>a (c,d)) (b 0)⟩
def sW (ρ:Type):Env ρ:=î [] [nl ρ]
def lg:Ğ:=⟨[ab,tI],[tI],fun(x:th)=>Ż x.1 x.2⟩
def nz:Ë:=Ls 0 [ab,tI,tI] [tI] ⟨19,.con ab::.con tI::aN 5 [.con tI,.var tI],[]⟩ [(.ret,⟨19,[.con ab,.con tI,.any,.any,.var tI,.any,.any,.con tI],[]⟩,[tI]),(.exit 0,⟨19,.con ab::.con tI::aN 5 [.con tI],[]⟩,[])]
def f7 (ρ:Type):ō ρ:=⟨[],158,0,nz,fun(p:Val (.pair ab Æ)) (v:Int) b a=>Ň p.1 p.2.1 p.2.2 v (fun c=>b c) (a 0) (a 1)⟩
def jn (ρ:Type):Env ρ:=î [] [f7 ρ]
def Γ:Ğ:=⟨[ab,tI],[.bool],fun(x:th)=>ā x.1 x.2⟩
def nA (ρ:Type):Env ρ:=î [(158,lg)] []
def CK:Ğ:=⟨[Ã,Ñ],[ab],fun(x:Val (.pair Ã Ñ))=>iP x.1 x.2⟩
def C7:Ë:=Ls 0 [ac,tI,tI,tI,ae,aa,af,ac,aa,tI,tI,tI,tI,tI,tI,tI,tI] [tI,ab] ⟨59,aN 2 (.box 0 0::.box 1 0::.any::.own 2::aN 8 [.con ac,.con tI,.var tI]),[aP,aQ,.rowv tI]⟩ [(.exit 0,⟨59,aN 2 (.box 0 0::.box 1 0::.any::.own 2::aN 8 [.con ac,.con tI]),[aP,aQ,.rowv tI]⟩,[ab])]
def tC (ρ:Type):ō ρ:=⟨[],124,0,C7,fun(p:Val (.pair ac az)) (v:pc) a b=>mJ p.1 p.2.1 p.2.2.2.2.2.2.2.2.2.1 v.1 v.2 (fun c d=>a (c,d)) (b 0)⟩
def C6:Ë:=Ls 0 [aa,tI,tI,tI,tI,tI,tI,tI,tI,tI] [tI,ab] ⟨59,aN 3 (.box 0 0::.any::.own 1::aN 32 [.con aa,.con tI,.var tI]),[aQ,.rowv tI]⟩ [(.exit 2,⟨59,aN 3 (.box 0 0::.any::.own 1::aN 32 [.con aa,.con tI]),[aQ,.rowv tI]⟩,[ab])]
def tB (ρ:Type):ō ρ:=⟨[],124,2,C6,fun(p:Val aL) (v:pc) a b=>mI p.1 p.2.1 p.2.2.1 v.1 v.2 (fun c d=>a (c,d)) (b 0)⟩
def vd (ρ:Type):Env ρ:=î [(115,Γ)] [tC ρ,tB ρ]
def sr:Ğ:=⟨[Ã],[aa],fun(x:an)=>jy x⟩
def qG:Ë:=Ls 0 [ae,tI,tI,ab,tI,tI,tI,ae,aa,af,ac,aa,tI,tI,tI,tI,tI,tI,tI,tI] [tI,aa] ⟨33,.any::.box 0 0::.any::.own 1::.any::.box 2 0::aN 3 (.con ae::.con tI::.con tI::aN 5 [.con ab,.con tI,.var tI]),[aP,.rowv Æ,aQ]⟩ [(.exit 2,⟨33,.any::.box 0 0::.any::.own 1::.any::.box 2 0::aN 3 (.con ae::.con tI::.con tI::aN 5 [.con ab,.con tI]),[aP,.rowv Æ,aQ]⟩,[aa])]
def qF (ρ:Type):ō ρ:=⟨[],59,2,qG,fun(p:Val (tyL qG.cs)) (v:eu) a b=>j6 p.2.2.2.1 p.2.2.2.2.1 p.2.2.2.2.2.2.2.2.2.2.2.2.1 v.1 v.2 (fun c d=>a (c,d)) (b 0)⟩
def Ap:Ë:=Ls 0 [ae,tI,tI,tI,ae,aa,af,ac,aa] [tI,aa] ⟨33,.any::.box 0 0::.any::.own 1::aN 5 [.con ae,.con tI,.var tI],[aP,.rowv Æ]⟩ [(.exit 0,⟨33,.any::.box 0 0::.any::.own 1::aN 5 [.con ae,.con tI],[aP,.rowv Æ]⟩,[aa])]
def qH (ρ:Type):ō ρ:=⟨[],59,0,Ap,fun(p:Val (.pair ae aK)) (v:eu) a b=>let A:=p.2.2.2.2;j7 p.1 p.2.1 p.2.2.1 p.2.2.2.1 A.1 A.2.1 A.2.2.1 A.2.2.2.1 A.2.2.2.2 v.1 v.2 (fun c d=>a (c,d)) (b 0)⟩
def rA (ρ:Type):Env ρ:=î [(124,CK)] [qF ρ,qH ρ]
def lq:Ğ:=⟨[Æ,tI,tI],[.bool],fun(x:px)=>ĺ x.1 x.2.1 x.2.2⟩
def Fm (ρ:Type):Env ρ:=î [] []
def Ÿ:Ğ:=⟨[tI,tI,tI],[.bool],fun(x:Val nP)=>ó x.1 x.2.1 x.2.2⟩
def Fe (ρ:Type):Env ρ:=î [] []
def ln:Ğ:=⟨[tI],[.bool],fun(x:Int)=>Ρ x⟩
def Hl (ρ:Type):Env ρ:=î [(104,Ÿ)] []
def CG:Ğ:=⟨[tI],[(.int .u64)],fun(x:Int)=>kB x⟩
def Kq (ρ:Type):Env ρ:=î [] []
def G5:Ğ:=⟨[(.int .u64),(.int .u64)],[(.int .u64)],fun(x:io)=>zr x.1 x.2⟩
def E5:Ë:=Ls 0 [] [(.int .u64),(.int .u64)] ⟨12,[.var (.int .u64),.var (.int .u64)],[]⟩ [(.exit 0,⟨12,[.var (.int .u64)],[]⟩,[(.int .u64)])]
def wh (ρ:Type):ō ρ:=⟨[],214,0,E5,fun(p:Unit) (v:io) a b=>pm v.1 v.2 (fun c d=>a (c,d)) (b 0)⟩
def E6 (ρ:Type):Env ρ:=î [] [wh ρ]
def sm:Ğ:=⟨[Æ],[.bool],fun(x:a7)=>lY x⟩
def Hf (ρ:Type):Env ρ:=î [(213,CG),(214,G5)] []
def xZ:Ğ:=⟨[Ñ],[.bool],fun(x:zg)=>mV x⟩
def tz (ρ:Type):Env ρ:=î [(60,ln),(65,lq),(104,Ÿ),(166,sm)] []
def ob:Ğ:=⟨[Ã],[tI],fun(x:an)=>Į x⟩
def pV:Ë:=Ls 0 [ae,tI,tI,tI,ae,aa,af,ac,aa] [tI] ⟨31,.any::.box 0 0::aN 4 [.con ae,.con tI,.var tI],[aP]⟩ [(.ret,⟨31,[.any,.box 0 0,.var tI,.any,.any,.any,.con ae,.con tI],[aP]⟩,[tI]),(.exit 0,⟨31,.any::.box 0 0::aN 4 [.con ae,.con tI],[aP]⟩,[])]
def iy (ρ:Type):ō ρ:=⟨[],66,0,pV,fun(p:Val (.pair ae aK)) (v:Int) b a=>Ũ p.1 p.2.1 p.2.2.2.2.1 v (fun c=>b c) (a 0) (a 1)⟩
def lP (ρ:Type):Env ρ:=î [(128,xZ)] [iy ρ]
def Λ:Ğ:=⟨[ak,tI,tI],[tI],fun(x:Val (.pair ak Æ))=>Ņ x.1 x.2.1 x.2.2⟩
def wS (ρ:Type):Env ρ:=î [] []
def G7:Ğ:=⟨[tI,tI,(.ptr ak)],[tI],fun(x:Val (.pair tI (.pair tI (.ptr ak))))=>Đ x.1 x.2.1 x.2.2⟩
def C3 (ρ:Type):Env ρ:=î [(60,ln),(64,Λ)] []
def CL:Ğ:=⟨[Ã,ak,tI],[tI],fun(x:Val aO)=>ľ x.1 x.2.1 x.2.2⟩
def ke:Ë:=Ls 2 [af,tI,tI,tI,ae,aa,af,ac,aa,tI,tI,tI,tI] [tI] ⟨19,.con af::.fn 167 [(1,0)]::aN 5 [.con tI,.var tI],[aP,aR]⟩ [(.ret,⟨19,[.con af,.fn 167 [(1,0)],.any,.any,.var tI,.any,.any,.con tI],[aP,aR]⟩,[tI]),(.exit 0,⟨19,.con af::.fn 167 [(1,0)]::aN 5 [.con tI],[aP,aR]⟩,[])]
def kd (ρ:Type):ō ρ:=⟨[9,5,1,2],126,0,ke,fun(p:Val (tyL ke.cs)) (v:Int) b a=>let A:=p.2.2.2.2.2.2.2.2.2;ε p.1 p.2.1 A.1 A.2.1 A.2.2.1 v (fun c=>b c) (a 0) (a 1)⟩
def ka:Ë:=Ls 2 [aa,tI,tI,tI,ae,aa,af,ac,aa,tI,tI,tI,tI] [tI] ⟨19,.con aa::.fn 168 [(1,0)]::aN 5 [.con tI,.var tI],[aP,aR]⟩ [(.ret,⟨19,[.con aa,.fn 168 [(1,0)],.any,.any,.var tI,.any,.any,.con tI],[aP,aR]⟩,[tI]),(.exit 0,⟨19,.con aa::.fn 168 [(1,0)]::aN 5 [.con tI],[aP,aR]⟩,[])]
def j9 (ρ:Type):ō ρ:=⟨[9,10,1,2],215,0,ka,fun(p:Val (tyL ka.cs)) (v:Int) b a=>let A:=p.2.2.2.2.2.2.2.2.2;Ĺ p.1 p.2.1 A.1 A.2.1 A.2.2.1 v (fun c=>b c) (a 0) (a 1)⟩
def fM (ρ:Type):Env ρ:=î [(64,Λ),(65,lq),(104,Ÿ)] [kd ρ,j9 ρ]
def ph:Ğ:=⟨[ab,ab],[ab],fun(x:ly)=>Ī x.1 x.2⟩
def tv:Ë:=Ls 2 [tI,ab,ab] [tI] ⟨19,.own 1::.fn 114 [(0,0)]::aN 5 [.con tI,.var tI],[aS,.rowc tI]⟩ [(.ret,⟨19,[.own 1,.fn 114 [(0,0)],.any,.any,.var tI,.any,.any,.con tI],[aS,.rowc tI]⟩,[tI]),(.exit 0,⟨19,.own 1::.fn 114 [(0,0)]::aN 5 [.con tI],[aS,.rowc tI]⟩,[])]
def tr (ρ:Type):ō ρ:=⟨[1,3,1,2],152,0,tv,fun(p:Val (tyL tv.cs)) (v:Int) b a=>mH p.1 p.2.1 p.2.2 v (fun c=>b c) (a 0) (a 1)⟩
def C5:Ë:=Ls 2 [ab] [tI,tI,ab] ⟨42,[.own 1,.fn 114 [(0,0)],.any,.any,.any,.var tI,.var tI],[aS,.rowv tI]⟩ [(.exit 0,⟨42,[.own 1,.fn 114 [(0,0)],.any,.any,.any,.var tI],[aS,.rowv tI]⟩,[tI,ab])]
def tq (ρ:Type):ō ρ:=⟨[1,3],113,0,C5,fun(p:ag) (v:Val (.pair tI ay)) a b=>π p v.1 v.2.1 v.2.2 (fun c d e=>a (c,d,e)) (b 0)⟩
def vc (ρ:Type):Env ρ:=î [(115,Γ)] [tr ρ,tq ρ]
def uP:Ğ:=⟨[ab],[.bool],fun(x:ag)=>gA x⟩
def oA:Ë:=Ls 0 [ab,ab,tI] [tI] ⟨32,.con ab::aN 4 [.con ab,.con tI,.var tI],[]⟩ [(.ret,⟨32,[.con ab,.any,.var .bool,.any,.any,.con ab,.con tI],[]⟩,[.bool]),(.exit 0,⟨32,.con ab::aN 4 [.con ab,.con tI],[]⟩,[])]
def oz (ρ:Type):ō ρ:=⟨[],61,0,oA,fun(p:Val (tyL oA.cs)) (v:Int) b a=>iI p.1 p.2.1 p.2.2 v (fun c=>b c) (a 0) (a 1)⟩
def wl (ρ:Type):Env ρ:=î [(104,Ÿ)] [oz ρ]
def fD:Ğ:=⟨[aF],[ab],fun(x:Val aF)=>ď x⟩
def fL:Ë:=Ls 0 [aF,aF,tI] [tI,tI] ⟨36,.con aF::aN 2 (.var tI::aN 5 [.con aF,.con tI,.var tI]),[]⟩ [(.exit 0,⟨36,.con aF::aN 2 (.var tI::aN 5 [.con aF,.con tI]),[]⟩,[tI])]
def fK (ρ:Type):ō ρ:=⟨[],62,0,fL,fun(p:Val (tyL fL.cs)) (v:a7) a b=>ļ p.2.1 p.2.2 v.1 v.2 (fun c d=>a (c,d)) (b 0)⟩
def mo:Ë:=Ls 0 [aF,tI] [tI,ab] ⟨36,aN 6 (.own 0::aN 18 [.con aF,.con tI,.var tI]),[.rowv tI]⟩ [(.exit 2,⟨36,aN 6 (.own 0::aN 18 [.con aF,.con tI]),[.rowv tI]⟩,[ab])]
def fJ (ρ:Type):ō ρ:=⟨[],62,2,mo,fun(p:Val (.pair aF tI)) (v:pc) a b=>þ p.1 p.2 v.1 v.2 (fun c d=>a (c,d)) (b 0)⟩
def Η (ρ:Type):Env ρ:=î [] [fK ρ,fJ ρ]
def CM:Ğ:=⟨[Ã,tI,tI],[Κ,.bool],fun(x:Val (.pair Ã Æ))=>iQ x.1 x.2.1 x.2.2⟩
def tE:Ë:=Ls 4 [af,tI,tI,tI,ae,aa,af,ac,aa,tI,tI,tI,tI,tI,tI] [tI] ⟨19,.con af::.fn 127 [(1,0),(2,0)]::aN 5 [.con tI,.var tI],[aP,aT,aT,aR]⟩ [(.ret,⟨19,[.con af,.fn 127 [(1,0),(2,0)],.any,.any,.var tI,.any,.any,.con tI],[aP,aT,aT,aR]⟩,[tI]),(.exit 0,⟨19,.con af::.fn 127 [(1,0),(2,0)]::aN 5 [.con tI],[aP,aT,aT,aR]⟩,[])]
def tD (ρ:Type):ō ρ:=⟨[1,3],126,0,tE,fun(p:Val (tyL tE.cs)) (v:Int) b a=>mL p.1 p.2.1 p.2.2.2.2.2.2.2.2.2.1 p.2.2.2.2.2.2.2.2.2.2.1 v (fun c=>b c) (a 0) (a 1)⟩
def BI (ρ:Type):Env ρ:=î [(104,Ÿ)] [tD ρ]
def wG:Ğ:=⟨[Ã,ak,tI],[tI],fun(x:Val aO)=>ė x.1 x.2.1 x.2.2⟩
def oE:Ë:=Ls 2 [ac,tI,tI,tI,ae,aa,af,ac,aa,tI,tI,ab,ab,tI,tI,tI,tI] [tI] ⟨19,.con ac::.fn 172 [(1,0)]::aN 5 [.con tI,.var tI],[aP,aU]⟩ [(.ret,⟨19,[.con ac,.fn 172 [(1,0)],.any,.any,.var tI,.any,.any,.con tI],[aP,aU]⟩,[tI]),(.exit 0,⟨19,.con ac::.fn 172 [(1,0)]::aN 5 [.con tI],[aP,aU]⟩,[])]
def gT (ρ:Type):ō ρ:=⟨[4,5,1,2],216,0,oE,fun(p:Val (.pair ac aw)) (v:Int) b a=>Ŗ p.1 p.2.1 p.2.2.2.2.2.2.2.2.2.1 v (fun c=>b c) (a 0) (a 1)⟩
def gQ:Ë:=Ls 0 [ak,ab,tI,tI,tI,ab,tI,tI,tI,ae,aa,af,ac,aa,tI,tI,ab,ab,tI,tI,tI,tI,ab] [tI] ⟨140,.any::.con ak::.any::.box 0 0::aN 3 (.box 1 0::.con ab::.any::.con tI::aN 65 [.own 2,.con tI,.con tI,.any,.any,.any,.con ab,.con tI,.var tI]),bh⟩ [(.ret,⟨140,.any::.con ak::.any::.box 0 0::aN 2 (.var tI::.box 1 0::.con ab::.any::.con tI::aN 65 [.own 2,.con tI,.con tI,.any,.any,.any,.con ab,.con tI]),bh⟩,[tI]),(.exit 2,⟨140,.any::.con ak::.any::.box 0 0::aN 3 (.box 1 0::.con ab::.any::.con tI::aN 65 [.own 2,.con tI,.con tI,.any,.any,.any,.con ab,.con tI]),bh⟩,[])]
def gP (ρ:Type):ō ρ:=⟨[],132,2,gQ,fun(p:Val (tyL gQ.cs)) (v:Int) b a=>let A:=p.2.2.2.2.2;ŕ p.1 p.2.2.1 A.1 A.2.1 A.2.2.2.2.2.2.2.2.2.2.1 v (fun c=>b c) (a 0) (a 1)⟩
def gS:Ë:=Ls 0 [ak,ab,tI,tI,tI,ae,aa,af,ac,aa,tI,tI,ab,ab,tI,tI,tI,tI,ab] [tI] ⟨140,.any::.con ak::.any::.box 0 0::aN 3 (.box 1 0::.con ab::aN 67 [.own 2,.con tI,.var tI]),bh⟩ [(.ret,⟨140,.any::.con ak::.any::.box 0 0::aN 2 (.var tI::.box 1 0::.con ab::aN 67 [.own 2,.con tI]),bh⟩,[tI]),(.exit 0,⟨140,.any::.con ak::.any::.box 0 0::aN 3 (.box 1 0::.con ab::aN 67 [.own 2,.con tI]),bh⟩,[])]
def gR (ρ:Type):ō ρ:=⟨[],132,0,gS,fun(p:Val (tyL gS.cs)) (v:Int) b a=>ĝ p.1 p.2.1 p.2.2.1 p.2.2.2.2.2.2.2.2.2.2.2.1 p.2.2.2.2.2.2.2.2.2.2.2.2.2.2.2.2.2.2 v (fun c=>b c) (a 0) (a 1)⟩
def oD:Ë:=Ls 0 [ab,tI,tI,tI,ae,aa,af,ac,aa,tI,tI,ab,ab,tI,tI,tI,tI] [tI] ⟨140,aN 3 (.box 0 0::aN 3 (.box 1 0::aN 90 [.con ab,.con tI,.var tI])),[aP,aU]⟩ [(.ret,⟨140,aN 3 (.box 0 0::aN 2 (.var tI::.box 1 0::aN 90 [.con ab,.con tI])),[aP,aU]⟩,[tI]),(.exit 4,⟨140,aN 3 (.box 0 0::aN 3 (.box 1 0::aN 90 [.con ab,.con tI])),[aP,aU]⟩,[])]
def gO (ρ:Type):ō ρ:=⟨[],132,4,oD,fun(p:Val (.pair ab aw)) (v:Int) b a=>let A:=p.2.2.2.2;Ĝ p.1 p.2.1 p.2.2.1 p.2.2.2.1 A.1 A.2.1 A.2.2.1 A.2.2.2.1 A.2.2.2.2.1 A.2.2.2.2.2.2.1 v (fun c=>b c) (a 0) (a 1)⟩
def Ĥ (ρ:Type):Env ρ:=î [(53,ph),(60,ln),(61,uP),(62,fD),(63,CM),(64,Λ),(65,lq),(104,Ÿ)] [gT ρ,gP ρ,gR ρ,gO ρ]
def fE:Ğ:=⟨[Ã],[tI],fun(x:an)=>đ x⟩
def Bo:Ğ:=⟨[Ã],[.bool],fun(x:an)=>pz x⟩
def yk:Ë:=Ls 0 [tI,tI,ae,aa,af,ac,aa] [tI] ⟨61,[.any,.box 0 0,.any,.var tI],[aP]⟩ [(.ret,⟨61,[.any,.box 0 0,.var .bool],[aP]⟩,[.bool]),(.exit 0,⟨61,[.any,.box 0 0],[aP]⟩,[])]
def og (ρ:Type):ō ρ:=⟨[],5,0,yk,fun(p:Val ai) (v:Int) b a=>iF p.2.2.2.2.2.1 v (fun c=>b c) (a 0) (a 1)⟩
def we (ρ:Type):Env ρ:=î [] [og ρ]
def CJ:Ğ:=⟨[Ã,Ñ,tI,tI],[tI],fun(x:Val (.pair Ã (.pair Ñ Æ)))=>kD x.1 x.2.1 x.2.2.1 x.2.2.2⟩
def tk:Ë:=Ls 0 [tI,tI,af,tI,tI,tI,ae,aa,af,ac,aa,tI,tI,tI,tI,tI,tI,tI,tI] [tI,tI] ⟨88,aN 2 (.con tI::.con tI::.box 0 0::.box 1 0::aN 3 (.var tI::aN 7 [.con af,.con tI,.var tI])),[aP,aQ]⟩ [(.exit 0,⟨88,aN 2 (.con tI::.con tI::.box 0 0::.box 1 0::aN 3 (.var tI::aN 7 [.con af,.con tI])),[aP,aQ]⟩,[tI])]
def tj (ρ:Type):ō ρ:=⟨[],50,0,tk,fun(p:Val (tyL tk.cs)) (v:a7) a b=>mF p.1 p.2.1 p.2.2.1 p.2.2.2.1 p.2.2.2.2.2.2.2.2.2.2.2.1 v.1 v.2 (fun c d=>a (c,d)) (b 0)⟩
def tg:Ë:=Ls 0 [tI,tI,tI,aa,tI,tI,tI,tI,tI,tI,tI,tI,tI] [tI,ab] ⟨88,aN 2 (.con tI::.con tI::.any::.box 0 0::aN 3 (.con tI::aN 3 (.own 1::aN 39 [.con aa,.con tI,.var tI]))),[aQ,.rowv tI]⟩ [(.exit 2,⟨88,aN 2 (.con tI::.con tI::.any::.box 0 0::aN 3 (.con tI::aN 3 (.own 1::aN 39 [.con aa,.con tI]))),[aQ,.rowv tI]⟩,[ab])]
def tf (ρ:Type):ō ρ:=⟨[],50,2,tg,fun(p:Val (tyL tg.cs)) (v:pc) a b=>mE p.1 p.2.1 p.2.2.2.1 p.2.2.2.2.1 p.2.2.2.2.2.1 v.1 v.2 (fun c d=>a (c,d)) (b 0)⟩
def uZ (ρ:Type):Env ρ:=î [(104,Ÿ)] [tj ρ,tf ρ]
def Ŭ:Ğ:=⟨[aa,Æ],[tI],fun(x:Val (.pair aa Æ))=>Ď x.1 x.2⟩
def fV:Ë:=Ls 0 [aa,tI,tI,tI] [tI] ⟨19,[.con aa,.any,.any,.box 0 0,.any,.any,.any,.con tI,.var tI],[aV]⟩ [(.ret,⟨19,[.con aa,.any,.any,.box 0 0,.var tI,.any,.any,.con tI],[aV]⟩,[tI]),(.exit 0,⟨19,[.con aa,.any,.any,.box 0 0,.any,.any,.any,.con tI],[aV]⟩,[])]
def ņ (ρ:Type):ō ρ:=⟨[],112,0,fV,fun(p:Val (.pair aa nP)) (v:Int) b a=>ă p.1 p.2.1 p.2.2.1 p.2.2.2 v (fun c=>b c) (a 0) (a 1)⟩
def Ş (ρ:Type):Env ρ:=î [] [ņ ρ]
def oa:Ğ:=⟨[aB,ab,tI],[tI],fun(x:Val (.pair aB (.pair ab tI)))=>ŏ x.1 x.2.1 x.2.2⟩
def Aq (ρ:Type):Env ρ:=î [(112,Ŭ)] []
def ni:Ğ:=⟨[ak,ab],[Æ],fun(x:Val (.pair ak ab))=>ş x.1 x.2⟩
def sX (ρ:Type):Env ρ:=î [] []
def lh:Ğ:=⟨[aa],[tI],fun(x:bx)=>Ο x⟩
def Al:Ë:=Ls 0 [aa,tI] [tI] ⟨15,aN 5 [.con aa,.con tI,.var tI],[]⟩ [(.ret,⟨15,[.any,.any,.var tI,.any,.any,.con aa,.con tI],[]⟩,[tI]),(.exit 0,⟨15,aN 5 [.con aa,.con tI],[]⟩,[])]
def qA (ρ:Type):ō ρ:=⟨[],162,0,Al,fun(p:v6) (v:Int) b a=>jZ p.1 p.2 v (fun c=>b c) (a 0) (a 1)⟩
def yx (ρ:Type):Env ρ:=î [(166,sm)] [qA ρ]
def rj:Ğ:=⟨[tI,tI],[Æ,tI],fun(x:a7)=>jx x.1 x.2⟩
def C0 (ρ:Type):Env ρ:=î [(213,CG),(214,G5)] []
def LV:Ğ:=⟨[Æ,Æ],[Æ,tI],fun(x:px)=>Dr x.1 x.2⟩
def Mv (ρ:Type):Env ρ:=î [(162,lh),(208,rj)] []
def sq:Ğ:=⟨[Æ,Æ],[Æ],fun(x:px)=>mU x.1 x.2⟩
def yC (ρ:Type):Env ρ:=î [(164,LV)] []
def G6:Ğ:=⟨[Æ,Æ],[tI],fun(x:px)=>zu x.1 x.2⟩
def Ms (ρ:Type):Env ρ:=î [] []
def qp:Ğ:=⟨[Ġ],[.bool],fun(x:px)=>kR x⟩
def wQ (ρ:Type):Env ρ:=î [(162,lh),(240,G6)] []
def LW:Ğ:=⟨[Æ,Æ],[Æ,tI],fun(x:px)=>zx x.1 x.2⟩
def Mx (ρ:Type):Env ρ:=î [(162,lh),(208,rj)] []
def EF:Ğ:=⟨[Ġ,Æ],[Ġ,tI],fun(x:Val (.pair Ġ Æ))=>zw x.1 x.2⟩
def wj:AS (Nat×Ğ):=[(166,sm),(209,qp),(212,LW),(240,G6)]
def mz (ρ:Type):AS (ō ρ):=[]
def wi:AS Qg:=[⟨[3,2],210,0,4⟩]
def E9 (ρ:Type):Env ρ:=î wj (mz ρ)
def ry (ρ:Type):Env ρ:=mkEnvU wj (mz ρ) wi
def sn:Ğ:=⟨[Æ,Æ],[Ġ],fun(x:px)=>iO x.1 x.2⟩
def yB (ρ:Type):Env ρ:=î [(165,EF)] []
def pj:Ğ:=⟨[Ã,Ì],[Ġ],fun(x:Val aM)=>gB x.1 x.2⟩
def Fo (ρ:Type):Env ρ:=î [(49,gg),(53,ph),(121,ni),(122,sq),(123,sn)] []
def ya:Ğ:=⟨[Ã,Ì],[Æ],fun(x:Val aM)=>l5 x.1 x.2⟩
def Hm (ρ:Type):Env ρ:=î [] []
def xW:Ğ:=⟨[tI,tI],[tI],fun(x:a7)=>oO x.1 x.2⟩
def He (ρ:Type):Env ρ:=î [] []
def CH:Ğ:=⟨[Æ],[tI,tI],fun(x:a7)=>ud x⟩
def Kr (ρ:Type):Env ρ:=î [(162,lh),(163,xW)] []
def xX:Ğ:=⟨[Æ],[tI,tI],fun(x:a7)=>oP x⟩
def Hg (ρ:Type):Env ρ:=î [(162,lh),(163,xW)] []
def CI:Ğ:=⟨[Ã,Ì],[Æ],fun(x:Val aM)=>mT x.1 x.2⟩
def Ks (ρ:Type):Env ρ:=î [(57,pj),(118,ya),(119,CH),(120,xX)] []
def xi:Ğ:=⟨[Ã],[aB],fun(x:an)=>pD x⟩
def ta:Ë:=Ls 2 [tI,ab,tI,ae,tI,tI,tI,tI,ae,aa,af,ac,aa,tI,tI,ae,aa,af,ac,aa,aa,tI,tI,tI,tI,tI,tI,tI,tI,tI] [tI,ah,aa] ⟨144,.box 1 0::.any::.con tI::.box 2 0::.con ab::.con tI::.var tI::aN 24 [.con ae,.con tI,.con tI],[aP,aW,aQ,.rowv nP,.rowv Æ]⟩ [(.exit 2,⟨144,.box 1 0::.any::.con tI::.box 2 0::.con ab::.con tI::aN 25 [.con ae,.con tI,.con tI],[aP,aW,aQ,.rowv nP,.rowv Æ]⟩,[ah,aa])]
def s9 (ρ:Type):ō ρ:=⟨[2,1],101,2,ta,fun(p:Val (tyL ta.cs)) (v:nx) a b=>let A:=p.2.2.2.2.2.2.2.2.2.2.2.2.2;let B:=A.2.2.2.2;let C:=B.2.2.2.2.2;let D:=C.2.2.2.2;mC p.1 p.2.1 p.2.2.1 A.1 A.2.1 A.2.2.1 A.2.2.2.1 B.1 B.2.1 B.2.2.1 C.1 C.2.1 C.2.2.1 C.2.2.2.1 D.1 D.2.1 D.2.2.1 D.2.2.2 v.1 v.2.1 v.2.2 (fun c d e=>a (c,d,e)) (b 0)⟩
def td:Ë:=Ls 2 [ae,tI,tI,tI,ae,aa,af,ac,aa,tI,tI,ae,aa,af,ac,aa,aa,tI] [tI,ah,aa] ⟨144,.box 1 0::aN 30 [.con ae,.con tI,.var tI],bi⟩ [(.exit 0,⟨144,.box 1 0::aN 30 [.con ae,.con tI],bi⟩,[ah,aa])]
def tc (ρ:Type):ō ρ:=⟨[2,1],101,0,td,fun(p:Val (tyL td.cs)) (v:nx) a b=>let A:=p.2.2.2.2.2.2.2.2.2;let B:=A.2.2.2.2;mD p.1 p.2.1 A.1 A.2.1 A.2.2.1 A.2.2.2.1 B.1 B.2.1 B.2.2.1 B.2.2.2.1 B.2.2.2.2 v.1 v.2.1 v.2.2 (fun c d e=>a (c,d,e)) (b 0)⟩
def s8:Ë:=Ls 2 [ac,tI,tI,tI,ae,aa,af,ac,aa,tI,tI,ae,aa,af,ac,aa,aa,tI] [tI,ah,aa] ⟨144,.box 1 0::aN 107 [.con ac,.con tI,.var tI],bi⟩ [(.exit 4,⟨144,.box 1 0::aN 107 [.con ac,.con tI],bi⟩,[ah,aa])]
def s7 (ρ:Type):ō ρ:=⟨[2,1],101,4,s8,fun(p:Val (tyL s8.cs)) (v:nx) a b=>let A:=p.2.2.2.2.2.2.2.2.2;let B:=A.2.2.2.2;mB p.1 p.2.1 A.1 A.2.1 A.2.2.1 A.2.2.2.1 B.1 B.2.1 B.2.2.1 B.2.2.2.1 B.2.2.2.2 v.1 v.2.1 v.2.2 (fun c d e=>a (c,d,e)) (b 0)⟩
def pn (ρ:Type):Env ρ:=î [(50,CJ),(52,oa),(53,ph),(58,CI),(59,sr),(124,CK)] [s9 ρ,tc ρ,s7 ρ]
def lm:Ğ:=⟨[aB,ab],[tI],fun(x:Val (.pair aB ab))=>Ž x.1 x.2⟩
def nB:Ë:=Ls 0 [ab,tI] [tI] ⟨19,.con ab::.fn 103 []::aN 5 [.con tI,.var tI],[]⟩ [(.ret,⟨19,[.con ab,.fn 103 [],.any,.any,.var tI,.any,.any,.con tI],[]⟩,[tI]),(.exit 0,⟨19,.con ab::.fn 103 []::aN 5 [.con tI],[]⟩,[])]
def f8 (ρ:Type):ō ρ:=⟨[1,10,1,2],152,0,nB,fun(p:th) (v:Int) b a=>ň p.1 p.2 v (fun c=>b c) (a 0) (a 1)⟩
def jq (ρ:Type):Env ρ:=î [(104,Ÿ)] [f8 ρ]
def CF:Ğ:=⟨[æ,tI],[.bool],fun(x:Val (.pair æ tI))=>pB x.1 x.2⟩
def Ko (ρ:Type):Env ρ:=î [] []
def xV:Ğ:=⟨[æ],[tI,tI],fun(x:py)=>oM x⟩
def qz:Ë:=Ls 0 [ah,tI,tI,ah] [tI] ⟨57,.any::.box 0 0::aN 17 [.con ah,.con tI,.var tI],[aY]⟩ [(.ret,⟨57,.any::.box 0 0::.var tI::.var tI::aN 15 [.con ah,.con tI],[aY]⟩,[tI,tI]),(.exit 0,⟨57,.any::.box 0 0::aN 17 [.con ah,.con tI],[aY]⟩,[])]
def qy (ρ:Type):ō ρ:=⟨[],153,0,qz,fun(p:Val (tyL qz.cs)) (v:Int) b a=>jY p.1 p.2.1 p.2.2.1 p.2.2.2 v (fun c=>b c) (a 0) (a 1)⟩
def yv (ρ:Type):Env ρ:=î [(159,CF)] [qy ρ]
def Iz:Ğ:=⟨[æ,ab],[.bool,tI],fun(x:Val (.pair æ ab))=>xx x.1 x.2⟩
def sV:Ë:=Ls 1 [ab,tI,tI,ah] [tI] ⟨19,.con ab::.fn 154 []::aN 5 [.con tI,.var tI],[aY]⟩ [(.ret,⟨19,[.con ab,.fn 154 [],.any,.any,.var tI,.any,.any,.con tI],[aY]⟩,[tI]),(.exit 0,⟨19,.con ab::.fn 154 []::aN 5 [.con tI],[aY]⟩,[])]
def sU (ρ:Type):ō ρ:=⟨[4,7,1,2],152,0,sV,fun(p:Val (tyL sV.cs)) (v:Int) b a=>mw p.1 p.2.1 v (fun c=>b c) (a 0) (a 1)⟩
def sT:Ë:=Ls 0 [ab,ah,tI] [tI] ⟨53,.any::.con ab::aN 26 [.con ah,.con tI,.var tI],[]⟩ [(.ret,⟨53,.any::.con ab::aN 2 (.var .bool::.var tI::aN 22 [.con ah,.con tI]),[]⟩,[.bool,tI]),(.exit 0,⟨53,.any::.con ab::aN 26 [.con ah,.con tI],[]⟩,[])]
def sS (ρ:Type):ō ρ:=⟨[],105,0,sT,fun(p:Val (tyL sT.cs)) (v:Int) b a=>gi p.1 p.2.1 p.2.2 v (fun c=>b c) (a 0) (a 1)⟩
def uW (ρ:Type):Env ρ:=î [(153,xV)] [sU ρ,sS ρ]
def qq:Ğ:=⟨[aB,ab],[.bool],fun(x:Val (.pair aB ab))=>gH x.1 x.2⟩
def wU (ρ:Type):Env ρ:=î [(105,Iz)] []
def CO:Ğ:=⟨[Ã,ab],[.bool,tI],fun(x:Val (.pair Ã ab))=>mW x.1 x.2⟩
def Kv (ρ:Type):Env ρ:=î [(23,fE),(45,xi),(46,lm),(47,qq)] []
def EI:Ğ:=⟨[Ã,tI,ab],[tI],fun(x:Val (.pair Ã ay))=>ug x.1 x.2.1 x.2.2⟩
def AE:Ë:=Ls 1 [ab,tI,tI,tI,ae,aa,af,ac,aa] [tI] ⟨19,.con ab::.fn 106 []::aN 5 [.con tI,.var tI],[aP]⟩ [(.ret,⟨19,[.con ab,.fn 106 [],.any,.any,.var tI,.any,.any,.con tI],[aP]⟩,[tI]),(.exit 0,⟨19,.con ab::.fn 106 []::aN 5 [.con tI],[aP]⟩,[])]
def qJ (ρ:Type):ō ρ:=⟨[4,1,1,2],152,0,AE,fun(p:Val (.pair ab aK)) (v:Int) b a=>kf p.1 p.2.1 v (fun c=>b c) (a 0) (a 1)⟩
def yL (ρ:Type):Env ρ:=î [(23,fE),(49,gg),(60,ln)] [qJ ρ]
def CN:Ğ:=⟨[Ã,tI,tI,tI],[tI,tI],fun(x:Val (.pair Ã nP))=>pG x.1 x.2.1 x.2.2.1 x.2.2.2⟩
def Ku (ρ:Type):Env ρ:=î [(48,EI),(49,gg),(50,CJ)] []
def IB:Ğ:=⟨[Ã,Ì],[Ã,tI],fun(x:Val aM)=>pE x.1 x.2⟩
def tG:Ë:=Ls 8 [tI,tI,tI,ae,aa,af,ac,aa,tI,tI,ab,ab,tI,tI,tI,tI,tI,tI,tI,tI,ae,aa,af,ac,aa,tI,tI,tI,tI,ac,tI,tI,ae,aa,af,aa] [tI,ac] ⟨50,.any::.box 8 0::.box 9 0::.own 10::aN 21 [.own 10,.con tI,.var tI],bj⟩ [(.exit 0,⟨50,.any::.box 8 0::.box 9 0::.own 10::aN 21 [.own 10,.con tI],bj⟩,[ac])]
def tF (ρ:Type):ō ρ:=⟨[2,2,4,1],157,0,tG,fun(p:Val (tyL tG.cs)) (v:Val (.pair tI ac)) a b=>mM p.1 v.1 v.2 (fun c d=>a (c,d)) (b 0)⟩
def BJ (ρ:Type):Env ρ:=î [(23,fE)] [tF ρ]
def vZ:Ğ:=⟨[æ,am],[ab,.bool],fun(x:Val (.pair æ am))=>kz x.1 x.2⟩
def lN:Ë:=Ls 2 [am,ah,tI,tI,ah,ab,tI,ah,ar,ab] [tI,tI] ⟨140,.any::.con am::.own 1::.box 2 0::aN 3 (.box 3 0::.own 4::.own 5::.var tI::aN 14 [.con ah,.con tI,.var tI]),[aY,.rowc tI,aY,.cells [.nils],.rowc .bool,.rowc tI]⟩ [(.exit 0,⟨140,.any::.con am::.own 1::.box 2 0::aN 3 (.box 3 0::.own 4::.own 5::.var tI::aN 14 [.con ah,.con tI]),[aY,.rowc tI,aY,.cells [.nils],.rowc .bool,.rowc tI]⟩,[tI])]
def lM (ρ:Type):ō ρ:=⟨[2,3],161,0,lN,fun(p:Val (tyL lN.cs)) (v:a7) a b=>Ō p.2.1 p.2.2.1 v.1 v.2 (fun c d=>a (c,d)) (b 0)⟩
def lL:Ë:=Ls 2 [am,tI,tI,tI,ah,ab,tI,ah,ab] [tI,ar,ab] ⟨140,.any::.con am::.own 1::.box 2 0::aN 3 (.box 3 0::.own 4::.own 5::.con tI::aN 27 [.con tI,.var tI]),bl⟩ [(.exit 2,⟨140,.any::.con am::.own 1::.box 2 0::aN 3 (.box 3 0::.own 4::.own 5::.con tI::aN 27 [.con tI]),bl⟩,[ar,ab])]
def lK (ρ:Type):ō ρ:=⟨[2,3],161,2,lL,fun(p:Val (tyL lL.cs)) (v:v7) a b=>ġ p.2.2.1 p.2.2.2.2.2.1 v.1 v.2.1 v.2.2 (fun c d e=>a (c,d,e)) (b 0)⟩
def lH:Ë:=Ls 2 [am,tI,tI,ah,tI,tI,ah,tI,ah,ab] [tI,ab,ar,ab] ⟨140,.any::.con am::.own 1::.box 2 0::aN 3 (.box 3 0::.own 4::.own 5::.con tI::aN 3 (.con tI::aN 62 [.con ah,.con tI,.var tI])),bm⟩ [(.ret,⟨140,.any::.con am::.own 1::.box 2 0::aN 2 (.var .bool::.box 3 0::.own 4::.own 5::.con tI::aN 3 (.con tI::aN 62 [.con ah,.con tI])),bm⟩,[.bool,ab,ar,ab]),(.exit 6,⟨140,.any::.con am::.own 1::.box 2 0::aN 3 (.box 3 0::.own 4::.own 5::.con tI::aN 3 (.con tI::aN 62 [.con ah,.con tI])),bm⟩,[ab,ar,ab])]
def lG (ρ:Type):ō ρ:=⟨[2,3],161,6,lH,fun(p:Val (tyL lH.cs)) (v:fy) b a=>ů p.1 p.2.1 p.2.2.1 p.2.2.2.1 p.2.2.2.2.1 v.1 v.2.1 v.2.2.1 v.2.2.2 (fun c d e f=>b (c,d,e,f)) (a 0) (a 1)⟩
def lJ:Ë:=Ls 2 [am,tI,tI,ah,tI,ah] [ab,ar,ab,ab] ⟨140,[.any,.con am,.own 1,.box 2 0,.any,.any,.any,.box 3 0,.own 4,.own 5,.con tI],bn⟩ [(.ret,⟨140,[.any,.con am,.own 1,.box 2 0,.any,.any,.var .bool,.box 3 0,.own 4,.own 5,.con tI],bn⟩,[.bool,ab,ar,ab,ab])]
def lI (ρ:Type):ō ρ:=⟨[2,3],161,4,lJ,fun(p:Val (tyL lJ.cs)) (v:Val aE) a b=>Ć p.1 p.2.1 p.2.2.2.2.1 p.2.2.2.2.2 v.1 v.2.1 v.2.2.1 v.2.2.2 (fun c d e f=>a (c,d,e,f)) (b 0)⟩
def uU:Ë:=Ls 0 [tI,tI] [tI,ab] ⟨34,aN 6 (.own 0::.con tI::aN 13 [.con tI,.var tI]),[.rowv tI]⟩ [(.exit 0,⟨34,aN 6 (.own 0::.con tI::aN 13 [.con tI]),[.rowv tI]⟩,[ab])]
def lF (ρ:Type):ō ρ:=⟨[],160,0,uU,fun(p:a7) (v:pc) a b=>Ů p.1 p.2 v.1 v.2 (fun c d=>a (c,d)) (b 0)⟩
def ł (ρ:Type):Env ρ:=î [] [lM ρ,lK ρ,lG ρ,lI ρ,lF ρ]
def ED:Ğ:=⟨[æ,ab],[tI],fun(x:Val (.pair æ ab))=>t8 x.1 x.2⟩
def qx:Ë:=Ls 0 [ab,tI,tI,ah] [tI] ⟨37,aN 2 (.box 0 0::aN 16 [.con ab,.con tI,.var tI]),[aY]⟩ [(.ret,⟨37,aN 2 (.box 0 0::.any::.var tI::aN 14 [.con ab,.con tI]),[aY]⟩,[tI]),(.exit 0,⟨37,aN 2 (.box 0 0::aN 16 [.con ab,.con tI]),[aY]⟩,[])]
def qw (ρ:Type):ō ρ:=⟨[],116,0,qx,fun(p:Val (tyL qx.cs)) (v:Int) b a=>jX p.1 p.2.1 p.2.2.1 p.2.2.2 v (fun c=>b c) (a 0) (a 1)⟩
def yr (ρ:Type):Env ρ:=î [(153,xV),(159,CF),(160,vZ)] [qw ρ]
def Bq:Ğ:=⟨[æ,am,tI],[ab],fun(x:Val (.pair æ (.pair am tI)))=>pC x.1 x.2.1 x.2.2⟩
def oy:Ë:=Ls 0 [am,tI,tI,tI,ah] [tI,ab] ⟨29,.any::.con am::.con tI::.box 0 0::aN 3 (.own 1::aN 5 [.con tI,.var tI]),[aY,.rowv tI]⟩ [(.exit 0,⟨29,.any::.con am::.con tI::.box 0 0::aN 3 (.own 1::aN 5 [.con tI]),[aY,.rowv tI]⟩,[ab])]
def ox (ρ:Type):ō ρ:=⟨[],117,0,oy,fun(p:Val (tyL oy.cs)) (v:pc) a b=>iG p.2.2.1 v.1 v.2 (fun c d=>a (c,d)) (b 0)⟩
def ow:Ë:=Ls 2 [am,ah,tI,tI,ah,ab,tI,ah,ar,ab] [tI,tI] ⟨140,.any::.con am::.own 1::.box 2 0::aN 3 (.box 3 0::.own 4::.own 5::.var tI::aN 14 [.con ah,.con tI,.var tI]),[aY,.rowc tI,aY,.cells [.nils],.rowc .bool,.rowc tI]⟩ [(.exit 0,⟨140,.any::.con am::.own 1::.box 2 0::aN 3 (.box 3 0::.own 4::.own 5::.var tI::aN 14 [.con ah,.con tI]),[aY,.rowc tI,aY,.cells [.nils],.rowc .bool,.rowc tI]⟩,[tI])]
def ov (ρ:Type):ō ρ:=⟨[8,3],161,0,ow,fun(p:Val (tyL ow.cs)) (v:a7) a b=>mu p.2.1 p.2.2.1 v.1 v.2 (fun c d=>a (c,d)) (b 0)⟩
def ou:Ë:=Ls 2 [am,tI,tI,tI,ah,ab,tI,ah,ab] [tI,ar,ab] ⟨140,.any::.con am::.own 1::.box 2 0::aN 3 (.box 3 0::.own 4::.own 5::.con tI::aN 27 [.con tI,.var tI]),bl⟩ [(.exit 2,⟨140,.any::.con am::.own 1::.box 2 0::aN 3 (.box 3 0::.own 4::.own 5::.con tI::aN 27 [.con tI]),bl⟩,[ar,ab])]
def ot (ρ:Type):ō ρ:=⟨[8,3],161,2,ou,fun(p:Val (tyL ou.cs)) (v:v7) a b=>mr p.2.2.1 p.2.2.2.2.2.1 v.1 v.2.1 v.2.2 (fun c d e=>a (c,d,e)) (b 0)⟩
def om:Ë:=Ls 2 [am,tI,tI,ah,tI,tI,ah,tI,ah,ab] [tI,ab,ar,ab] ⟨140,.any::.con am::.own 1::.box 2 0::aN 3 (.box 3 0::.own 4::.own 5::.con tI::aN 3 (.con tI::aN 62 [.con ah,.con tI,.var tI])),bm⟩ [(.ret,⟨140,.any::.con am::.own 1::.box 2 0::aN 2 (.var .bool::.box 3 0::.own 4::.own 5::.con tI::aN 3 (.con tI::aN 62 [.con ah,.con tI])),bm⟩,[.bool,ab,ar,ab]),(.exit 6,⟨140,.any::.con am::.own 1::.box 2 0::aN 3 (.box 3 0::.own 4::.own 5::.con tI::aN 3 (.con tI::aN 62 [.con ah,.con tI])),bm⟩,[ab,ar,ab])]
def ol (ρ:Type):ō ρ:=⟨[8,3],161,6,om,fun(p:Val (tyL om.cs)) (v:fy) b a=>sR p.1 p.2.1 p.2.2.1 p.2.2.2.1 p.2.2.2.2.1 v.1 v.2.1 v.2.2.1 v.2.2.2 (fun c d e f=>b (c,d,e,f)) (a 0) (a 1)⟩
def oq:Ë:=Ls 2 [am,tI,tI,ah,tI,ah] [ab,ar,ab,ab] ⟨140,[.any,.con am,.own 1,.box 2 0,.any,.any,.any,.box 3 0,.own 4,.own 5,.con tI],bn⟩ [(.ret,⟨140,[.any,.con am,.own 1,.box 2 0,.any,.any,.var .bool,.box 3 0,.own 4,.own 5,.con tI],bn⟩,[.bool,ab,ar,ab,ab])]
def oo (ρ:Type):ō ρ:=⟨[8,3],161,4,oq,fun(p:Val (tyL oq.cs)) (v:Val aE) a b=>mq p.1 p.2.1 p.2.2.2.2.1 p.2.2.2.2.2 v.1 v.2.1 v.2.2.1 v.2.2.2 (fun c d e f=>a (c,d,e,f)) (b 0)⟩
def Ű (ρ:Type):Env ρ:=î [] [ox ρ,ov ρ,ot ρ,ol ρ,oo ρ]
def EE:Ğ:=⟨[æ,tI,tI],[tI,tI],fun(x:Val (.pair æ Æ))=>oN x.1 x.2.1 x.2.2⟩
def Hd (ρ:Type):Env ρ:=î [(116,ED),(117,Bq)] []
def EG:Ğ:=⟨[Ã,Ì,Æ],[Æ,tI],fun(x:Val (.pair Ã (.pair Ì Æ)))=>lZ x.1 x.2.1 x.2.2⟩
def Hk (ρ:Type):Env ρ:=î [(57,pj),(118,ya),(119,CH),(120,xX)] []
def rl:Ğ:=⟨[Ã,Ì],[Æ,tI],fun(x:Val aM)=>χ x.1 x.2⟩
def C9 (ρ:Type):Env ρ:=î [(45,xi),(51,IB),(52,oa),(53,ph),(54,EE),(55,EG)] []
def vY:Ğ:=⟨[],[Ã],fun(_:Unit)=>oL⟩
def Ad (ρ:Type):Env ρ:=î [] []
def xY:Ğ:=⟨[Ã,tI],[Ì,tI],fun(x:Val aH)=>oQ x.1 x.2⟩
def Hj (ρ:Type):Env ρ:=î [(23,fE)] []
def Bs:Ğ:=⟨[Ã,tI],[Ġ,tI],fun(x:Val aH)=>pH x.1 x.2⟩
def Fu (ρ:Type):Env ρ:=î [(56,xY),(57,pj)] []
def IC:Ğ:=⟨[Ã,tI],[Æ,tI],fun(x:Val aH)=>xy x.1 x.2⟩
def Kt (ρ:Type):Env ρ:=î [(56,xY),(58,CI)] []
def EK:Ğ:=⟨[Ã],[aa,tI],fun(x:an)=>uh x⟩
def Hn (ρ:Type):Env ρ:=î [(23,fE),(59,sr)] []
def Br:Ğ:=⟨[Ã],[æ,aa,tI],fun(x:an)=>pF x⟩
def Fs (ρ:Type):Env ρ:=î [(23,fE),(45,xi)] []
def LX:Ğ:=⟨[Ã,tI,ab,ab],[.bool,tI],fun(x:Val (.pair Ã (.pair tI (.pair ab ab))))=>Ds x.1 x.2.1 x.2.2.1 x.2.2.2⟩
def wo:Ë:=Ls 0 [tI,ab,ab,ak,ab,tI,tI,tI,ae,aa,af,ac,aa] [tI] ⟨85,.any::.con tI::.con ab::.con ab::.box 0 0::aN 6 (.con ak::aN 29 [.con ab,.con tI,.var tI]),[aP]⟩ [(.ret,⟨85,.any::.con tI::.con ab::.con ab::.box 0 0::aN 3 (.var .bool::.var tI::.any::.con ak::aN 29 [.con ab,.con tI]),[aP]⟩,[.bool,tI]),(.exit 0,⟨85,.any::.con tI::.con ab::.con ab::.box 0 0::aN 6 (.con ak::aN 29 [.con ab,.con tI]),[aP]⟩,[])]
def wn (ρ:Type):ō ρ:=⟨[],22,0,wo,fun(p:Val (tyL wo.cs)) (v:Int) b a=>let A:=p.2.2.2.2;let B:=A.2.2.2.2;po p.1 p.2.2.2.1 A.1 A.2.1 A.2.2.1 A.2.2.2.1 B.1 B.2.1 B.2.2.1 B.2.2.2.1 B.2.2.2.2 v (fun c=>b c) (a 0) (a 1)⟩
def Fv (ρ:Type):Env ρ:=î [(23,fE),(49,gg),(53,ph),(60,ln),(61,uP),(62,fD),(63,CM),(64,Λ)] [wn ρ]
def xU:Ğ:=⟨[],[.bool],fun(_:Unit)=>ń⟩
def sI (ρ:Type):Env ρ:=î [(14,CO),(15,CN),(16,rl),(17,vY),(18,Bs),(19,IC),(20,EK),(21,Br),(22,LX)] []
def IA:Ğ:=⟨[.str,ab],[.str],fun(x:Val (.pair .str ab))=>fR x.1 x.2⟩
def C4:Ë:=Ls 0 [ab,tI] [.str,tI] ⟨20,.var .str::aN 6 [.con ab,.con tI,.var tI],[]⟩ [(.exit 0,⟨20,.var .str::aN 6 [.con ab,.con tI],[]⟩,[.str])]
def tp (ρ:Type):ō ρ:=⟨[],24,0,C4,fun(p:th) (v:pl) a b=>mG p.1 p.2 v.1 v.2 (fun c d=>a (c,d)) (b 0)⟩
def BD (ρ:Type):Env ρ:=î [(68,qn)] [tp ρ]
def yb:Ğ:=⟨[Ã],[.str,tI],fun(x:an)=>Τ x⟩
def AK:Ë:=Ls 0 [ae,tI,tI,tI,ae,aa,af,ac,aa] [tI,ao] ⟨158,.any::.box 0 0::aN 3 (.own 1::aN 25 [.con ae,.con tI,.var tI]),bo⟩ [(.exit 0,⟨158,.any::.box 0 0::aN 3 (.own 1::aN 25 [.con ae,.con tI]),bo⟩,[ao])]
def qO (ρ:Type):ō ρ:=⟨[],7,0,AK,fun(p:Val (.pair ae aK)) (v:At) a b=>kp p.1 p.2.1 v.1 v.2 (fun c d=>a (c,d)) (b 0)⟩
def AJ:Ë:=Ls 0 [aa,tI,tI,tI,ae,aa,af,ac,aa] [tI,ao] ⟨158,.any::.box 0 0::aN 3 (.own 1::aN 58 [.con aa,.con tI,.var tI]),bo⟩ [(.exit 2,⟨158,.any::.box 0 0::aN 3 (.own 1::aN 58 [.con aa,.con tI]),bo⟩,[ao])]
def qN (ρ:Type):ō ρ:=⟨[],7,2,AJ,fun(p:Val (.pair aa aK)) (v:At) a b=>km p.1 p.2.1 v.1 v.2 (fun c d=>a (c,d)) (b 0)⟩
def AI:Ë:=Ls 0 [af,tI,tI,tI,ae,aa,af,ac,aa] [tI,ao] ⟨158,.any::.box 0 0::aN 3 (.own 1::aN 75 [.con af,.con tI,.var tI]),bo⟩ [(.exit 4,⟨158,.any::.box 0 0::aN 3 (.own 1::aN 75 [.con af,.con tI]),bo⟩,[ao])]
def qM (ρ:Type):ō ρ:=⟨[],7,4,AI,fun(p:Val (.pair af aK)) (v:At) a b=>kj p.1 p.2.1 v.1 v.2 (fun c d=>a (c,d)) (b 0)⟩
def AH:Ë:=Ls 0 [ac,tI,tI,tI,ae,aa,af,ac,aa] [tI,ao] ⟨158,.any::.box 0 0::aN 3 (.own 1::aN 98 [.con ac,.con tI,.var tI]),bo⟩ [(.exit 6,⟨158,.any::.box 0 0::aN 3 (.own 1::aN 98 [.con ac,.con tI]),bo⟩,[ao])]
def qL (ρ:Type):ō ρ:=⟨[],7,6,AH,fun(p:Val (.pair ac aK)) (v:At) a b=>ki p.1 p.2.1 v.1 v.2 (fun c d=>a (c,d)) (b 0)⟩
def AG:Ë:=Ls 0 [aa,tI] [tI,ao] ⟨158,aN 5 (.own 0::aN 133 [.con aa,.con tI,.var tI]),[.rowv .str]⟩ [(.exit 8,⟨158,aN 5 (.own 0::aN 133 [.con aa,.con tI]),[.rowv .str]⟩,[ao])]
def qK (ρ:Type):ō ρ:=⟨[],7,8,AG,fun(p:v6) (v:At) a b=>kg p.1 p.2 v.1 v.2 (fun c d=>a (c,d)) (b 0)⟩
def ς (ρ:Type):Env ρ:=î [(23,fE),(24,IA),(25,qm)] [qO ρ,qN ρ,qM ρ,qL ρ,qK ρ]
def rk:Ğ:=⟨[ao],[ab],fun(x:c8)=>Ħ x⟩
def wT:Ë:=Ls 0 [ao,tI] [tI,ab] ⟨27,aN 3 (.own 0::aN 4 [.con ao,.con tI,.var tI]),[.rowv tI]⟩ [(.exit 0,⟨27,aN 3 (.own 0::aN 4 [.con ao,.con tI]),[.rowv tI]⟩,[ab])]
def np (ρ:Type):ō ρ:=⟨[],74,0,wT,fun(p:Val (.pair ao tI)) (v:pc) a b=>gG p.1 p.2 v.1 v.2 (fun c d=>a (c,d)) (b 0)⟩
def Ao:AS (Nat×Ol):=[(136,.atoi)]
def iH (ρ:Type):Env ρ:=mkEnvX [] [np ρ] Ao
def EH:Ğ:=⟨[ao],[ab,ab],fun(x:c8)=>ue x⟩
def qE:Ë:=Ls 0 [ao,ao,tI] [tI] ⟨34,.con ao::aN 14 [.con ao,.con tI,.var tI],[]⟩ [(.ret,⟨34,.con ao::.any::.var ab::.var ab::aN 11 [.con ao,.con tI],[]⟩,[ab,ab]),(.exit 0,⟨34,.con ao::aN 14 [.con ao,.con tI],[]⟩,[])]
def qD (ρ:Type):ō ρ:=⟨[],80,0,qE,fun(p:Val (tyL qE.cs)) (v:Int) b a=>gN p.1 p.2.1 p.2.2 v (fun c=>b c) (a 0) (a 1)⟩
def yE (ρ:Type):Env ρ:=î [(74,rk)] [qD ρ]
def EJ:Ğ:=⟨[.str],[Ã,tI],fun(x:Val .str)=>l6 x⟩
def ť:Tpl:=⟨51,[.con .str,.any,.box 0 0,.box 1 0,.box 2 0,.box 3 0],[.cells [.var tI,.var tI,.var ae,.var aa,.var af,.var ac,.var aa],.cells [.var tI],.cells [.var tI,.var tI,.own 18,.own 19,.own 20,.own 21,.own 22],.cells [.ofn 5],.cells [.box 2 0],.fns [((ByteArray.mk #[102,105,108,109]),73,[(6,0),(7,0)]),((ByteArray.mk #[103,97,117,103,101]),73,[(8,0),(9,0)]),((ByteArray.mk #[117,115,101]),73,[(10,0),(11,0)]),((ByteArray.mk #[108,111,97,110]),73,[(12,0),(13,0)]),((ByteArray.mk #[99,111,109,112,97,114,101]),73,[(14,0),(15,0)]),((ByteArray.mk #[108,111,111,107]),73,[(16,0),(17,0)])],.cells [.con tI],.cells [.fn 75 [(4,0)]],.cells [.con tI],.cells [.fn 76 [(4,0)]],.cells [.con tI],.cells [.fn 77 [(4,0)]],.cells [.con tI],.cells [.fn 78 [(4,0)]],.cells [.con tI],.cells [.fn 79 [(4,0)]],.cells [.con tI],.cells [.fn 81 [(4,0)]],.rowv Ñ,.rowv Æ,.rowv Κ,.rowv Ì,.rowv Æ]⟩
def qP:Tpl:=⟨51,[.con .str,.any,.box 0 0,.box 1 0,.box 2 0,.box 3 0],[.cells [.var tI,.var tI,.var ae,.var aa,.var af,.var ac,.var aa],.cells [.var tI],.cells [.any,.any,.any,.any,.any,.any,.any],.cells [.ofn 5],.cells [.box 2 0],.fns [((ByteArray.mk #[102,105,108,109]),73,[(6,0),(7,0)]),((ByteArray.mk #[103,97,117,103,101]),73,[(8,0),(9,0)]),((ByteArray.mk #[117,115,101]),73,[(10,0),(11,0)]),((ByteArray.mk #[108,111,97,110]),73,[(12,0),(13,0)]),((ByteArray.mk #[99,111,109,112,97,114,101]),73,[(14,0),(15,0)]),((ByteArray.mk #[108,111,111,107]),73,[(16,0),(17,0)])],.cells [.con tI],.cells [.fn 75 [(4,0)]],.cells [.con tI],.cells [.fn 76 [(4,0)]],.cells [.con tI],.cells [.fn 77 [(4,0)]],.cells [.con tI],.cells [.fn 78 [(4,0)]],.cells [.con tI],.cells [.fn 79 [(4,0)]],.cells [.con tI],.cells [.fn 81 [(4,0)]]]⟩
def kJ:Cm:=⟨[],8,0,18,[.str,tI,tI,tI,tI,tI,tI],[tI,tI,ae,aa,af,ac,aa,tI,tI,tI,ae,aa,af,ac,aa],[tI,tI,ae,aa,af,ac,aa,tI],ť,qP,82,qR,fun(p:z6) (v:An) y=>ĭ p.2.1 p.2.2.1 p.2.2.2.1 p.2.2.2.2.1 p.2.2.2.2.2.1 p.2.2.2.2.2.2 v y⟩
def wm:AS Cm:=[kJ]
def ŗ (ρ:Type):Env ρ:={î [(7,yb),(28,nZ),(29,iu),(74,rk),(80,EH)] [] with ranges:=xq wm}
def sl:Ğ:=⟨[ab,ab],[.bool],fun(x:ly)=>ż x.1 x.2⟩
def sJ:Ë:=Ls 0 [ab,ab] [tI] ⟨26,[.con ab,.con ab,.any,.any,.any,.var tI],[]⟩ [(.ret,⟨26,[.con ab,.con ab,.any,.any,.var .bool],[]⟩,[.bool]),(.exit 0,⟨26,[.con ab,.con ab],[]⟩,[])]
def jW (ρ:Type):ō ρ:=⟨[],88,0,sJ,fun(p:ly) (v:Int) b a=>δ p.1 p.2 v (fun c=>b c) (a 0) (a 1)⟩
def oi (ρ:Type):Env ρ:=î [] [jW ρ]
def nh:Ğ:=⟨[Ì,Ì],[.bool],fun(x:Val (.pair Ì Ì))=>ι x.1 x.2⟩
def sL (ρ:Type):Env ρ:=î [(88,sl)] []
def qo:Ğ:=⟨[aa,aa],[.bool],fun(x:Val (.pair aa aa))=>Ξ x.1 x.2⟩
def ru:Ë:=Ls 0 [aa,aa] [tI] ⟨26,[.con aa,.con aa,.any,.any,.any,.var tI],[]⟩ [(.ret,⟨26,[.con aa,.con aa,.any,.any,.var .bool],[]⟩,[.bool]),(.exit 0,⟨26,[.con aa,.con aa],[]⟩,[])]
def jp (ρ:Type):ō ρ:=⟨[],33,0,ru,fun(p:Val (.pair aa aa)) (v:Int) b a=>Ź p.1 p.2 v (fun c=>b c) (a 0) (a 1)⟩
def nj (ρ:Type):Env ρ:=î [] [jp ρ]
def EC:Ğ:=⟨[Ã,Ã],[.bool],fun(x:Val (.pair Ã Ã))=>t7 x.1 x.2⟩
def Ah:Ë:=Ls 0 [tI,tI,ae,aa,af,ac,aa,tI,tI,ae,aa,af,ac,aa] [tI] ⟨130,[.any,.any,.box 0 0,.box 1 0,.any,.var tI],bp⟩ [(.ret,⟨130,[.any,.any,.box 0 0,.box 1 0,.var .bool],bp⟩,[.bool]),(.exit 0,⟨130,[.any,.any,.box 0 0,.box 1 0],bp⟩,[])]
def qu (ρ:Type):ō ρ:=⟨[],10,0,Ah,fun(p:Val ax) (v:Int) b a=>jV p.2.2.1 p.2.2.2.2.2.2.2.2.2.1 v (fun c=>b c) (a 0) (a 1)⟩
def Ag:Ë:=Ls 0 [tI,tI,ae,aa,af,ac,aa,tI,tI,ae,aa,af,ac,aa] [tI] ⟨130,[.any,.any,.box 0 0,.box 1 0,.any,.any,.var tI],bp⟩ [(.ret,⟨130,[.any,.any,.box 0 0,.box 1 0,.var .bool],bp⟩,[.bool]),(.exit 2,⟨130,[.any,.any,.box 0 0,.box 1 0],bp⟩,[])]
def qt (ρ:Type):ō ρ:=⟨[],10,2,Ag,fun(p:Val ax) (v:Int) b a=>jU p.2.2.2.1 p.2.2.2.2.2.2.2.2.2.2.1 v (fun c=>b c) (a 0) (a 1)⟩
def Af:Ë:=Ls 0 [tI,tI,ae,aa,af,ac,aa,tI,tI,ae,aa,af,ac,aa] [tI] ⟨130,[.any,.any,.box 0 0,.box 1 0,.any,.any,.any,.var tI],bp⟩ [(.ret,⟨130,[.any,.any,.box 0 0,.box 1 0,.var .bool],bp⟩,[.bool]),(.exit 4,⟨130,[.any,.any,.box 0 0,.box 1 0],bp⟩,[])]
def qs (ρ:Type):ō ρ:=⟨[],10,4,Af,fun(p:Val ax) (v:Int) b a=>jT p.2.2.2.2.1 p.2.2.2.2.2.2.2.2.2.2.2.1 v (fun c=>b c) (a 0) (a 1)⟩
def Ae:Ë:=Ls 0 [tI,tI,ae,aa,af,ac,aa,tI,tI,ae,aa,af,ac,aa] [tI] ⟨130,aN 2 (.box 0 0::.box 1 0::aN 4 [.var tI]),bp⟩ [(.ret,⟨130,[.any,.any,.box 0 0,.box 1 0,.var .bool],bp⟩,[.bool]),(.exit 6,⟨130,[.any,.any,.box 0 0,.box 1 0],bp⟩,[])]
def qr (ρ:Type):ō ρ:=⟨[],10,6,Ae,fun(p:Val ax) (v:Int) b a=>jS p.2.2.2.2.2.1 p.2.2.2.2.2.2.2.2.2.2.2.2.1 v (fun c=>b c) (a 0) (a 1)⟩
def jo (ρ:Type):Env ρ:=î [(32,nh),(33,qo)] [qu ρ,qt ρ,qs ρ,qr ρ]
def Bp:Ğ:=⟨[Ì],[.bool],fun(x:c7)=>pA x⟩
def EY (ρ:Type):Env ρ:=î [] []
def ŷ:Ğ:=⟨[Ã,ab,tI,tI,tI,tI,Ì,.str],[.bool],fun(x:Val (.pair Ã (.pair ab (.pair tI (.pair tI (.pair tI (.pair tI (.pair Ì .str))))))))=>gz x.1 x.2.1 x.2.2.1 x.2.2.2.1 x.2.2.2.2.1 x.2.2.2.2.2.1 x.2.2.2.2.2.2.1 x.2.2.2.2.2.2.2⟩
def f6:Ë:=Ls 0 [ab,tI,tI,tI,tI,tI,tI,ae,aa,af,ac,aa,tI,tI,ab,ab,tI,tI,tI,tI,tI,tI,ae,af,ac,aa] [tI,aa] ⟨289,.any::.con ab::.con tI::.con tI::.con tI::.con tI::aN 2 (.box 0 0::aN 5 (.box 1 0::aN 10 [.box 2 0,.var tI])),[aP,aU,bc,.rowv Æ]⟩ [(.exit 0,⟨289,.any::.con ab::.con tI::.con tI::.con tI::.con tI::aN 2 (.box 0 0::aN 5 (.box 1 0::aN 10 [.box 2 0])),[aP,aU,bc,.rowv Æ]⟩,[aa])]
def f5 (ρ:Type):ō ρ:=⟨[],4,0,f6,fun(p:Val (tyL f6.cs)) (v:eu) a b=>Ζ p.2.2.2.2.1 p.2.2.2.2.2.2.2.2.1 v.1 v.2 (fun c d=>a (c,d)) (b 0)⟩
def f0:Ë:=Ls 0 [ab,tI,tI,tI,tI,tI,tI,ae,aa,af,ac,aa,tI,tI,ab,ab,tI,tI,tI,tI,tI,tI,ae,ac,aa,aa] [tI,af] ⟨289,.any::.con ab::.con tI::.con tI::.con tI::.con tI::aN 2 (.box 0 0::aN 5 (.box 1 0::aN 10 [.box 2 0,.any,.var tI])),[aP,aU,bf,.rowc Æ,.rowv Κ]⟩ [(.exit 2,⟨289,.any::.con ab::.con tI::.con tI::.con tI::.con tI::aN 2 (.box 0 0::aN 5 (.box 1 0::aN 10 [.box 2 0])),[aP,aU,bf,.rowc Æ,.rowv Κ]⟩,[af])]
def fZ (ρ:Type):ō ρ:=⟨[],4,2,f0,fun(p:Val (tyL f0.cs)) (v:Val (.pair tI af)) a b=>Ε p.2.2.2.2.1 p.2.2.2.2.2.2.2.2.2.1 v.1 v.2 (fun c d=>a (c,d)) (b 0)⟩
def fY:Ë:=Ls 0 [ab,tI,tI,tI,tI,tI,tI,ae,aa,af,ac,aa,tI,tI,ab,ab,tI,tI,tI,tI,tI,tI,ae,ac,aa,af] [tI,aa] ⟨289,.any::.con ab::.con tI::.con tI::.con tI::.con tI::aN 2 (.box 0 0::aN 5 (.box 1 0::aN 10 [.box 2 0,.any,.any,.var tI])),bq⟩ [(.exit 4,⟨289,.any::.con ab::.con tI::.con tI::.con tI::.con tI::aN 2 (.box 0 0::aN 5 (.box 1 0::aN 10 [.box 2 0])),bq⟩,[aa])]
def fX (ρ:Type):ō ρ:=⟨[],4,4,fY,fun(p:Val (tyL fY.cs)) (v:eu) a b=>Δ p.2.2.2.2.1 p.2.2.2.2.2.2.2.2.2.2.2.1 v.1 v.2 (fun c d=>a (c,d)) (b 0)⟩
def iw:AS JEnt:=[⟨[],4,9,0,⟨289,.any::.var ab::.var tI::.var tI::.var tI::.var tI::.any::.var .str::.box 0 0::aN 5 [.box 1 0,.any,.any,.any,.var tI],[.cells [.var tI,.var tI,.var ae,.var aa,.var af,.var ac,.var aa],.cells [.var tI,.var tI,.var ab,.var ab,.var tI,.var tI,.var tI,.var tI]]⟩,[ab,tI,tI,tI,tI,.str,tI,tI,tI,ae,aa,af,ac,aa,tI,tI,ab,ab,tI,tI,tI,tI]⟩,⟨[],4,14,0,⟨289,.any::.var ab::.var tI::.var tI::.var tI::.var tI::.any::.any::.box 0 0::aN 5 [.box 1 0,.any,.any,.any,.var tI],[.cells [.var tI,.var tI,.var ae,.var aa,.var af,.var ac,.var aa],.cells [.var tI,.var tI,.var ab,.var ab,.var tI,.var tI,.var tI,.var tI]]⟩,[ab,tI,tI,tI,tI,tI,tI,tI,ae,aa,af,ac,aa,tI,tI,ab,ab,tI,tI,tI,tI]⟩,⟨[],4,41,0,⟨289,.any::.var ab::.var tI::.var tI::.var tI::.any::.any::.any::.box 0 0::aN 5 (.box 1 0::aN 10 [.box 2 0]),[.cells [.var tI,.var tI,.var ae,.var aa,.var af,.var ac,.var aa],.cells [.var tI,.var tI,.var ab,.var ab,.var tI,.var tI,.var tI,.var tI],.cells [.var tI,.var tI,.var ae,.own 3,.own 4,.own 5,.own 6],.rowv Æ,.rowv Κ,.rowv Ì,.rowv Æ]⟩,[ab,tI,tI,tI,tI,tI,ae,aa,af,ac,aa,tI,tI,ab,ab,tI,tI,tI,tI,tI,tI,ae,aa,af,ac,aa]⟩]
def ě (ρ:Type):Env ρ:=mkEnvJ [(5,Bo),(6,xU),(7,yb),(8,EJ),(10,EC),(13,Bp),(14,CO),(15,CN),(16,rl)] [f5 ρ,fZ ρ,fX ρ] iw
end Go.Proofs.ZzM
end
