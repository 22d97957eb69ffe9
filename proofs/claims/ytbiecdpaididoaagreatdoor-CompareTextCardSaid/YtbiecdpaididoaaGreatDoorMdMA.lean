/- lemmas -/
import Derived.Test.YtbiecdpaididoaaGreatDoorAmC
import Derived.Test.YtbiecdpaididoaaGreatDoorAmE
import Derived.KernelRfl
import Derived.Test.YtbiecdpaididoaaGreatDoorMdTA
import Derived.Test.YtbiecdpaididoaaGreatDoorProg
set_option linter.all false
noncomputable section
set_option maxRecDepth 100000
namespace Go.Proofs.ZzM
open Go Go.Am
def Ek:Nat->Bool
  |109=>true
  |199=>true
  |200=>true
  |201=>true
  |202=>true
  |203=>true
  |_=>false
def Mr:Nat->Bool
  |107=>true
  |_=>false
def rn:Nat->Bool
  |108=>true
  |_=>false
def isInl:Nat->Bool
  |2=>true
  |26=>true
  |27=>true
  |31=>true
  |67=>true
  |69=>true
  |72=>true
  |73=>true
  |75=>true
  |76=>true
  |77=>true
  |78=>true
  |79=>true
  |81=>true
  |82=>true
  |101=>true
  |102=>true
  |103=>true
  |106=>true
  |110=>true
  |111=>true
  |113=>true
  |114=>true
  |125=>true
  |126=>true
  |127=>true
  |130=>true
  |134=>true
  |135=>true
  |151=>true
  |152=>true
  |154=>true
  |155=>true
  |157=>true
  |161=>true
  |167=>true
  |168=>true
  |169=>true
  |170=>true
  |171=>true
  |172=>true
  |188=>true
  |189=>true
  |190=>true
  |191=>true
  |192=>true
  |193=>true
  |195=>true
  |196=>true
  |204=>true
  |205=>true
  |206=>true
  |207=>true
  |210=>true
  |211=>true
  |215=>true
  |216=>true
  |219=>true
  |222=>true
  |223=>true
  |224=>true
  |225=>true
  |234=>true
  |235=>true
  |237=>true
  |238=>true
  |241=>true
  |242=>true
  |252=>true
  |286=>true
  |_=>false
def isFz:Nat->Bool
  |62=>true
  |_=>false
def isEat:Nat->Nat->Bool
  |51,8=>true
  |51,11=>true
  |125,25=>true
  |205,0=>true
  |_,_=>false
def YI:NO Nat->Nat->Bool
  |_,_=>false
abbrev Ph {ρ:Type} (E:Env ρ) (f:Nat) (ts rs:NO Ty) (x:Val (tyL ts)) (k:Val (tyL rs)->Nm ρ):Nm ρ:=topK E f (Ov ts x) (fun h v=>Â (Za rs h v) k)
abbrev Ls (p:Nat) (c v:NO Ty) (h:Tpl) (e:NO (Exit×Tpl×NO Ty)):Ç:=⟨p,c,v,h,e,false⟩
def Þ {ρ:Type} (pt:NO (Nat×ö)) (tab:NO (č ρ)):Env ρ :=
  {P:=Tryz.prog,eat:=isEat,clone:=Ek,sort:=Mr,compact:=rn,inl:=isInl,fz:=isFz,stop:=YI,pure:=JB pt,loops:=ŵ tab}
def mkEnvX {ρ:Type} (pt:NO (Nat×ö)) (tab:NO (č ρ)) (xt:NO (Nat×Wc)):Env ρ:={Þ pt tab with ext:=extT xt}
def mkEnvU {ρ:Type} (pt:NO (Nat×ö)) (tab:NO (č ρ)) (us:NO Yf):Env ρ :=
  {P:=Tryz.prog,eat:=isEat,clone:=Ek,sort:=Mr,compact:=rn,inl:=isInl,fz:=isFz,stop:=YI,pure:=JB pt,loops:=Qg (Þ pt tab) us}
abbrev aS:lh:=.cells [.con tI,.con tI,.con ae,.con aa,.con af,.con ab,.con aa]
abbrev aT:lh:=.cells [.con tI,.con tI,.con tI,.con tI,.con tI,.con tI,.con tI,.con tI]
abbrev aU:lh:=.cells [.con tI,.con tI,.con tI,.con tI]
abbrev aV:lh:=.cells [.con ac]
abbrev aW:lh:=.cells [.con tI]
abbrev aX:lh:=.cells [.con tI,.con tI,.con ac,.con ac,.con tI,.con tI,.con tI,.con tI]
abbrev aY:lh:=.cells [.con tI,.con tI]
abbrev aZ:lh:=.cells [.con tI,.con tI,.con ae,.con aa,.con af,.con ab,.con aa,.con aa,.con tI,.own 3,.own 4]
abbrev a7:lh:=.cells [.con tI,.con tI,.con ae,.con aa,.con af,.con ab,.con aa,.con aa,.con tI,.own 2,.own 3]
abbrev a8:lh:=.cells [.con tI,.con ah]
abbrev ba:lh:=.cells [.con tI,.con tI,.nils,.nils,.nils,.nils,.nils]
abbrev bc:lh:=.cells [.con tI,.con tI,.own 11,.own 12,.own 13,.con ab,.own 14]
abbrev bf:lh:=.cells [.own 6]
abbrev bg:lh:=.cells [.var tI,.var tI,.var tI,.var tI]
abbrev bh:lh:=.cells [.nils,.nils]
abbrev bi:lh:=.cells [.own 3,.own 4]
abbrev bj:lh:=.cells [.var tI,.var tI,.own 2,.own 3,.own 4,.own 5,.own 6]
abbrev bl:NO lh:=[aS,aU]
abbrev bm:NO lh:=[.rowv tI]
abbrev bn:NO lh:=[aS,aX,.rowc tI]
abbrev bo:NO lh:=[aS,a7,.rowv ι,.rowv Å]
abbrev bp:NO lh:=[aS,aX,ba,.dead,.dead,aS,ba,.dead,bc,ba,.rowv Ï,.rowc Ô,.rowc Å,.rowc ω,.rowc Å]
abbrev bq:NO lh:=[a8,.rowc tI,a8,bf,.rowv .bool,.rowc tI,.rowv tI]
abbrev br:NO lh:=[a8,.rowv tI,a8,bf,.rowv .bool,.rowc tI,.rowv tI]
abbrev bt:NO lh:=[a8,.rowv tI,a8,bf,.rowv .bool,.rowv tI,.rowv tI]
abbrev bu:NO lh:=[aS,.rowv .str]
abbrev bw:NO lh:=[aS,.rowv tI]
abbrev bz:NO lh:=[aS,.rowc tI,.rowv Å]
abbrev bB:NO lh:=[aS,bh,bi,.rowv ι,.rowv Å]
abbrev bC:NO lh:=[ba,bj,.rowv Ô,.rowv Å,.rowv ω,.rowv Ï,.rowv Å]
abbrev bD:NO lh:=[aS,aS]
def ik:ö:=⟨[Ä],[ak],fun(x:bx)=>Ą x⟩
def Bp:Ç:=Ls 0 [ae,tI] [tI,ak] ⟨20,aN 3 (.omp 0::aN 4 [.con ae,.con tI,.var tI]),[.mapv tI Ô]⟩ [(.exit 0,⟨20,aN 3 (.omp 0::aN 4 [.con ae,.con tI]),[.mapv tI Ô]⟩,[ak])]
def pv (ρ:Type):č ρ:=⟨[],49,0,Bp,fun(p:Val (.pair ae tI)) (v:Val (.pair tI ak)) a b=>iC p.1 p.2 v.1 v.2 (fun c d=>a (c,d)) (b 0)⟩
def wW (ρ:Type):Env ρ:=Þ [] [pv ρ]
def mS:ö:=⟨[ac,tI],[tI],fun(x:v8)=>Χ x.1 x.2⟩
def pH:Ç:=Ls 0 [ac,tI,tI] [tI] ⟨19,.con ac::.con tI::aN 5 [.con tI,.var tI],[]⟩ [(.ret,⟨19,[.con ac,.con tI,.any,.any,.var tI,.any,.any,.con tI],[]⟩,[tI]),(.exit 0,⟨19,.con ac::.con tI::aN 5 [.con tI],[]⟩,[])]
def hZ (ρ:Type):č ρ:=⟨[],158,0,pH,fun(p:Val (.pair ac Å)) (v:Int) b a=>ő p.1 p.2.1 p.2.2 v (fun c=>b c) (a 0) (a 1)⟩
def kw (ρ:Type):Env ρ:=Þ [] [hZ ρ]
def ξ:ö:=⟨[ac,tI],[.bool],fun(x:v8)=>ă x.1 x.2⟩
def pI (ρ:Type):Env ρ:=Þ [(158,mS)] []
def IG:ö:=⟨[Ä,Ô],[ac],fun(x:Val (.pair Ä Ô))=>jV x.1 x.2⟩
def Jh:Ç:=Ls 0 [ab,tI,tI,tI,ae,aa,af,ab,aa,tI,tI,tI,tI,tI,tI,tI,tI] [tI,ac] ⟨59,aN 2 (.box 0 0::.box 1 0::.any::.own 2::aN 8 [.con ab,.con tI,.var tI]),[aS,aT,.rowv tI]⟩ [(.exit 0,⟨59,aN 2 (.box 0 0::.box 1 0::.any::.own 2::aN 8 [.con ab,.con tI]),[aS,aT,.rowv tI]⟩,[ac])]
def xn (ρ:Type):č ρ:=⟨[],124,0,Jh,fun(p:Val (.pair ab am)) (v:ly) a b=>oK p.1 p.2.1 p.2.2.2.2.2.2.2.2.2.1 v.1 v.2 (fun c d=>a (c,d)) (b 0)⟩
def Jg:Ç:=Ls 0 [aa,tI,tI,tI,tI,tI,tI,tI,tI,tI] [tI,ac] ⟨59,aN 3 (.box 0 0::.any::.own 1::aN 32 [.con aa,.con tI,.var tI]),[aT,.rowv tI]⟩ [(.exit 2,⟨59,aN 3 (.box 0 0::.any::.own 1::aN 32 [.con aa,.con tI]),[aT,.rowv tI]⟩,[ac])]
def xm (ρ:Type):č ρ:=⟨[],124,2,Jg,fun(p:Val aQ) (v:ly) a b=>oJ p.1 p.2.1 p.2.2.1 v.1 v.2 (fun c d=>a (c,d)) (b 0)⟩
def y6 (ρ:Type):Env ρ:=Þ [(115,ξ)] [xn ρ,xm ρ]
def wk:ö:=⟨[Ä],[aa],fun(x:bx)=>kR x⟩
def uw:Ç:=Ls 0 [ae,tI,tI,ac,tI,tI,tI,ae,aa,af,ab,aa,tI,tI,tI,tI,tI,tI,tI,tI] [tI,aa] ⟨33,.any::.box 0 0::.any::.own 1::.any::.box 2 0::aN 3 (.con ae::.con tI::.con tI::aN 5 [.con ac,.con tI,.var tI]),[aS,.rowv Å,aT]⟩ [(.exit 2,⟨33,.any::.box 0 0::.any::.own 1::.any::.box 2 0::aN 3 (.con ae::.con tI::.con tI::aN 5 [.con ac,.con tI]),[aS,.rowv Å,aT]⟩,[aa])]
def uu (ρ:Type):č ρ:=⟨[],59,2,uw,fun(p:Val (tyL uw.cs)) (v:rd) a b=>lW p.2.2.2.1 p.2.2.2.2.1 p.2.2.2.2.2.2.2.2.2.2.2.2.1 v.1 v.2 (fun c d=>a (c,d)) (b 0)⟩
def FS:Ç:=Ls 0 [ae,tI,tI,tI,ae,aa,af,ab,aa] [tI,aa] ⟨33,.any::.box 0 0::.any::.own 1::aN 5 [.con ae,.con tI,.var tI],[aS,.rowv Å]⟩ [(.exit 0,⟨33,.any::.box 0 0::.any::.own 1::aN 5 [.con ae,.con tI],[aS,.rowv Å]⟩,[aa])]
def uz (ρ:Type):č ρ:=⟨[],59,0,FS,fun(p:Val (.pair ae aI)) (v:rd) a b=>let A:=p.2.2.2.2;lX p.1 p.2.1 p.2.2.1 p.2.2.2.1 A.1 A.2.1 A.2.2.1 A.2.2.2.1 A.2.2.2.2 v.1 v.2 (fun c d=>a (c,d)) (b 0)⟩
def vz (ρ:Type):Env ρ:=Þ [(124,IG)] [uu ρ,uz ρ]
def mX:ö:=⟨[Å,tI,tI],[.bool],fun(x:py)=>ł x.1 x.2.1 x.2.2⟩
def Mc (ρ:Type):Env ρ:=Þ [] []
def Ν:ö:=⟨[tI,tI,tI],[.bool],fun(x:Val ι)=>ø x.1 x.2.1 x.2.2⟩
def L6 (ρ:Type):Env ρ:=Þ [] []
def mW:ö:=⟨[tI],[.bool],fun(x:Int)=>fO x⟩
def Og (ρ:Type):Env ρ:=Þ [(104,Ν)] []
def IB:ö:=⟨[tI],[(.int .u64)],fun(x:Int)=>mi x⟩
def RH (ρ:Type):Env ρ:=Þ [] []
def NY:ö:=⟨[(.int .u64),(.int .u64)],[(.int .u64)],fun(x:v6)=>EK x.1 x.2⟩
def L1:Ç:=Ls 0 [] [(.int .u64),(.int .u64)] ⟨12,[.var (.int .u64),.var (.int .u64)],[]⟩ [(.exit 0,⟨12,[.var (.int .u64)],[]⟩,[(.int .u64)])]
def Ag (ρ:Type):č ρ:=⟨[],214,0,L1,fun(p:Unit) (v:v6) a b=>sc v.1 v.2 (fun c d=>a (c,d)) (b 0)⟩
def L2 (ρ:Type):Env ρ:=Þ [] [Ag ρ]
def wh:ö:=⟨[Å],[.bool],fun(x:c7)=>nS x⟩
def Ob (ρ:Type):Env ρ:=Þ [(213,IB),(214,NY)] []
def CD:ö:=⟨[Ô],[.bool],fun(x:An)=>o9 x⟩
def xl (ρ:Type):Env ρ:=Þ [(60,mW),(65,mX),(104,Ν),(166,wh)] []
def qg:ö:=⟨[Ä],[tI],fun(x:bx)=>ĸ x⟩
def tc:Ç:=Ls 0 [ae,tI,tI,tI,ae,aa,af,ab,aa] [tI] ⟨31,.any::.box 0 0::aN 4 [.con ae,.con tI,.var tI],[aS]⟩ [(.ret,⟨31,[.any,.box 0 0,.var tI,.any,.any,.any,.con ae,.con tI],[aS]⟩,[tI]),(.exit 0,⟨31,.any::.box 0 0::aN 4 [.con ae,.con tI],[aS]⟩,[])]
def jo (ρ:Type):č ρ:=⟨[],66,0,tc,fun(p:Val (.pair ae aI)) (v:Int) b a=>Ŵ p.1 p.2.1 p.2.2.2.2.1 v (fun c=>b c) (a 0) (a 1)⟩
def nz (ρ:Type):Env ρ:=Þ [(128,CD)] [jo ρ]
def fH:ö:=⟨[ak,tI,tI],[tI],fun(x:Val (.pair ak Å))=>Ō x.1 x.2.1 x.2.2⟩
def Bq (ρ:Type):Env ρ:=Þ [] []
def N0:ö:=⟨[tI,tI,(.ptr ak)],[tI],fun(x:Val (.pair tI (.pair tI (.ptr ak))))=>đ x.1 x.2.1 x.2.2⟩
def Jc (ρ:Type):Env ρ:=Þ [(60,mW),(64,fH)] []
def IH:ö:=⟨[Ä,ak,tI],[tI],fun(x:Val aR)=>Ņ x.1 x.2.1 x.2.2⟩
def xp:Ç:=Ls 2 [af,tI,tI,tI,ae,aa,af,ab,aa,tI,tI,tI,tI] [tI] ⟨19,.con af::.fn 167 [(1,0)]::aN 5 [.con tI,.var tI],bl⟩ [(.ret,⟨19,[.con af,.fn 167 [(1,0)],.any,.any,.var tI,.any,.any,.con tI],bl⟩,[tI]),(.exit 0,⟨19,.con af::.fn 167 [(1,0)]::aN 5 [.con tI],bl⟩,[])]
def lZ (ρ:Type):č ρ:=⟨[9,5,1,2],126,0,xp,fun(p:Val (.pair af aw)) (v:Int) b a=>let A:=p.2.2.2.2.2.2.2.2.2;fU p.1 p.2.1 A.1 A.2.1 A.2.2.1 v (fun c=>b c) (a 0) (a 1)⟩
def xo:Ç:=Ls 2 [aa,tI,tI,tI,ae,aa,af,ab,aa,tI,tI,tI,tI] [tI] ⟨19,.con aa::.fn 168 [(1,0)]::aN 5 [.con tI,.var tI],bl⟩ [(.ret,⟨19,[.con aa,.fn 168 [(1,0)],.any,.any,.var tI,.any,.any,.con tI],bl⟩,[tI]),(.exit 0,⟨19,.con aa::.fn 168 [(1,0)]::aN 5 [.con tI],bl⟩,[])]
def lY (ρ:Type):č ρ:=⟨[9,10,1,2],215,0,xo,fun(p:Val (.pair aa aw)) (v:Int) b a=>let A:=p.2.2.2.2.2.2.2.2.2;Ł p.1 p.2.1 A.1 A.2.1 A.2.2.1 v (fun c=>b c) (a 0) (a 1)⟩
def gP (ρ:Type):Env ρ:=Þ [(64,fH),(65,mX),(104,Ν)] [lZ ρ,lY ρ]
def rY:ö:=⟨[ac,ac],[ac],fun(x:DO)=>Ĭ x.1 x.2⟩
def Jf:Ç:=Ls 2 [tI,ac,ac] [tI] ⟨19,.own 1::.fn 114 [(0,0)]::aN 5 [.con tI,.var tI],[aV,.rowc tI]⟩ [(.ret,⟨19,[.own 1,.fn 114 [(0,0)],.any,.any,.var tI,.any,.any,.con tI],[aV,.rowc tI]⟩,[tI]),(.exit 0,⟨19,.own 1::.fn 114 [(0,0)]::aN 5 [.con tI],[aV,.rowc tI]⟩,[])]
def xj (ρ:Type):č ρ:=⟨[1,3,1,2],152,0,Jf,fun(p:Val (.pair tI az)) (v:Int) b a=>oI p.1 p.2.1 p.2.2 v (fun c=>b c) (a 0) (a 1)⟩
def Je:Ç:=Ls 2 [ac] [tI,tI,ac] ⟨42,[.own 1,.fn 114 [(0,0)],.any,.any,.any,.var tI,.var tI],[aV,.rowv tI]⟩ [(.exit 0,⟨42,[.own 1,.fn 114 [(0,0)],.any,.any,.any,.var tI],[aV,.rowv tI]⟩,[tI,ac])]
def xi (ρ:Type):č ρ:=⟨[1,3],113,0,Je,fun(p:an) (v:Val (.pair tI ax)) a b=>f5 p v.1 v.2.1 v.2.2 (fun c d e=>a (c,d,e)) (b 0)⟩
def y5 (ρ:Type):Env ρ:=Þ [(115,ξ)] [xj ρ,xi ρ]
def yM:ö:=⟨[ac],[.bool],fun(x:an)=>iy x⟩
def rg:Ç:=Ls 0 [ac,ac,tI] [tI] ⟨32,.con ac::aN 4 [.con ac,.con tI,.var tI],[]⟩ [(.ret,⟨32,[.con ac,.any,.var .bool,.any,.any,.con ac,.con tI],[]⟩,[.bool]),(.exit 0,⟨32,.con ac::aN 4 [.con ac,.con tI],[]⟩,[])]
def qZ (ρ:Type):č ρ:=⟨[],61,0,rg,fun(p:Val (tyL rg.cs)) (v:Int) b a=>jP p.1 p.2.1 p.2.2 v (fun c=>b c) (a 0) (a 1)⟩
def Ak (ρ:Type):Env ρ:=Þ [(104,Ν)] [qZ ρ]
def gA:ö:=⟨[aJ],[ac],fun(x:Val aJ)=>Đ x⟩
def gI:Ç:=Ls 0 [aJ,aJ,tI] [tI,tI] ⟨36,.con aJ::aN 2 (.var tI::aN 5 [.con aJ,.con tI,.var tI]),[]⟩ [(.exit 0,⟨36,.con aJ::aN 2 (.var tI::aN 5 [.con aJ,.con tI]),[]⟩,[tI])]
def gH (ρ:Type):č ρ:=⟨[],62,0,gI,fun(p:Val (tyL gI.cs)) (v:c7) a b=>ń p.2.1 p.2.2 v.1 v.2 (fun c d=>a (c,d)) (b 0)⟩
def oj:Ç:=Ls 0 [aJ,tI] [tI,ac] ⟨36,aN 6 (.own 0::aN 18 [.con aJ,.con tI,.var tI]),bm⟩ [(.exit 2,⟨36,aN 6 (.own 0::aN 18 [.con aJ,.con tI]),bm⟩,[ac])]
def gG (ρ:Type):č ρ:=⟨[],62,2,oj,fun(p:Val (.pair aJ tI)) (v:ly) a b=>Ā p.1 p.2 v.1 v.2 (fun c d=>a (c,d)) (b 0)⟩
def π (ρ:Type):Env ρ:=Þ [] [gH ρ,gG ρ]
def II:ö:=⟨[Ä,tI,tI],[ω,.bool],fun(x:AN)=>jW x.1 x.2.1 x.2.2⟩
def xr:Ç:=Ls 4 [af,tI,tI,tI,ae,aa,af,ab,aa,tI,tI,tI,tI,tI,tI] [tI] ⟨19,.con af::.fn 127 [(1,0),(2,0)]::aN 5 [.con tI,.var tI],[aS,aW,aW,aU]⟩ [(.ret,⟨19,[.con af,.fn 127 [(1,0),(2,0)],.any,.any,.var tI,.any,.any,.con tI],[aS,aW,aW,aU]⟩,[tI]),(.exit 0,⟨19,.con af::.fn 127 [(1,0),(2,0)]::aN 5 [.con tI],[aS,aW,aW,aU]⟩,[])]
def xq (ρ:Type):č ρ:=⟨[1,3],126,0,xr,fun(p:Val (tyL xr.cs)) (v:Int) b a=>oM p.1 p.2.1 p.2.2.2.2.2.2.2.2.2.1 p.2.2.2.2.2.2.2.2.2.2.1 v (fun c=>b c) (a 0) (a 1)⟩
def HA (ρ:Type):Env ρ:=Þ [(104,Ν)] [xq ρ]
def AJ:ö:=⟨[Ä,ak,tI],[tI],fun(x:Val aR)=>Ė x.1 x.2.1 x.2.2⟩
def iT:Ç:=Ls 2 [ab,tI,tI,tI,ae,aa,af,ab,aa,tI,tI,ac,ac,tI,tI,tI,tI] [tI] ⟨19,.con ab::.fn 172 [(1,0)]::aN 5 [.con tI,.var tI],[aS,aX]⟩ [(.ret,⟨19,[.con ab,.fn 172 [(1,0)],.any,.any,.var tI,.any,.any,.con tI],[aS,aX]⟩,[tI]),(.exit 0,⟨19,.con ab::.fn 172 [(1,0)]::aN 5 [.con tI],[aS,aX]⟩,[])]
def iS (ρ:Type):č ρ:=⟨[4,5,1,2],216,0,iT,fun(p:Val (tyL iT.cs)) (v:Int) b a=>Ş p.1 p.2.1 p.2.2.2.2.2.2.2.2.2.1 v (fun c=>b c) (a 0) (a 1)⟩
def iP:Ç:=Ls 0 [ak,ac,tI,tI,tI,ac,tI,tI,tI,ae,aa,af,ab,aa,tI,tI,ac,ac,tI,tI,tI,tI,ac] [tI] ⟨140,.any::.con ak::.any::.box 0 0::aN 3 (.box 1 0::.con ac::.any::.con tI::aN 65 [.own 2,.con tI,.con tI,.any,.any,.any,.con ac,.con tI,.var tI]),bn⟩ [(.ret,⟨140,.any::.con ak::.any::.box 0 0::aN 2 (.var tI::.box 1 0::.con ac::.any::.con tI::aN 65 [.own 2,.con tI,.con tI,.any,.any,.any,.con ac,.con tI]),bn⟩,[tI]),(.exit 2,⟨140,.any::.con ak::.any::.box 0 0::aN 3 (.box 1 0::.con ac::.any::.con tI::aN 65 [.own 2,.con tI,.con tI,.any,.any,.any,.con ac,.con tI]),bn⟩,[])]
def iO (ρ:Type):č ρ:=⟨[],132,2,iP,fun(p:Val (tyL iP.cs)) (v:Int) b a=>let A:=p.2.2.2.2.2;ŝ p.1 p.2.2.1 A.1 A.2.1 A.2.2.2.2.2.2.2.2.2.2.1 v (fun c=>b c) (a 0) (a 1)⟩
def iR:Ç:=Ls 0 [ak,ac,tI,tI,tI,ae,aa,af,ab,aa,tI,tI,ac,ac,tI,tI,tI,tI,ac] [tI] ⟨140,.any::.con ak::.any::.box 0 0::aN 3 (.box 1 0::.con ac::aN 67 [.own 2,.con tI,.var tI]),bn⟩ [(.ret,⟨140,.any::.con ak::.any::.box 0 0::aN 2 (.var tI::.box 1 0::.con ac::aN 67 [.own 2,.con tI]),bn⟩,[tI]),(.exit 0,⟨140,.any::.con ak::.any::.box 0 0::aN 3 (.box 1 0::.con ac::aN 67 [.own 2,.con tI]),bn⟩,[])]
def iQ (ρ:Type):č ρ:=⟨[],132,0,iR,fun(p:Val (tyL iR.cs)) (v:Int) b a=>Ĝ p.1 p.2.1 p.2.2.1 p.2.2.2.2.2.2.2.2.2.2.2.1 p.2.2.2.2.2.2.2.2.2.2.2.2.2.2.2.2.2.2 v (fun c=>b c) (a 0) (a 1)⟩
def iN:Ç:=Ls 0 [ac,tI,tI,tI,ae,aa,af,ab,aa,tI,tI,ac,ac,tI,tI,tI,tI] [tI] ⟨140,aN 3 (.box 0 0::aN 3 (.box 1 0::aN 90 [.con ac,.con tI,.var tI])),[aS,aX]⟩ [(.ret,⟨140,aN 3 (.box 0 0::aN 2 (.var tI::.box 1 0::aN 90 [.con ac,.con tI])),[aS,aX]⟩,[tI]),(.exit 4,⟨140,aN 3 (.box 0 0::aN 3 (.box 1 0::aN 90 [.con ac,.con tI])),[aS,aX]⟩,[])]
def iM (ρ:Type):č ρ:=⟨[],132,4,iN,fun(p:Val (tyL iN.cs)) (v:Int) b a=>let A:=p.2.2.2.2;ě p.1 p.2.1 p.2.2.1 p.2.2.2.1 A.1 A.2.1 A.2.2.1 A.2.2.2.1 A.2.2.2.2.1 A.2.2.2.2.2.2.1 v (fun c=>b c) (a 0) (a 1)⟩
def Ĥ (ρ:Type):Env ρ:=Þ [(53,rY),(60,mW),(61,yM),(62,gA),(63,II),(64,fH),(65,mX),(104,Ν)] [iS ρ,iO ρ,iQ ρ,iM ρ]
def gB:ö:=⟨[Ä],[tI],fun(x:bx)=>Ē x⟩
def GJ:ö:=⟨[Ä],[.bool],fun(x:bx)=>sn x⟩
def CQ:Ç:=Ls 0 [tI,tI,ae,aa,af,ab,aa] [tI] ⟨61,[.any,.box 0 0,.any,.var tI],[aS]⟩ [(.ret,⟨61,[.any,.box 0 0,.var .bool],[aS]⟩,[.bool]),(.exit 0,⟨61,[.any,.box 0 0],[aS]⟩,[])]
def qm (ρ:Type):č ρ:=⟨[],5,0,CQ,fun(p:z6) (v:Int) b a=>jy p.2.2.2.2.2.1 v (fun c=>b c) (a 0) (a 1)⟩
def zY (ρ:Type):Env ρ:=Þ [] [qm ρ]
def IF:ö:=⟨[Ä,Ô,tI,tI],[tI],fun(x:Val (.pair Ä (.pair Ô Å)))=>mj x.1 x.2.1 x.2.2.1 x.2.2.2⟩
def xg:Ç:=Ls 0 [tI,tI,af,tI,tI,tI,ae,aa,af,ab,aa,tI,tI,tI,tI,tI,tI,tI,tI] [tI,tI] ⟨88,aN 2 (.con tI::.con tI::.box 0 0::.box 1 0::aN 3 (.var tI::aN 7 [.con af,.con tI,.var tI])),[aS,aT]⟩ [(.exit 0,⟨88,aN 2 (.con tI::.con tI::.box 0 0::.box 1 0::aN 3 (.var tI::aN 7 [.con af,.con tI])),[aS,aT]⟩,[tI])]
def xf (ρ:Type):č ρ:=⟨[],50,0,xg,fun(p:Val (tyL xg.cs)) (v:c7) a b=>oG p.1 p.2.1 p.2.2.1 p.2.2.2.1 p.2.2.2.2.2.2.2.2.2.2.2.1 v.1 v.2 (fun c d=>a (c,d)) (b 0)⟩
def xe:Ç:=Ls 0 [tI,tI,tI,aa,tI,tI,tI,tI,tI,tI,tI,tI,tI] [tI,ac] ⟨88,aN 2 (.con tI::.con tI::.any::.box 0 0::aN 3 (.con tI::aN 3 (.own 1::aN 39 [.con aa,.con tI,.var tI]))),[aT,.rowv tI]⟩ [(.exit 2,⟨88,aN 2 (.con tI::.con tI::.any::.box 0 0::aN 3 (.con tI::aN 3 (.own 1::aN 39 [.con aa,.con tI]))),[aT,.rowv tI]⟩,[ac])]
def xd (ρ:Type):č ρ:=⟨[],50,2,xe,fun(p:Val (tyL xe.cs)) (v:ly) a b=>oF p.1 p.2.1 p.2.2.2.1 p.2.2.2.2.1 p.2.2.2.2.2.1 v.1 v.2 (fun c d=>a (c,d)) (b 0)⟩
def y0 (ρ:Type):Env ρ:=Þ [(104,Ν)] [xf ρ,xd ρ]
def Ź:ö:=⟨[aa,Å],[tI],fun(x:Val (.pair aa Å))=>ď x.1 x.2⟩
def g8:Ç:=Ls 0 [aa,tI,tI,tI] [tI] ⟨19,[.con aa,.any,.any,.box 0 0,.any,.any,.any,.con tI,.var tI],[aY]⟩ [(.ret,⟨19,[.con aa,.any,.any,.box 0 0,.var tI,.any,.any,.con tI],[aY]⟩,[tI]),(.exit 0,⟨19,[.con aa,.any,.any,.box 0 0,.any,.any,.any,.con tI],[aY]⟩,[])]
def Ŏ (ρ:Type):č ρ:=⟨[],112,0,g8,fun(p:Val (.pair aa ι)) (v:Int) b a=>ą p.1 p.2.1 p.2.2.1 p.2.2.2 v (fun c=>b c) (a 0) (a 1)⟩
def ŧ (ρ:Type):Env ρ:=Þ [] [Ŏ ρ]
def qf:ö:=⟨[aF,ac,tI],[tI],fun(x:Val (.pair aF (.pair ac tI)))=>ŗ x.1 x.2.1 x.2.2⟩
def FT (ρ:Type):Env ρ:=Þ [(112,Ź)] []
def po:ö:=⟨[ak,ac],[Å],fun(x:Val (.pair ak ac))=>ū x.1 x.2⟩
def wX (ρ:Type):Env ρ:=Þ [] []
def mU:ö:=⟨[aa],[tI],fun(x:c8)=>fN x⟩
def FQ:Ç:=Ls 0 [aa,tI] [tI] ⟨15,aN 5 [.con aa,.con tI,.var tI],[]⟩ [(.ret,⟨15,[.any,.any,.var tI,.any,.any,.con aa,.con tI],[]⟩,[tI]),(.exit 0,⟨15,aN 5 [.con aa,.con tI],[]⟩,[])]
def uk (ρ:Type):č ρ:=⟨[],162,0,FQ,fun(p:GL) (v:Int) b a=>lV p.1 p.2 v (fun c=>b c) (a 0) (a 1)⟩
def DI (ρ:Type):Env ρ:=Þ [(166,wh)] [uk ρ]
def vc:ö:=⟨[tI,tI],[Å,tI],fun(x:c7)=>kQ x.1 x.2⟩
def I9 (ρ:Type):Env ρ:=Þ [(213,IB),(214,NY)] []
def TP:ö:=⟨[Å,Å],[Å,tI],fun(x:py)=>JF x.1 x.2⟩
def Um (ρ:Type):Env ρ:=Þ [(162,mU),(208,vc)] []
def wj:ö:=⟨[Å,Å],[Å],fun(x:py)=>o8 x.1 x.2⟩
def DP (ρ:Type):Env ρ:=Þ [(164,TP)] []
def NZ:ö:=⟨[Å,Å],[tI],fun(x:py)=>EL x.1 x.2⟩
def Uk (ρ:Type):Env ρ:=Þ [] []
def tK:ö:=⟨[ù],[.bool],fun(x:py)=>mH x⟩
def Bo (ρ:Type):Env ρ:=Þ [(162,mU),(240,NZ)] []
def TQ:ö:=⟨[Å,Å],[Å,tI],fun(x:py)=>EN x.1 x.2⟩
def Uo (ρ:Type):Env ρ:=Þ [(162,mU),(208,vc)] []
def K9:ö:=⟨[ù,Å],[ù,tI],fun(x:Val (.pair ù Å))=>EM x.1 x.2⟩
def Ai:NO (Nat×ö):=[(166,wh),(209,tK),(212,TQ),(240,NZ)]
def oA (ρ:Type):NO (č ρ):=[]
def Ah:NO Yf:=[⟨[3,2],210,0,4⟩]
def L4 (ρ:Type):Env ρ:=Þ Ai (oA ρ)
def vx (ρ:Type):Env ρ:=mkEnvU Ai (oA ρ) Ah
def wi:ö:=⟨[Å,Å],[ù],fun(x:py)=>jU x.1 x.2⟩
def DN (ρ:Type):Env ρ:=Þ [(165,K9)] []
def rZ:ö:=⟨[Ä,Ï],[ù],fun(x:ID)=>iz x.1 x.2⟩
def Md (ρ:Type):Env ρ:=Þ [(49,ik),(53,rY),(121,po),(122,wj),(123,wi)] []
def CE:ö:=⟨[Ä,Ï],[Å],fun(x:ID)=>nV x.1 x.2⟩
def Oh (ρ:Type):Env ρ:=Þ [] []
def CA:ö:=⟨[tI,tI],[tI],fun(x:c7)=>nQ x.1 x.2⟩
def Oa (ρ:Type):Env ρ:=Þ [] []
def IC:ö:=⟨[Å],[tI,tI],fun(x:c7)=>xU x⟩
def RI (ρ:Type):Env ρ:=Þ [(162,mU),(163,CA)] []
def CB:ö:=⟨[Å],[tI,tI],fun(x:c7)=>rA x⟩
def Oc (ρ:Type):Env ρ:=Þ [(162,mU),(163,CA)] []
def IE:ö:=⟨[Ä,Ï],[Å],fun(x:ID)=>oZ x.1 x.2⟩
def RK (ρ:Type):Env ρ:=Þ [(57,rZ),(118,CE),(119,IC),(120,CB)] []
def BQ:ö:=⟨[Ä],[aF],fun(x:bx)=>sL x⟩
def xa:Ç:=Ls 2 [tI,ac,tI,ae,tI,tI,tI,tI,ae,aa,af,ab,aa,tI,tI,ae,aa,af,ab,aa,aa,tI,tI,tI,tI,tI,tI,tI,tI,tI] [tI,ah,aa] ⟨144,.box 1 0::.any::.con tI::.box 2 0::.con ac::.con tI::.var tI::aN 24 [.con ae,.con tI,.con tI],[aS,aZ,aT,.rowv ι,.rowv Å]⟩ [(.exit 2,⟨144,.box 1 0::.any::.con tI::.box 2 0::.con ac::.con tI::aN 25 [.con ae,.con tI,.con tI],[aS,aZ,aT,.rowv ι,.rowv Å]⟩,[ah,aa])]
def w9 (ρ:Type):č ρ:=⟨[2,1],101,2,xa,fun(p:Val (tyL xa.cs)) (v:Fd) a b=>let A:=p.2.2.2.2.2.2.2.2.2.2.2.2.2;let B:=A.2.2.2.2;let C:=B.2.2.2.2.2;let D:=C.2.2.2.2;oD p.1 p.2.1 p.2.2.1 A.1 A.2.1 A.2.2.1 A.2.2.2.1 B.1 B.2.1 B.2.2.1 C.1 C.2.1 C.2.2.1 C.2.2.2.1 D.1 D.2.1 D.2.2.1 D.2.2.2 v.1 v.2.1 v.2.2 (fun c d e=>a (c,d,e)) (b 0)⟩
def xc:Ç:=Ls 2 [ae,tI,tI,tI,ae,aa,af,ab,aa,tI,tI,ae,aa,af,ab,aa,aa,tI] [tI,ah,aa] ⟨144,.box 1 0::aN 30 [.con ae,.con tI,.var tI],bo⟩ [(.exit 0,⟨144,.box 1 0::aN 30 [.con ae,.con tI],bo⟩,[ah,aa])]
def xb (ρ:Type):č ρ:=⟨[2,1],101,0,xc,fun(p:Val (tyL xc.cs)) (v:Fd) a b=>let A:=p.2.2.2.2.2.2.2.2.2;let B:=A.2.2.2.2;oE p.1 p.2.1 A.1 A.2.1 A.2.2.1 A.2.2.2.1 B.1 B.2.1 B.2.2.1 B.2.2.2.1 B.2.2.2.2 v.1 v.2.1 v.2.2 (fun c d e=>a (c,d,e)) (b 0)⟩
def w8:Ç:=Ls 2 [ab,tI,tI,tI,ae,aa,af,ab,aa,tI,tI,ae,aa,af,ab,aa,aa,tI] [tI,ah,aa] ⟨144,.box 1 0::aN 107 [.con ab,.con tI,.var tI],bo⟩ [(.exit 4,⟨144,.box 1 0::aN 107 [.con ab,.con tI],bo⟩,[ah,aa])]
def w7 (ρ:Type):č ρ:=⟨[2,1],101,4,w8,fun(p:Val (tyL w8.cs)) (v:Fd) a b=>let A:=p.2.2.2.2.2.2.2.2.2;let B:=A.2.2.2.2;oC p.1 p.2.1 A.1 A.2.1 A.2.2.1 A.2.2.2.1 B.1 B.2.1 B.2.2.1 B.2.2.2.1 B.2.2.2.2 v.1 v.2.1 v.2.2 (fun c d e=>a (c,d,e)) (b 0)⟩
def sd (ρ:Type):Env ρ:=Þ [(50,IF),(52,qf),(53,rY),(58,IE),(59,wk),(124,IG)] [w9 ρ,xb ρ,w7 ρ]
def mV:ö:=⟨[aF,ac],[tI],fun(x:Val (.pair aF ac))=>ζ x.1 x.2⟩
def pJ:Ç:=Ls 0 [ac,tI] [tI] ⟨19,.con ac::.fn 103 []::aN 5 [.con tI,.var tI],[]⟩ [(.ret,⟨19,[.con ac,.fn 103 [],.any,.any,.var tI,.any,.any,.con tI],[]⟩,[tI]),(.exit 0,⟨19,.con ac::.fn 103 []::aN 5 [.con tI],[]⟩,[])]
def ic (ρ:Type):č ρ:=⟨[1,10,1,2],152,0,pJ,fun(p:v8) (v:Int) b a=>Œ p.1 p.2 v (fun c=>b c) (a 0) (a 1)⟩
def kE (ρ:Type):Env ρ:=Þ [(104,Ν)] [ic ρ]
def IA:ö:=⟨[í,tI],[.bool],fun(x:Val (.pair í tI))=>sJ x.1 x.2⟩
def RG (ρ:Type):Env ρ:=Þ [] []
def Cz:ö:=⟨[í],[tI,tI],fun(x:At)=>ry x⟩
def uj:Ç:=Ls 0 [ah,tI,tI,ah] [tI] ⟨57,.any::.box 0 0::aN 17 [.con ah,.con tI,.var tI],[a8]⟩ [(.ret,⟨57,.any::.box 0 0::.var tI::.var tI::aN 15 [.con ah,.con tI],[a8]⟩,[tI,tI]),(.exit 0,⟨57,.any::.box 0 0::aN 17 [.con ah,.con tI],[a8]⟩,[])]
def uh (ρ:Type):č ρ:=⟨[],153,0,uj,fun(p:Val (tyL uj.cs)) (v:Int) b a=>lU p.1 p.2.1 p.2.2.1 p.2.2.2 v (fun c=>b c) (a 0) (a 1)⟩
def DG (ρ:Type):Env ρ:=Þ [(159,IA)] [uh ρ]
def PH:ö:=⟨[í,ac],[.bool,tI],fun(x:Val (.pair í ac))=>B4 x.1 x.2⟩
def wV:Ç:=Ls 1 [ac,tI,tI,ah] [tI] ⟨19,.con ac::.fn 154 []::aN 5 [.con tI,.var tI],[a8]⟩ [(.ret,⟨19,[.con ac,.fn 154 [],.any,.any,.var tI,.any,.any,.con tI],[a8]⟩,[tI]),(.exit 0,⟨19,.con ac::.fn 154 []::aN 5 [.con tI],[a8]⟩,[])]
def wU (ρ:Type):č ρ:=⟨[4,7,1,2],152,0,wV,fun(p:Val (tyL wV.cs)) (v:Int) b a=>oz p.1 p.2.1 v (fun c=>b c) (a 0) (a 1)⟩
def wT:Ç:=Ls 0 [ac,ah,tI] [tI] ⟨53,.any::.con ac::aN 26 [.con ah,.con tI,.var tI],[]⟩ [(.ret,⟨53,.any::.con ac::aN 2 (.var .bool::.var tI::aN 22 [.con ah,.con tI]),[]⟩,[.bool,tI]),(.exit 0,⟨53,.any::.con ac::aN 26 [.con ah,.con tI],[]⟩,[])]
def wS (ρ:Type):č ρ:=⟨[],105,0,wT,fun(p:Val (tyL wT.cs)) (v:Int) b a=>ip p.1 p.2.1 p.2.2 v (fun c=>b c) (a 0) (a 1)⟩
def yX (ρ:Type):Env ρ:=Þ [(153,Cz)] [wU ρ,wS ρ]
def tM:ö:=⟨[aF,ac],[.bool],fun(x:Val (.pair aF ac))=>iE x.1 x.2⟩
def Bs (ρ:Type):Env ρ:=Þ [(105,PH)] []
def PM:ö:=⟨[Ä,ac],[.bool,tI],fun(x:Val (.pair Ä ac))=>xY x.1 x.2⟩
def RN (ρ:Type):Env ρ:=Þ [(23,gB),(45,BQ),(46,mV),(47,tM)] []
def Lc:ö:=⟨[Ä,tI,ac],[tI],fun(x:Val (.pair Ä ax))=>xW x.1 x.2.1 x.2.2⟩
def F5:Ç:=Ls 1 [ac,tI,tI,tI,ae,aa,af,ab,aa] [tI] ⟨19,.con ac::.fn 106 []::aN 5 [.con tI,.var tI],[aS]⟩ [(.ret,⟨19,[.con ac,.fn 106 [],.any,.any,.var tI,.any,.any,.con tI],[aS]⟩,[tI]),(.exit 0,⟨19,.con ac::.fn 106 []::aN 5 [.con tI],[aS]⟩,[])]
def uB (ρ:Type):č ρ:=⟨[4,1,1,2],152,0,F5,fun(p:Val (.pair ac aI)) (v:Int) b a=>l5 p.1 p.2.1 v (fun c=>b c) (a 0) (a 1)⟩
def DZ (ρ:Type):Env ρ:=Þ [(23,gB),(49,ik),(60,mW)] [uB ρ]
def PL:ö:=⟨[Ä,tI,tI,tI],[tI,tI],fun(x:Val (.pair Ä ι))=>B6 x.1 x.2.1 x.2.2.1 x.2.2.2⟩
def RM (ρ:Type):Env ρ:=Þ [(48,Lc),(49,ik),(50,IF)] []
def PJ:ö:=⟨[Ä,Ï],[Ä,tI],fun(x:ID)=>sM x.1 x.2⟩
def xv:Ç:=Ls 8 [tI,tI,tI,ae,aa,af,ab,aa,tI,tI,ac,ac,tI,tI,tI,tI,tI,tI,tI,tI,ae,aa,af,ab,aa,tI,tI,tI,tI,ab,tI,tI,ae,aa,af,aa] [tI,ab] ⟨50,.any::.box 8 0::.box 9 0::.own 10::aN 21 [.own 10,.con tI,.var tI],bp⟩ [(.exit 0,⟨50,.any::.box 8 0::.box 9 0::.own 10::aN 21 [.own 10,.con tI],bp⟩,[ab])]
def xu (ρ:Type):č ρ:=⟨[2,2,4,1],157,0,xv,fun(p:Val (tyL xv.cs)) (v:Val (.pair tI ab)) a b=>oN p.1 v.1 v.2 (fun c d=>a (c,d)) (b 0)⟩
def HB (ρ:Type):Env ρ:=Þ [(23,gB)] [xu ρ]
def zU:ö:=⟨[í,ao],[ac,.bool],fun(x:Val (.pair í ao))=>mh x.1 x.2⟩
def nw:Ç:=Ls 2 [ao,ah,tI,tI,ah,ac,tI,ah,ar,ac] [tI,tI] ⟨140,.any::.con ao::.own 1::.box 2 0::aN 3 (.box 3 0::.own 4::.own 5::.var tI::aN 14 [.con ah,.con tI,.var tI]),[a8,.rowc tI,a8,.cells [.nils],.rowc .bool,.rowc tI]⟩ [(.exit 0,⟨140,.any::.con ao::.own 1::.box 2 0::aN 3 (.box 3 0::.own 4::.own 5::.var tI::aN 14 [.con ah,.con tI]),[a8,.rowc tI,a8,.cells [.nils],.rowc .bool,.rowc tI]⟩,[tI])]
def nu (ρ:Type):č ρ:=⟨[2,3],161,0,nw,fun(p:Val (tyL nw.cs)) (v:c7) a b=>ŕ p.2.1 p.2.2.1 v.1 v.2 (fun c d=>a (c,d)) (b 0)⟩
def nt:Ç:=Ls 2 [ao,tI,tI,tI,ah,ac,tI,ah,ac] [tI,ar,ac] ⟨140,.any::.con ao::.own 1::.box 2 0::aN 3 (.box 3 0::.own 4::.own 5::.con tI::aN 27 [.con tI,.var tI]),bq⟩ [(.exit 2,⟨140,.any::.con ao::.own 1::.box 2 0::aN 3 (.box 3 0::.own 4::.own 5::.con tI::aN 27 [.con tI]),bq⟩,[ar,ac])]
def nr (ρ:Type):č ρ:=⟨[2,3],161,2,nt,fun(p:Val (tyL nt.cs)) (v:GT) a b=>ġ p.2.2.1 p.2.2.2.2.2.1 v.1 v.2.1 v.2.2 (fun c d e=>a (c,d,e)) (b 0)⟩
def nn:Ç:=Ls 2 [ao,tI,tI,ah,tI,tI,ah,tI,ah,ac] [tI,ac,ar,ac] ⟨140,.any::.con ao::.own 1::.box 2 0::aN 3 (.box 3 0::.own 4::.own 5::.con tI::aN 3 (.con tI::aN 62 [.con ah,.con tI,.var tI])),br⟩ [(.ret,⟨140,.any::.con ao::.own 1::.box 2 0::aN 2 (.var .bool::.box 3 0::.own 4::.own 5::.con tI::aN 3 (.con tI::aN 62 [.con ah,.con tI])),br⟩,[.bool,ac,ar,ac]),(.exit 6,⟨140,.any::.con ao::.own 1::.box 2 0::aN 3 (.box 3 0::.own 4::.own 5::.con tI::aN 3 (.con tI::aN 62 [.con ah,.con tI])),br⟩,[ac,ar,ac])]
def nl (ρ:Type):č ρ:=⟨[2,3],161,6,nn,fun(p:Val (tyL nn.cs)) (v:th) b a=>Α p.1 p.2.1 p.2.2.1 p.2.2.2.1 p.2.2.2.2.1 v.1 v.2.1 v.2.2.1 v.2.2.2 (fun c d e f=>b (c,d,e,f)) (a 0) (a 1)⟩
def nq:Ç:=Ls 2 [ao,tI,tI,ah,tI,ah] [ac,ar,ac,ac] ⟨140,[.any,.con ao,.own 1,.box 2 0,.any,.any,.any,.box 3 0,.own 4,.own 5,.con tI],bt⟩ [(.ret,⟨140,[.any,.con ao,.own 1,.box 2 0,.any,.any,.var .bool,.box 3 0,.own 4,.own 5,.con tI],bt⟩,[.bool,ac,ar,ac,ac])]
def np (ρ:Type):č ρ:=⟨[2,3],161,4,nq,fun(p:Val (tyL nq.cs)) (v:Val aO) a b=>Ĉ p.1 p.2.1 p.2.2.2.2.1 p.2.2.2.2.2 v.1 v.2.1 v.2.2.1 v.2.2.2 (fun c d e f=>a (c,d,e,f)) (b 0)⟩
def yV:Ç:=Ls 0 [tI,tI] [tI,ac] ⟨34,aN 6 (.own 0::.con tI::aN 13 [.con tI,.var tI]),bm⟩ [(.exit 0,⟨34,aN 6 (.own 0::.con tI::aN 13 [.con tI]),bm⟩,[ac])]
def nk (ρ:Type):č ρ:=⟨[],160,0,yV,fun(p:c7) (v:ly) a b=>ž p.1 p.2 v.1 v.2 (fun c d=>a (c,d)) (b 0)⟩
def ň (ρ:Type):Env ρ:=Þ [] [nu ρ,nr ρ,nl ρ,np ρ,nk ρ]
def K7:ö:=⟨[í,ac],[tI],fun(x:Val (.pair í ac))=>xT x.1 x.2⟩
def ug:Ç:=Ls 0 [ac,tI,tI,ah] [tI] ⟨37,aN 2 (.box 0 0::aN 16 [.con ac,.con tI,.var tI]),[a8]⟩ [(.ret,⟨37,aN 2 (.box 0 0::.any::.var tI::aN 14 [.con ac,.con tI]),[a8]⟩,[tI]),(.exit 0,⟨37,aN 2 (.box 0 0::aN 16 [.con ac,.con tI]),[a8]⟩,[])]
def ue (ρ:Type):č ρ:=⟨[],116,0,ug,fun(p:Val (tyL ug.cs)) (v:Int) b a=>lT p.1 p.2.1 p.2.2.1 p.2.2.2 v (fun c=>b c) (a 0) (a 1)⟩
def DE (ρ:Type):Env ρ:=Þ [(153,Cz),(159,IA),(160,zU)] [ue ρ]
def GZ:ö:=⟨[í,ao,tI],[ac],fun(x:Val (.pair í (.pair ao tI)))=>sK x.1 x.2.1 x.2.2⟩
def qY:Ç:=Ls 0 [ao,tI,tI,tI,ah] [tI,ac] ⟨29,.any::.con ao::.con tI::.box 0 0::aN 3 (.own 1::aN 5 [.con tI,.var tI]),[a8,.rowv tI]⟩ [(.exit 0,⟨29,.any::.con ao::.con tI::.box 0 0::aN 3 (.own 1::aN 5 [.con tI]),[a8,.rowv tI]⟩,[ac])]
def qX (ρ:Type):č ρ:=⟨[],117,0,qY,fun(p:Val (tyL qY.cs)) (v:ly) a b=>jN p.2.2.1 v.1 v.2 (fun c d=>a (c,d)) (b 0)⟩
def qW:Ç:=Ls 2 [ao,ah,tI,tI,ah,ac,tI,ah,ar,ac] [tI,tI] ⟨140,.any::.con ao::.own 1::.box 2 0::aN 3 (.box 3 0::.own 4::.own 5::.var tI::aN 14 [.con ah,.con tI,.var tI]),[a8,.rowc tI,a8,.cells [.nils],.rowc .bool,.rowc tI]⟩ [(.exit 0,⟨140,.any::.con ao::.own 1::.box 2 0::aN 3 (.box 3 0::.own 4::.own 5::.var tI::aN 14 [.con ah,.con tI]),[a8,.rowc tI,a8,.cells [.nils],.rowc .bool,.rowc tI]⟩,[tI])]
def qV (ρ:Type):č ρ:=⟨[8,3],161,0,qW,fun(p:Val (tyL qW.cs)) (v:c7) a b=>oy p.2.1 p.2.2.1 v.1 v.2 (fun c d=>a (c,d)) (b 0)⟩
def qU:Ç:=Ls 2 [ao,tI,tI,tI,ah,ac,tI,ah,ac] [tI,ar,ac] ⟨140,.any::.con ao::.own 1::.box 2 0::aN 3 (.box 3 0::.own 4::.own 5::.con tI::aN 27 [.con tI,.var tI]),bq⟩ [(.exit 2,⟨140,.any::.con ao::.own 1::.box 2 0::aN 3 (.box 3 0::.own 4::.own 5::.con tI::aN 27 [.con tI]),bq⟩,[ar,ac])]
def qT (ρ:Type):č ρ:=⟨[8,3],161,2,qU,fun(p:Val (tyL qU.cs)) (v:GT) a b=>ox p.2.2.1 p.2.2.2.2.2.1 v.1 v.2.1 v.2.2 (fun c d e=>a (c,d,e)) (b 0)⟩
def qQ:Ç:=Ls 2 [ao,tI,tI,ah,tI,tI,ah,tI,ah,ac] [tI,ac,ar,ac] ⟨140,.any::.con ao::.own 1::.box 2 0::aN 3 (.box 3 0::.own 4::.own 5::.con tI::aN 3 (.con tI::aN 62 [.con ah,.con tI,.var tI])),br⟩ [(.ret,⟨140,.any::.con ao::.own 1::.box 2 0::aN 2 (.var .bool::.box 3 0::.own 4::.own 5::.con tI::aN 3 (.con tI::aN 62 [.con ah,.con tI])),br⟩,[.bool,ac,ar,ac]),(.exit 6,⟨140,.any::.con ao::.own 1::.box 2 0::aN 3 (.box 3 0::.own 4::.own 5::.con tI::aN 3 (.con tI::aN 62 [.con ah,.con tI])),br⟩,[ac,ar,ac])]
def qP (ρ:Type):č ρ:=⟨[8,3],161,6,qQ,fun(p:Val (tyL qQ.cs)) (v:th) b a=>wR p.1 p.2.1 p.2.2.1 p.2.2.2.1 p.2.2.2.2.1 v.1 v.2.1 v.2.2.1 v.2.2.2 (fun c d e f=>b (c,d,e,f)) (a 0) (a 1)⟩
def qS:Ç:=Ls 2 [ao,tI,tI,ah,tI,ah] [ac,ar,ac,ac] ⟨140,[.any,.con ao,.own 1,.box 2 0,.any,.any,.any,.box 3 0,.own 4,.own 5,.con tI],bt⟩ [(.ret,⟨140,[.any,.con ao,.own 1,.box 2 0,.any,.any,.var .bool,.box 3 0,.own 4,.own 5,.con tI],bt⟩,[.bool,ac,ar,ac,ac])]
def qR (ρ:Type):č ρ:=⟨[8,3],161,4,qS,fun(p:Val (tyL qS.cs)) (v:Val aO) a b=>ow p.1 p.2.1 p.2.2.2.2.1 p.2.2.2.2.2 v.1 v.2.1 v.2.2.1 v.2.2.2 (fun c d e f=>a (c,d,e,f)) (b 0)⟩
def Β (ρ:Type):Env ρ:=Þ [] [qX ρ,qV ρ,qT ρ,qP ρ,qR ρ]
def K8:ö:=⟨[í,tI,tI],[tI,tI],fun(x:Val (.pair í Å))=>rz x.1 x.2.1 x.2.2⟩
def N9 (ρ:Type):Env ρ:=Þ [(116,K7),(117,GZ)] []
def La:ö:=⟨[Ä,Ï,Å],[Å,tI],fun(x:Val (.pair Ä (.pair Ï Å)))=>nT x.1 x.2.1 x.2.2⟩
def Oe (ρ:Type):Env ρ:=Þ [(57,rZ),(118,CE),(119,IC),(120,CB)] []
def CG:ö:=⟨[Ä,Ï],[Å,tI],fun(x:ID)=>kS x.1 x.2⟩
def Jj (ρ:Type):Env ρ:=Þ [(45,BQ),(51,PJ),(52,qf),(53,rY),(54,K8),(55,La)] []
def zR:ö:=⟨[],[Ä],fun(_:Unit)=>rr⟩
def Fs (ρ:Type):Env ρ:=Þ [] []
def CC:ö:=⟨[Ä,tI],[Ï,tI],fun(x:LT)=>rB x.1 x.2⟩
def Od (ρ:Type):Env ρ:=Þ [(23,gB)] []
def G3:ö:=⟨[Ä,tI],[ù,tI],fun(x:LT)=>sO x.1 x.2⟩
def Mj (ρ:Type):Env ρ:=Þ [(56,CC),(57,rZ)] []
def PK:ö:=⟨[Ä,tI],[Å,tI],fun(x:LT)=>B5 x.1 x.2⟩
def RL (ρ:Type):Env ρ:=Þ [(56,CC),(58,IE)] []
def Le:ö:=⟨[Ä],[aa,tI],fun(x:bx)=>xX x⟩
def Oi (ρ:Type):Env ρ:=Þ [(23,gB),(59,wk)] []
def G0:ö:=⟨[Ä],[í,aa,tI],fun(x:bx)=>sN x⟩
def Mh (ρ:Type):Env ρ:=Þ [(23,gB),(45,BQ)] []
def TR:ö:=⟨[Ä,tI,ac,ac],[.bool,tI],fun(x:Val (.pair Ä (.pair tI az)))=>JG x.1 x.2.1 x.2.2.1 x.2.2.2⟩
def Ap:Ç:=Ls 0 [tI,ac,ac,ak,ac,tI,tI,tI,ae,aa,af,ab,aa] [tI] ⟨85,.any::.con tI::.con ac::.con ac::.box 0 0::aN 6 (.con ak::aN 29 [.con ac,.con tI,.var tI]),[aS]⟩ [(.ret,⟨85,.any::.con tI::.con ac::.con ac::.box 0 0::aN 3 (.var .bool::.var tI::.any::.con ak::aN 29 [.con ac,.con tI]),[aS]⟩,[.bool,tI]),(.exit 0,⟨85,.any::.con tI::.con ac::.con ac::.box 0 0::aN 6 (.con ak::aN 29 [.con ac,.con tI]),[aS]⟩,[])]
def Ao (ρ:Type):č ρ:=⟨[],22,0,Ap,fun(p:Val (tyL Ap.cs)) (v:Int) b a=>let A:=p.2.2.2.2;let B:=A.2.2.2.2;se p.1 p.2.2.2.1 A.1 A.2.1 A.2.2.1 A.2.2.2.1 B.1 B.2.1 B.2.2.1 B.2.2.2.1 B.2.2.2.2 v (fun c=>b c) (a 0) (a 1)⟩
def Mk (ρ:Type):Env ρ:=Þ [(23,gB),(49,ik),(53,rY),(60,mW),(61,yM),(62,gA),(63,II),(64,fH)] [Ao ρ]
def Cv:ö:=⟨[],[.bool],fun(_:Unit)=>Ğ⟩
def ww (ρ:Type):Env ρ:=Þ [(14,PM),(15,PL),(16,CG),(17,zR),(18,G3),(19,PK),(20,Le),(21,G0),(22,TR)] []
def PI:ö:=⟨[.str,ac],[.str],fun(x:Val (.pair .str ac))=>gT x.1 x.2⟩
def Jd:Ç:=Ls 0 [ac,tI] [.str,tI] ⟨20,.var .str::aN 6 [.con ac,.con tI,.var tI],[]⟩ [(.exit 0,⟨20,.var .str::aN 6 [.con ac,.con tI],[]⟩,[.str])]
def xh (ρ:Type):č ρ:=⟨[],24,0,Jd,fun(p:v8) (v:v7) a b=>oH p.1 p.2 v.1 v.2 (fun c d=>a (c,d)) (b 0)⟩
def Hw (ρ:Type):Env ρ:=Þ [(68,tG)] [xh ρ]
def CF:ö:=⟨[Ä],[.str,tI],fun(x:bx)=>gU x⟩
def Gb:Ç:=Ls 0 [ae,tI,tI,tI,ae,aa,af,ab,aa] [tI,ai] ⟨158,.any::.box 0 0::aN 3 (.own 1::aN 25 [.con ae,.con tI,.var tI]),bu⟩ [(.exit 0,⟨158,.any::.box 0 0::aN 3 (.own 1::aN 25 [.con ae,.con tI]),bu⟩,[ai])]
def uG (ρ:Type):č ρ:=⟨[],7,0,Gb,fun(p:Val (.pair ae aI)) (v:Id) a b=>mb p.1 p.2.1 v.1 v.2 (fun c d=>a (c,d)) (b 0)⟩
def Ga:Ç:=Ls 0 [aa,tI,tI,tI,ae,aa,af,ab,aa] [tI,ai] ⟨158,.any::.box 0 0::aN 3 (.own 1::aN 58 [.con aa,.con tI,.var tI]),bu⟩ [(.exit 2,⟨158,.any::.box 0 0::aN 3 (.own 1::aN 58 [.con aa,.con tI]),bu⟩,[ai])]
def uF (ρ:Type):č ρ:=⟨[],7,2,Ga,fun(p:Val (.pair aa aI)) (v:Id) a b=>l9 p.1 p.2.1 v.1 v.2 (fun c d=>a (c,d)) (b 0)⟩
def F9:Ç:=Ls 0 [af,tI,tI,tI,ae,aa,af,ab,aa] [tI,ai] ⟨158,.any::.box 0 0::aN 3 (.own 1::aN 75 [.con af,.con tI,.var tI]),bu⟩ [(.exit 4,⟨158,.any::.box 0 0::aN 3 (.own 1::aN 75 [.con af,.con tI]),bu⟩,[ai])]
def uE (ρ:Type):č ρ:=⟨[],7,4,F9,fun(p:Val (.pair af aI)) (v:Id) a b=>l8 p.1 p.2.1 v.1 v.2 (fun c d=>a (c,d)) (b 0)⟩
def F8:Ç:=Ls 0 [ab,tI,tI,tI,ae,aa,af,ab,aa] [tI,ai] ⟨158,.any::.box 0 0::aN 3 (.own 1::aN 98 [.con ab,.con tI,.var tI]),bu⟩ [(.exit 6,⟨158,.any::.box 0 0::aN 3 (.own 1::aN 98 [.con ab,.con tI]),bu⟩,[ai])]
def uD (ρ:Type):č ρ:=⟨[],7,6,F8,fun(p:Val (.pair ab aI)) (v:Id) a b=>l7 p.1 p.2.1 v.1 v.2 (fun c d=>a (c,d)) (b 0)⟩
def F7:Ç:=Ls 0 [aa,tI] [tI,ai] ⟨158,aN 5 (.own 0::aN 133 [.con aa,.con tI,.var tI]),[.rowv .str]⟩ [(.exit 8,⟨158,aN 5 (.own 0::aN 133 [.con aa,.con tI]),[.rowv .str]⟩,[ai])]
def uC (ρ:Type):č ρ:=⟨[],7,8,F7,fun(p:GL) (v:Id) a b=>l6 p.1 p.2 v.1 v.2 (fun c d=>a (c,d)) (b 0)⟩
def f6 (ρ:Type):Env ρ:=Þ [(23,gB),(24,PI),(25,tF)] [uG ρ,uF ρ,uE ρ,uD ρ,uC ρ]
def vd:ö:=⟨[ai],[ac],fun(x:fy)=>Ĩ x⟩
def Br:Ç:=Ls 0 [ai,tI] [tI,ac] ⟨27,aN 3 (.own 0::aN 4 [.con ai,.con tI,.var tI]),bm⟩ [(.exit 0,⟨27,aN 3 (.own 0::aN 4 [.con ai,.con tI]),bm⟩,[ac])]
def pz (ρ:Type):č ρ:=⟨[],74,0,Br,fun(p:Val (.pair ai tI)) (v:ly) a b=>iD p.1 p.2 v.1 v.2 (fun c d=>a (c,d)) (b 0)⟩
def FR:NO (Nat×Wc):=[(136,.atoi)]
def jO (ρ:Type):Env ρ:=mkEnvX [] [pz ρ] FR
def Lb:ö:=⟨[ai],[ac,ac],fun(x:fy)=>xV x⟩
def ut:Ç:=Ls 0 [ai,ai,tI] [tI] ⟨34,.con ai::aN 14 [.con ai,.con tI,.var tI],[]⟩ [(.ret,⟨34,.con ai::.any::.var ac::.var ac::aN 11 [.con ai,.con tI],[]⟩,[ac,ac]),(.exit 0,⟨34,.con ai::aN 14 [.con ai,.con tI],[]⟩,[])]
def ur (ρ:Type):č ρ:=⟨[],80,0,ut,fun(p:Val (tyL ut.cs)) (v:Int) b a=>iL p.1 p.2.1 p.2.2 v (fun c=>b c) (a 0) (a 1)⟩
def DR (ρ:Type):Env ρ:=Þ [(74,vd)] [ur ρ]
def Ld:ö:=⟨[.str],[Ä,tI],fun(x:Val .str)=>rC x⟩
def ů:Tpl:=⟨51,[.con .str,.any,.box 0 0,.box 1 0,.box 2 0,.box 3 0],[.cells [.var tI,.var tI,.var ae,.var aa,.var af,.var ab,.var aa],.cells [.var tI],.cells [.var tI,.var tI,.own 18,.own 19,.own 20,.own 21,.own 22],.cells [.ofn 5],.cells [.box 2 0],.fns [((ByteArray.mk #[102,105,108,109]),73,[(6,0),(7,0)]),((ByteArray.mk #[103,97,117,103,101]),73,[(8,0),(9,0)]),((ByteArray.mk #[117,115,101]),73,[(10,0),(11,0)]),((ByteArray.mk #[108,111,97,110]),73,[(12,0),(13,0)]),((ByteArray.mk #[99,111,109,112,97,114,101]),73,[(14,0),(15,0)]),((ByteArray.mk #[108,111,111,107]),73,[(16,0),(17,0)])],.cells [.con tI],.cells [.fn 75 [(4,0)]],.cells [.con tI],.cells [.fn 76 [(4,0)]],.cells [.con tI],.cells [.fn 77 [(4,0)]],.cells [.con tI],.cells [.fn 78 [(4,0)]],.cells [.con tI],.cells [.fn 79 [(4,0)]],.cells [.con tI],.cells [.fn 81 [(4,0)]],.rowv Ô,.rowv Å,.rowv ω,.rowv Ï,.rowv Å]⟩
def uH:Tpl:=⟨51,[.con .str,.any,.box 0 0,.box 1 0,.box 2 0,.box 3 0],[.cells [.var tI,.var tI,.var ae,.var aa,.var af,.var ab,.var aa],.cells [.var tI],.cells [.any,.any,.any,.any,.any,.any,.any],.cells [.ofn 5],.cells [.box 2 0],.fns [((ByteArray.mk #[102,105,108,109]),73,[(6,0),(7,0)]),((ByteArray.mk #[103,97,117,103,101]),73,[(8,0),(9,0)]),((ByteArray.mk #[117,115,101]),73,[(10,0),(11,0)]),((ByteArray.mk #[108,111,97,110]),73,[(12,0),(13,0)]),((ByteArray.mk #[99,111,109,112,97,114,101]),73,[(14,0),(15,0)]),((ByteArray.mk #[108,111,111,107]),73,[(16,0),(17,0)])],.cells [.con tI],.cells [.fn 75 [(4,0)]],.cells [.con tI],.cells [.fn 76 [(4,0)]],.cells [.con tI],.cells [.fn 77 [(4,0)]],.cells [.con tI],.cells [.fn 78 [(4,0)]],.cells [.con tI],.cells [.fn 79 [(4,0)]],.cells [.con tI],.cells [.fn 81 [(4,0)]]]⟩
def mA:If:=⟨[],8,0,18,[.str,tI,tI,tI,tI,tI,tI],[tI,tI,ae,aa,af,ab,aa,tI,tI,tI,ae,aa,af,ab,aa],[tI,tI,ae,aa,af,ab,aa,tI],ů,uH,82,uK,fun(p:IS) (v:LE) y=>Ķ p.2.1 p.2.2.1 p.2.2.2.1 p.2.2.2.2.1 p.2.2.2.2.2.1 p.2.2.2.2.2.2 v y⟩
def Al:NO If:=[mA]
def ş (ρ:Type):Env ρ:={Þ [(7,CF),(28,qd),(29,jm),(74,vd),(80,Lb)] [] with ranges:=BW Al}
def iI:ö:=⟨[Å,tI,tI],[.bool],fun(x:py)=>Ζ x.1 x.2.1 x.2.2⟩
def Fu (ρ:Type):Env ρ:=Þ [] []
def yK:ö:=⟨[tI,tI,tI],[.bool],fun(x:Val ι)=>gS x.1 x.2.1 x.2.2⟩
def Uf (ρ:Type):Env ρ:=Þ [] []
def wg:ö:=⟨[tI],[.bool],fun(x:Int)=>oX x⟩
def RA (ρ:Type):Env ρ:=Þ [(90,yK)] []
def Iy:ö:=⟨[tI,tI],[tI],fun(x:c7)=>sH x.1 x.2⟩
def I8:Ç:=Ls 0 [] [tI,tI] ⟨14,[.var tI,.var tI],[]⟩ [(.exit 0,⟨14,[.var tI],[]⟩,[tI])]
def wL (ρ:Type):č ρ:=⟨[],143,0,I8,fun(p:Unit) (v:c7) a b=>ov v.1 v.2 (fun c d=>a (c,d)) (b 0)⟩
def Ht (ρ:Type):Env ρ:=Þ [] [wL ρ]
def Iz:ö:=⟨[tI],[tI],fun(x:Int)=>xS x⟩
def RF (ρ:Type):Env ρ:=Þ [] []
def GV:ö:=⟨[Å],[.bool],fun(x:c7)=>sF x⟩
def LR (ρ:Type):Env ρ:=Þ [(143,Iy),(144,Iz)] []
def GP:ö:=⟨[Ô],[.bool],fun(x:An)=>sv x⟩
def LB (ρ:Type):Env ρ:=Þ [(34,iI),(40,wg),(89,GV),(90,yK)] []
def qe:ö:=⟨[Ä,tI],[tI],fun(x:LT)=>kO x.1 x.2⟩
def FK:Ç:=Ls 0 [tI,tI,tI,ae,aa,af,ab,aa] [tI] ⟨22,[.any,.con tI,.box 0 0,.any,.any,.var tI],[aS]⟩ [(.ret,⟨22,[.any,.con tI,.box 0 0,.any,.var tI],[aS]⟩,[tI]),(.exit 0,⟨22,[.any,.con tI,.box 0 0],[aS]⟩,[])]
def ud (ρ:Type):č ρ:=⟨[],92,0,FK,fun(p:Val aI) (v:Int) b a=>lS p.1 p.2.2.2.1 v (fun c=>b c) (a 0) (a 1)⟩
def Dw (ρ:Type):Env ρ:=Þ [] [ud ρ]
def mT:ö:=⟨[Ä,tI,tI],[tI],fun(x:AN)=>ix x.1 x.2.1 x.2.2⟩
def LF (ρ:Type):Env ρ:=Þ [(92,qe)] []
def KT:ö:=⟨[Ä],[tI],fun(x:bx)=>xN x⟩
def Ft:Ç:=Ls 0 [tI,tI,ae,aa,af,ab,aa] [tI] ⟨37,[.any,.box 0 0,.any,.var tI],[aS]⟩ [(.ret,⟨37,[.any,.box 0 0,.var tI],[aS]⟩,[tI]),(.exit 0,⟨37,[.any,.box 0 0],[aS]⟩,[])]
def tN (ρ:Type):č ρ:=⟨[],36,0,Ft,fun(p:z6) (v:Int) b a=>let A:=p.2.2.2.2;lB p.1 p.2.1 p.2.2.1 p.2.2.2.1 A.1 A.2.1 A.2.2 v (fun c=>b c) (a 0) (a 1)⟩
def CU (ρ:Type):Env ρ:=Þ [(40,wg),(41,mT)] [tN ρ]
def GN:ö:=⟨[Ä],[tI],fun(x:bx)=>su x⟩
def CY:Ç:=Ls 0 [tI,tI,tI,ae,aa,af,ab,aa,tI,tI,tI,tI] [tI] ⟨111,[.any,.box 0 0,.any,.con tI,.box 1 0,.any,.var tI],bl⟩ [(.ret,⟨111,[.any,.box 0 0,.var tI,.con tI,.box 1 0],bl⟩,[tI]),(.exit 2,⟨111,[.any,.box 0 0,.any,.con tI,.box 1 0],bl⟩,[])]
def qp (ρ:Type):č ρ:=⟨[],37,2,CY,fun(p:Val aw) (v:Int) b a=>let A:=p.2.2.2.2.2;jz p.1 A.1 A.2.2.2.1 A.2.2.2.2.1 A.2.2.2.2.2.1 v (fun c=>b c) (a 0) (a 1)⟩
def CX:Ç:=Ls 0 [tI,tI,tI,ae,aa,af,ab,aa,tI,tI,tI,tI] [tI] ⟨111,[.any,.box 0 0,.any,.con tI,.box 1 0,.any,.any,.var tI],bl⟩ [(.ret,⟨111,[.any,.box 0 0,.var tI,.con tI,.box 1 0],bl⟩,[tI]),(.exit 4,⟨111,[.any,.box 0 0,.any,.con tI,.box 1 0],bl⟩,[])]
def qo (ρ:Type):č ρ:=⟨[],37,4,CX,fun(p:Val aw) (v:Int) b a=>let A:=p.2.2.2.2;let B:=A.2.2.2.2;gK A.1 B.1 B.2.1 B.2.2.1 v (fun c=>b c) (a 0) (a 1)⟩
def CZ:Ç:=Ls 0 [tI,tI,ae,aa,af,ab,aa] [tI] ⟨111,[.any,.box 0 0,.any,.var tI],[aS]⟩ [(.ret,⟨111,[.any,.box 0 0,.var tI],[aS]⟩,[tI]),(.exit 0,⟨111,[.any,.box 0 0],[aS]⟩,[])]
def qq (ρ:Type):č ρ:=⟨[],37,0,CZ,fun(p:z6) (v:Int) b a=>let A:=p.2.2.2.2;jA p.1 p.2.1 p.2.2.1 p.2.2.2.1 A.1 A.2.1 A.2.2 v (fun c=>b c) (a 0) (a 1)⟩
def lC (ρ:Type):Env ρ:=Þ [(34,iI),(41,mT),(90,yK)] [qp ρ,qo ρ,qq ρ]
def KZ:ö:=⟨[ac],[.bool],fun(x:an)=>rt x⟩
def FG:Ç:=Ls 0 [ac] [tI] ⟨35,[.con ac,.any,.any,.var tI],[]⟩ [(.ret,⟨35,[.con ac,.any,.var .bool],[]⟩,[.bool]),(.exit 0,⟨35,[.con ac],[]⟩,[])]
def tX (ρ:Type):č ρ:=⟨[],91,0,FG,fun(p:an) (v:Int) b a=>lO p v (fun c=>b c) (a 0) (a 1)⟩
def Di (ρ:Type):Env ρ:=Þ [(90,yK)] [tX ρ]
def GK:ö:=⟨[Ï],[.bool],fun(x:ge)=>sq x⟩
def Ly (ρ:Type):Env ρ:=Þ [(34,iI),(40,wg),(90,yK),(91,KZ)] []
def Cw:ö:=⟨[Ä,tI,tI],[ω,.bool],fun(x:AN)=>ru x.1 x.2.1 x.2.2⟩
def FH:Ç:=Ls 0 [tI,tI,tI,tI,ae,aa,af,ab,aa] [tI,tI,tI,tI,tI] ⟨42,[.any,.con tI,.con tI,.box 0 0,.any,.any,.box 1 0,.any,.var tI],[aS,bg]⟩ [(.ret,⟨42,[.any,.con tI,.con tI,.box 0 0,.any,.any,.box 1 0,.var .bool],[aS,bg]⟩,[.bool,tI,tI,tI,tI]),(.exit 0,⟨42,[.any,.con tI,.con tI,.box 0 0,.any,.any,.box 1 0],[aS,bg]⟩,[tI,tI,tI,tI])]
def t7 (ρ:Type):č ρ:=⟨[],93,0,FH,fun(p:Val (.pair tI aI)) (v:Val (.pair tI (.pair tI ι))) b a=>lQ p.1 p.2.1 p.2.2.2.2.2.2.1 v.1 v.2.1 v.2.2.1 v.2.2.2.1 v.2.2.2.2 (fun c d e f g=>b (c,d,e,f,g)) (a 0) (a 1)⟩
def Dq (ρ:Type):Env ρ:=Þ [] [t7 ρ]
def PC:ö:=⟨[ac,tI],[.bool],fun(x:v8)=>B0 x.1 x.2⟩
def I5:Ç:=Ls 0 [ac,tI] [tI] ⟨18,[.con ac,.con tI,.any,.any,.any,.var tI],[]⟩ [(.ret,⟨18,[.con ac,.con tI,.any,.any,.var .bool],[]⟩,[.bool]),(.exit 0,⟨18,[.con ac,.con tI],[]⟩,[])]
def wJ (ρ:Type):č ρ:=⟨[],145,0,I5,fun(p:v8) (v:Int) b a=>ou p.1 p.2 v (fun c=>b c) (a 0) (a 1)⟩
def Hn (ρ:Type):Env ρ:=Þ [] [wJ ρ]
def Cx:ö:=⟨[ac,ac],[ac],fun(x:DO)=>fM x.1 x.2⟩
def FI:Ç:=Ls 0 [ac,ac] [tI,ac] ⟨28,[.con ac,.con ac,.any,.any,.any,.own 0,.var tI],bm⟩ [(.exit 0,⟨28,[.con ac,.con ac,.any,.any,.any,.own 0],bm⟩,[ac])]
def t8 (ρ:Type):č ρ:=⟨[],94,0,FI,fun(p:DO) (v:ly) a b=>lR p.1 p.2 v.1 v.2 (fun c d=>a (c,d)) (b 0)⟩
def Ds (ρ:Type):Env ρ:=Þ [(145,PC)] [t8 ρ]
def wd:ö:=⟨[Ä,Ï],[tI],fun(x:ID)=>Ω x.1 x.2⟩
def wC:Ç:=Ls 0 [tI,tI,ae,aa,af,ab,aa,tI,tI,ac,ac,tI,tI,tI,tI,ac] [tI] ⟨90,[.any,.any,.box 0 0,.box 1 0,.any,.own 2,.var tI],bn⟩ [(.ret,⟨90,[.any,.any,.box 0 0,.box 1 0,.var tI,.own 2],bn⟩,[tI]),(.exit 0,⟨90,[.any,.any,.box 0 0,.box 1 0,.any,.own 2],bn⟩,[])]
def lG (ρ:Type):č ρ:=⟨[],39,0,wC,fun(p:Val aq) (v:Int) b a=>let A:=p.2.2.2.2;fS p.1 p.2.1 p.2.2.1 p.2.2.2.1 A.1 A.2.1 A.2.2.1 A.2.2.2.2.2.2.2.2.2.2.2 v (fun c=>b c) (a 0) (a 1)⟩
def wB:Ç:=Ls 0 [tI,tI,ae,aa,af,ab,aa,tI,tI,ac,ac,tI,tI,tI,tI,ac] [tI] ⟨90,[.any,.any,.box 0 0,.box 1 0,.any,.own 2,.any,.var tI],bn⟩ [(.ret,⟨90,[.any,.any,.box 0 0,.box 1 0,.var tI,.own 2],bn⟩,[tI]),(.exit 2,⟨90,[.any,.any,.box 0 0,.box 1 0,.any,.own 2],bn⟩,[])]
def lF (ρ:Type):č ρ:=⟨[],39,2,wB,fun(p:Val aq) (v:Int) b a=>let A:=p.2.2.2.2;Ũ p.1 p.2.1 p.2.2.1 p.2.2.2.1 A.1 A.2.1 A.2.2.1 A.2.2.2.2.1 A.2.2.2.2.2.2.2.2.2.2.2 v (fun c=>b c) (a 0) (a 1)⟩
def wA:Ç:=Ls 0 [tI,tI,ae,aa,af,ab,aa,tI,tI,ac,ac,tI,tI,tI,tI,ac] [tI] ⟨90,[.any,.any,.box 0 0,.box 1 0,.any,.own 2,.any,.any,.var tI],bn⟩ [(.ret,⟨90,[.any,.any,.box 0 0,.box 1 0,.var tI,.own 2],bn⟩,[tI]),(.exit 4,⟨90,[.any,.any,.box 0 0,.box 1 0,.any,.own 2],bn⟩,[])]
def lE (ρ:Type):č ρ:=⟨[],39,4,wA,fun(p:Val aq) (v:Int) b a=>let A:=p.2.2.2.2;ľ p.1 p.2.1 p.2.2.1 p.2.2.2.1 A.1 A.2.1 A.2.2.1 A.2.2.2.2.1 A.2.2.2.2.2.2.2.2.2.2.2 v (fun c=>b c) (a 0) (a 1)⟩
def ż (ρ:Type):Env ρ:=Þ [(41,mT),(92,qe),(93,Cw),(94,Cx)] [lG ρ,lF ρ,lE ρ]
def BP:ö:=⟨[ac,ac],[tI],fun(x:DO)=>jT x.1 x.2⟩
def Rz (ρ:Type):Env ρ:=Þ [(94,Cx)] []
def KV:ö:=⟨[Ä,Ô,tI],[.bool],fun(x:Val (.pair Ä (.pair Ô tI)))=>xO x.1 x.2.1 x.2.2⟩
def Fx:Ç:=Ls 0 [tI,tI,tI,ae,aa,af,ab,aa,tI,tI,tI,tI,tI,tI,tI,tI] [tI] ⟨76,[.any,.any,.con tI,.box 0 0,.box 1 0,.any,.any,.var tI],[aS,aT]⟩ [(.ret,⟨76,[.any,.any,.con tI,.box 0 0,.box 1 0,.any,.var .bool],[aS,aT]⟩,[.bool]),(.exit 0,⟨76,[.any,.any,.con tI,.box 0 0,.box 1 0],[aS,aT]⟩,[])]
def tQ (ρ:Type):č ρ:=⟨[],95,0,Fx,fun(p:Val am) (v:Int) b a=>lH p.1 p.2.2.2.2.2.2.1 p.2.2.2.2.2.2.2.2.1 v (fun c=>b c) (a 0) (a 1)⟩
def Fw:Ç:=Ls 0 [tI,tI,tI,ae,aa,af,ab,aa,tI,tI,tI,tI,tI,tI,tI,tI] [tI] ⟨76,aN 2 (.con tI::.box 0 0::.box 1 0::aN 4 [.var tI]),[aS,aT]⟩ [(.ret,⟨76,[.any,.any,.con tI,.box 0 0,.box 1 0,.any,.var .bool],[aS,aT]⟩,[.bool]),(.exit 2,⟨76,[.any,.any,.con tI,.box 0 0,.box 1 0],[aS,aT]⟩,[])]
def tP (ρ:Type):č ρ:=⟨[],95,2,Fw,fun(p:Val am) (v:Int) b a=>iK p.1 p.2.2.2.2.2.2.2.1 p.2.2.2.2.2.2.2.2.1 v (fun c=>b c) (a 0) (a 1)⟩
def vr (ρ:Type):Env ρ:=Þ [(98,BP)] [tQ ρ,tP ρ]
def rX:ö:=⟨[Ä],[aa],fun(x:bx)=>gk x⟩
def Dl:Ç:=Ls 0 [tI,tI,ae,aa,af,ab,aa] [tI,ac] ⟨114,[.any,.box 0 0,.any,.own 1,.var tI],bw⟩ [(.exit 0,⟨114,[.any,.box 0 0,.any,.own 1],bw⟩,[ac])]
def qI (ρ:Type):č ρ:=⟨[],42,0,Dl,fun(p:z6) (v:ly) a b=>jJ p.2.2.1 v.1 v.2 (fun c d=>a (c,d)) (b 0)⟩
def Dk:Ç:=Ls 0 [tI,tI,ae,aa,af,ab,aa] [tI,ac] ⟨114,[.any,.box 0 0,.any,.own 1,.any,.var tI],bw⟩ [(.exit 2,⟨114,[.any,.box 0 0,.any,.own 1],bw⟩,[ac])]
def qH (ρ:Type):č ρ:=⟨[],42,2,Dk,fun(p:z6) (v:ly) a b=>jI p.2.2.2.2.2.1 v.1 v.2 (fun c d=>a (c,d)) (b 0)⟩
def Dj:Ç:=Ls 0 [tI,tI,ae,aa,af,ab,aa] [tI,ac] ⟨114,[.any,.box 0 0,.any,.own 1,.any,.any,.var tI],bw⟩ [(.exit 4,⟨114,[.any,.box 0 0,.any,.own 1],bw⟩,[ac])]
def qG (ρ:Type):č ρ:=⟨[],42,4,Dj,fun(p:z6) (v:ly) a b=>jH p.2.2.2.2.2.2 v.1 v.2 (fun c d=>a (c,d)) (b 0)⟩
def qB:Ç:=Ls 0 [tI,tI,tI,tI,ae,aa,af,ab,aa,ac,aa] [tI,tI] ⟨114,[.any,.box 0 0,.any,.own 1,.any,.any,.any,.own 2,.con tI,.con tI,.var tI,.var tI],[aS,.rowc tI,.rowc Å]⟩ [(.exit 10,⟨114,[.any,.box 0 0,.any,.own 1,.any,.any,.any,.own 2,.con tI,.con tI,.var tI],[aS,.rowc tI,.rowc Å]⟩,[tI])]
def qA (ρ:Type):č ρ:=⟨[],42,10,qB,fun(p:Val (tyL qB.cs)) (v:c7) a b=>gM p.2.1 p.2.2.2.2.2.2.2.2.2.1 v.1 v.2 (fun c d=>a (c,d)) (b 0)⟩
def qD:Ç:=Ls 0 [tI,tI,tI,ae,aa,af,ab,aa,ac] [tI,aa] ⟨114,[.any,.box 0 0,.any,.own 1,.any,.any,.any,.own 2,.con tI,.var tI],bz⟩ [(.exit 8,⟨114,[.any,.box 0 0,.any,.own 1,.any,.any,.any,.own 2,.con tI],bz⟩,[aa])]
def qC (ρ:Type):č ρ:=⟨[],42,8,qD,fun(p:Val (tyL qD.cs)) (v:rd) a b=>let A:=p.2.2.2.2;gN p.1 p.2.1 p.2.2.1 p.2.2.2.1 A.1 A.2.1 A.2.2.1 A.2.2.2.1 A.2.2.2.2 v.1 v.2 (fun c d=>a (c,d)) (b 0)⟩
def qF:Ç:=Ls 0 [tI,tI,ae,aa,af,ab,aa,ac] [tI,aa] ⟨114,[.any,.box 0 0,.any,.own 1,.any,.any,.any,.own 2,.var tI],bz⟩ [(.exit 6,⟨114,[.any,.box 0 0,.any,.own 1,.any,.any,.any,.own 2],bz⟩,[aa])]
def qE (ρ:Type):č ρ:=⟨[],42,6,qF,fun(p:Val (tyL qF.cs)) (v:rd) a b=>let A:=p.2.2.2.2;jG p.1 p.2.1 p.2.2.1 p.2.2.2.1 A.1 A.2.1 A.2.2.1 A.2.2.2 v.1 v.2 (fun c d=>a (c,d)) (b 0)⟩
def Ž (ρ:Type):Env ρ:=Þ [(95,KV)] [qI ρ,qH ρ,qG ρ,qA ρ,qC ρ,qE ρ]
def KW:ö:=⟨[Ä,tI,tI],[.bool],fun(x:AN)=>xP x.1 x.2.1 x.2.2⟩
def Fy:Ç:=Ls 0 [tI,tI,tI,tI,ae,aa,af,ab,aa] [tI] ⟨33,[.any,.con tI,.con tI,.box 0 0,.any,.any,.any,.var tI],[aS]⟩ [(.ret,⟨33,[.any,.con tI,.con tI,.box 0 0,.any,.any,.var .bool],[aS]⟩,[.bool]),(.exit 0,⟨33,[.any,.con tI,.con tI,.box 0 0],[aS]⟩,[])]
def tR (ρ:Type):č ρ:=⟨[],146,0,Fy,fun(p:Val (.pair tI aI)) (v:Int) b a=>lI p.1 p.2.1 p.2.2.2.2.2.1 v (fun c=>b c) (a 0) (a 1)⟩
def C6 (ρ:Type):Env ρ:=Þ [] [tR ρ]
def K3:ö:=⟨[Ä,tI,tI,tI],[tI],fun(x:Val (.pair Ä ι))=>nP x.1 x.2.1 x.2.2.1 x.2.2.2⟩
def tZ:Ç:=Ls 0 [tI,tI,tI,tI,tI,ae,aa,af,ab,aa] [tI,tI] ⟨48,.any::.con tI::.any::.con tI::.box 0 0::aN 4 [.con tI,.var tI,.var tI],[aS]⟩ [(.exit 0,⟨48,.any::.con tI::.any::.con tI::.box 0 0::aN 4 [.con tI,.var tI],[aS]⟩,[tI])]
def tY (ρ:Type):č ρ:=⟨[],96,0,tZ,fun(p:Val (tyL tZ.cs)) (v:c7) a b=>let A:=p.2.2.2.2;lP p.1 p.2.1 p.2.2.1 p.2.2.2.1 A.1 A.2.1 A.2.2.1 A.2.2.2.1 A.2.2.2.2.1 A.2.2.2.2.2 v.1 v.2 (fun c d=>a (c,d)) (b 0)⟩
def Dn (ρ:Type):Env ρ:=Þ [(92,qe),(93,Cw),(146,KW)] [tY ρ]
def GS:ö:=⟨[Ä,Å],[tI],fun(x:AN)=>ε x.1 x.2⟩
def Dt:Ç:=Ls 0 [aa,tI,tI] [tI] ⟨23,[.any,.any,.any,.box 0 0,.any,.con aa,.var tI],[aY]⟩ [(.ret,⟨23,[.any,.any,.any,.box 0 0,.var tI,.con aa],[aY]⟩,[tI]),(.exit 0,⟨23,[.any,.any,.any,.box 0 0,.any,.con aa],[aY]⟩,[])]
def qJ (ρ:Type):č ρ:=⟨[],97,0,Dt,fun(p:Val (.pair aa Å)) (v:Int) b a=>jK p.1 p.2.1 p.2.2 v (fun c=>b c) (a 0) (a 1)⟩
def Af (ρ:Type):Env ρ:=Þ [(42,rX)] [qJ ρ]
def uZ:ö:=⟨[tI,tI],[Ι],fun(x:c7)=>kP x.1 x.2⟩
def I7 (ρ:Type):Env ρ:=Þ [(143,Iy),(144,Iz)] []
def PG:ö:=⟨[Å,Å],[Ι],fun(x:py)=>JE x.1 x.2⟩
def RE (ρ:Type):Env ρ:=Þ [(251,uZ)] []
def PE:ö:=⟨[Å],[Å],fun(x:c7)=>JD x⟩
def RC (ρ:Type):Env ρ:=Þ [] []
def PD:ö:=⟨[Å,Å],[Ι],fun(x:py)=>B3 x.1 x.2⟩
def RB (ρ:Type):Env ρ:=Þ [(230,PG),(231,PE)] []
def GO:ö:=⟨[Ä,tI],[Å],fun(x:LT)=>nI x.1 x.2⟩
def LA (ρ:Type):Env ρ:=Þ [(92,qe)] []
def K5:ö:=⟨[Ι,Ι],[pT],fun(x:Val (.pair Ι Ι))=>xQ x.1 x.2⟩
def N7 (ρ:Type):Env ρ:=Þ [] []
def PF:ö:=⟨[Å,Å],[Ι],fun(x:py)=>oY x.1 x.2⟩
def RD (ρ:Type):Env ρ:=Þ [(251,uZ)] []
def GW:ö:=⟨[ù,Å],[pT],fun(x:Val (.pair ù Å))=>sG x.1 x.2⟩
def LS (ρ:Type):Env ρ:=Þ [(232,K5),(233,PF)] []
def Cy:ö:=⟨[Ä,Ï],[ù],fun(x:ID)=>oW x.1 x.2⟩
def I6 (ρ:Type):Env ρ:=Þ [(98,BP),(183,PD),(184,GO),(185,GW)] []
def GU:ö:=⟨[Ä,Ï],[Å],fun(x:ID)=>sE x.1 x.2⟩
def LO (ρ:Type):Env ρ:=Þ [] []
def K4:ö:=⟨[tI,tI],[tI],fun(x:c7)=>EJ x.1 x.2⟩
def N6 (ρ:Type):Env ρ:=Þ [] []
def GY:ö:=⟨[Å],[tI],fun(x:c7)=>sI x⟩
def LU (ρ:Type):Env ρ:=Þ [(186,K4)] []
def TO:ö:=⟨[tI,tI],[tI],fun(x:c7)=>Ou x.1 x.2⟩
def Uh (ρ:Type):Env ρ:=Þ [] []
def K6:ö:=⟨[Å],[tI],fun(x:c7)=>xR x⟩
def N8 (ρ:Type):Env ρ:=Þ [(187,TO)] []
def KX:ö:=⟨[Ä,Ï],[Å],fun(x:ID)=>nM x.1 x.2⟩
def N5 (ρ:Type):Env ρ:=Þ [(147,Cy),(148,GU),(149,GY),(150,K6)] []
def PB:ö:=⟨[Ä],[tr],fun(x:bx)=>sw x⟩
def I3:Ç:=Ls 0 [aa,tI,tI,tI,ae,aa,af,ab,aa,tI,tI,tI,tI,tI,tI,tI,tI] [tI,ah,aa] ⟨182,[.any,.box 0 0,.box 1 0,.box 2 0,.con aa,.con tI,.box 3 0,.var tI],[aS,bh,.cells [.own 4,.own 5],aT,.rowv ι,.rowv Å]⟩ [(.exit 2,⟨182,[.any,.box 0 0,.box 1 0,.box 2 0,.con aa,.con tI,.box 3 0],[aS,bh,.cells [.own 4,.own 5],aT,.rowv ι,.rowv Å]⟩,[ah,aa])]
def wE (ρ:Type):č ρ:=⟨[],43,2,I3,fun(p:Val (.pair aa am)) (v:Fd) a b=>let A:=p.2.2.2.2;let B:=A.2.2.2.2;kz p.1 p.2.1 p.2.2.1 p.2.2.2.1 A.1 A.2.1 A.2.2.1 A.2.2.2.1 B.1 B.2.1 B.2.2.1 B.2.2.2.1 B.2.2.2.2.1 B.2.2.2.2.2.1 v.1 v.2.1 v.2.2 (fun c d e=>a (c,d,e)) (b 0)⟩
def I4:Ç:=Ls 0 [aa,tI,tI,ae,aa,af,ab,aa] [tI,ah,aa] ⟨182,[.any,.box 0 0,.box 1 0,.box 2 0,.con aa,.var tI],bB⟩ [(.exit 0,⟨182,[.any,.box 0 0,.box 1 0,.box 2 0,.con aa],bB⟩,[ah,aa])]
def wF (ρ:Type):č ρ:=⟨[],43,0,I4,fun(p:Val (.pair aa ag)) (v:Fd) a b=>let A:=p.2.2.2.2;ot p.1 p.2.1 p.2.2.1 p.2.2.2.1 A.1 A.2.1 A.2.2.1 A.2.2.2 v.1 v.2.1 v.2.2 (fun c d e=>a (c,d,e)) (b 0)⟩
def I2:Ç:=Ls 0 [tI,tI,ae,aa,af,ab,aa] [tI,ah,aa] ⟨182,.any::.box 0 0::.box 1 0::.box 2 0::aN 5 [.var tI],bB⟩ [(.exit 4,⟨182,[.any,.box 0 0,.box 1 0,.box 2 0],bB⟩,[ah,aa])]
def wD (ρ:Type):č ρ:=⟨[],43,4,I2,fun(p:z6) (v:Fd) a b=>let A:=p.2.2.2.2;oq p.1 p.2.1 p.2.2.1 p.2.2.2.1 A.1 A.2.1 A.2.2 v.1 v.2.1 v.2.2 (fun c d e=>a (c,d,e)) (b 0)⟩
def sa (ρ:Type):Env ρ:=Þ [(42,rX),(96,K3),(97,GS),(98,BP),(99,KX)] [wE ρ,wF ρ,wD ρ]
def yL:ö:=⟨[Ä],[tI],fun(x:bx)=>Ħ x⟩
def DB:Ç:=Ls 0 [tI,tI,ae,aa,af,ab,aa] [tI] ⟨170,[.any,.box 0 0,.any,.var tI],[aS]⟩ [(.ret,⟨170,[.any,.box 0 0,.var tI],[aS]⟩,[tI]),(.exit 0,⟨170,[.any,.box 0 0],[aS]⟩,[])]
def qN (ρ:Type):č ρ:=⟨[],11,0,DB,fun(p:z6) (v:Int) b a=>jM p.2.2.1 v (fun c=>b c) (a 0) (a 1)⟩
def Dz:Ç:=Ls 0 [tI,tI,tI,ae,aa,af,ab,aa] [tI] ⟨170,.any::.box 0 0::aN 4 [.con tI,.any,.var tI],[aS]⟩ [(.ret,⟨170,[.any,.box 0 0,.var tI,.any,.any,.any,.con tI],[aS]⟩,[tI]),(.exit 4,⟨170,.any::.box 0 0::aN 4 [.con tI],[aS]⟩,[])]
def qL (ρ:Type):č ρ:=⟨[],11,4,Dz,fun(p:Val aI) (v:Int) b a=>jL p.1 p.2.2.2.2.2.2.1 v (fun c=>b c) (a 0) (a 1)⟩
def DA:Ç:=Ls 0 [tI,tI,ae,aa,af,ab,aa] [tI] ⟨170,.any::.box 0 0::aN 4 [.var tI],[aS]⟩ [(.ret,⟨170,[.any,.box 0 0,.var tI],[aS]⟩,[tI]),(.exit 2,⟨170,[.any,.box 0 0],[aS]⟩,[])]
def qM (ρ:Type):č ρ:=⟨[],11,2,DA,fun(p:z6) (v:Int) b a=>let A:=p.2.2.2.2;Ρ p.1 p.2.1 p.2.2.1 p.2.2.2.1 A.1 A.2.1 A.2.2 v (fun c=>b c) (a 0) (a 1)⟩
def Dy:Ç:=Ls 0 [tI,tI,ae,aa,af,ab,aa] [tI] ⟨170,.any::.box 0 0::aN 7 [.var tI],[aS]⟩ [(.ret,⟨170,[.any,.box 0 0,.var tI],[aS]⟩,[tI]),(.exit 6,⟨170,[.any,.box 0 0],[aS]⟩,[])]
def qK (ρ:Type):č ρ:=⟨[],11,6,Dy,fun(p:z6) (v:Int) b a=>let A:=p.2.2.2.2;Ο p.1 p.2.1 p.2.2.1 p.2.2.2.1 A.1 A.2.1 A.2.2 v (fun c=>b c) (a 0) (a 1)⟩
def gh (ρ:Type):Env ρ:=Þ [(34,iI),(35,GP),(36,KT),(37,GN),(38,GK),(39,wd),(40,wg),(41,mT),(42,rX),(43,PB)] [qN ρ,qL ρ,qM ρ,qK ρ]
def zT:ö:=⟨[tI],[.str],fun(x:Int)=>rx x⟩
def Į:Ç:=Ls 0 [] [tI,.str] ⟨46,[.var tI,.any,.any,.any,.var .str],[]⟩ [(.exit 0,⟨46,aN 4 [.var .str],[]⟩,[.str])]
def im (rec:Int->Nm ByteArray) (ρ:Type):č ρ:=⟨[],100,0,Į,fun(p:Unit) (v:Do) a b=>gO rec v.1 v.2 (fun c d=>a (c,d)) (b 0)⟩
def Dx (rec:Int->Nm ByteArray):NO (Nat×ö):=[(100,⟨[tI],[.str],fun(x:Int)=>rec x⟩)]
def pu (rec:Int->Nm ByteArray) (ρ:Type):NO (č ρ):=[im rec ρ]
def Ň (rec:Int->Nm ByteArray) (ρ:Type):Env ρ:=Þ (Dx rec) (pu rec ρ)
def KU:ö:=⟨[.str,ac],[.str],fun(x:Val (.pair .str ac))=>Ū x.1 x.2⟩
def Fv:Ç:=Ls 0 [ac] [.str,tI] ⟨23,[.any,.con ac,.any,.any,.any,.var .str,.var tI],[]⟩ [(.exit 0,⟨23,[.any,.con ac,.any,.any,.any,.var .str],[]⟩,[.str])]
def tO (ρ:Type):č ρ:=⟨[],44,0,Fv,fun(p:an) (v:v7) a b=>lD p v.1 v.2 (fun c d=>a (c,d)) (b 0)⟩
def C1 (ρ:Type):Env ρ:=Þ [(100,zT)] [tO ρ]
def yJ:ö:=⟨[Ä],[.str],fun(x:bx)=>ğ x⟩
def Dg:Ç:=Ls 0 [tI,tI,ae,aa,af,ab,aa] [.str,tI] ⟨173,[.any,.box 0 0,.any,.var .str,.var tI],[aS]⟩ [(.exit 0,⟨173,[.any,.box 0 0,.any,.var .str],[aS]⟩,[.str])]
def qx (ρ:Type):č ρ:=⟨[],12,0,Dg,fun(p:z6) (v:v7) a b=>jF p.2.2.1 v.1 v.2 (fun c d=>a (c,d)) (b 0)⟩
def Df:Ç:=Ls 0 [tI,tI,ae,aa,af,ab,aa] [.str,tI] ⟨173,[.any,.box 0 0,.any,.var .str,.any,.any,.var tI],[aS]⟩ [(.exit 2,⟨173,[.any,.box 0 0,.any,.var .str],[aS]⟩,[.str])]
def qw (ρ:Type):č ρ:=⟨[],12,2,Df,fun(p:z6) (v:v7) a b=>jE p.2.2.2.1 v.1 v.2 (fun c d=>a (c,d)) (b 0)⟩
def De:Ç:=Ls 0 [tI,tI,ae,aa,af,ab,aa] [.str,tI] ⟨173,[.any,.box 0 0,.any,.var .str,.any,.any,.any,.var tI],[aS]⟩ [(.exit 4,⟨173,[.any,.box 0 0,.any,.var .str],[aS]⟩,[.str])]
def qv (ρ:Type):č ρ:=⟨[],12,4,De,fun(p:z6) (v:v7) a b=>jD p.2.2.2.2.1 v.1 v.2 (fun c d=>a (c,d)) (b 0)⟩
def Dc:Ç:=Ls 0 [tI,tI,ae,aa,af,ab,aa] [.str,tI] ⟨173,.any::.box 0 0::.any::.var .str::aN 5 [.var tI],[aS]⟩ [(.exit 6,⟨173,[.any,.box 0 0,.any,.var .str],[aS]⟩,[.str])]
def qu (ρ:Type):č ρ:=⟨[],12,6,Dc,fun(p:z6) (v:v7) a b=>jC p.2.2.2.2.2.1 v.1 v.2 (fun c d=>a (c,d)) (b 0)⟩
def Db:Ç:=Ls 0 [tI,tI,ae,aa,af,ab,aa] [.str,tI] ⟨173,.any::.box 0 0::.any::.var .str::aN 7 [.var tI],[aS]⟩ [(.exit 8,⟨173,[.any,.box 0 0,.any,.var .str],[aS]⟩,[.str])]
def qt (ρ:Type):č ρ:=⟨[],12,8,Db,fun(p:z6) (v:v7) a b=>jB p.2.2.2.2.2.2 v.1 v.2 (fun c d=>a (c,d)) (b 0)⟩
def gg (ρ:Type):Env ρ:=Þ [(44,KU)] [qx ρ,qw ρ,qv ρ,qu ρ,qt ρ]
def GQ:ö:=⟨[.str,(.int .u8)],[ai],fun(x:Val (.pair .str (.int .u8)))=>nJ x.1 x.2⟩
def C4:Ç:=Ls 0 [.str,(.int .u8)] [tI,tI,ai] ⟨34,[.con .str,.con (.int .u8),.any,.any,.any,.own 0,.var tI,.var tI],[.rowv .str]⟩ [(.exit 0,⟨34,[.con .str,.con (.int .u8),.any,.any,.any,.own 0,.var tI],[.rowv .str]⟩,[tI,ai])]
def qr (ρ:Type):č ρ:=⟨[],30,0,C4,fun(p:Val (.pair .str (.int .u8))) (v:Val (.pair tI aL)) a b=>oo p.1 p.2 v.1 v.2.1 v.2.2 (fun c d e=>a (c,d,e)) (b 0)⟩
def Ad (ρ:Type):Env ρ:=Þ [] [qr ρ]
def uY:ö:=⟨[.str],[tI],fun(x:Val .str)=>f7 x⟩
def AR:Ç:=Ls 0 [.str] [tI,tI] ⟨44,[.con .str,.any,.any,.var tI,.var tI],[]⟩ [(.exit 0,⟨44,[.con .str,.any,.any,.var tI],[]⟩,[tI])]
def pp (ρ:Type):č ρ:=⟨[],142,0,AR,fun(p:Val .str) (v:c7) a b=>mz p v.1 v.2 (fun c d=>a (c,d)) (b 0)⟩
def wz (ρ:Type):Env ρ:=Þ [] [pp ρ]
def zS:ö:=⟨[ai,tI],[ac],fun(x:Val (.pair ai tI))=>mg x.1 x.2⟩
def yR:Ç:=Ls 0 [ai,tI] [tI,ac] ⟨29,[.con ai,.con tI,.any,.any,.any,.own 0,.var tI],bm⟩ [(.exit 0,⟨29,[.con ai,.con tI,.any,.any,.any,.own 0],bm⟩,[ac])]
def nj (ρ:Type):č ρ:=⟨[],86,0,yR,fun(p:Val (.pair ai tI)) (v:ly) a b=>gJ p.1 v.1 v.2 (fun c d=>a (c,d)) (b 0)⟩
def yQ:Ç:=Ls 0 [tI] [ac] ⟨29,[.any,.con tI,.any,.any,.any,.own 0],bm⟩ [(.exit 2,⟨29,[.any,.con tI,.any,.any,.any,.own 0],bm⟩,[ac])]
def ni (ρ:Type):č ρ:=⟨[],86,2,yQ,fun(p:Int) (v:an) a b=>ky p v (fun c=>a c) (b 0)⟩
def mw (ρ:Type):Env ρ:=Þ [(142,uY)] [nj ρ,ni ρ]
def GM:ö:=⟨[ai],[ac,ac],fun(x:fy)=>sr x⟩
def CV:Ç:=Ls 0 [ai] [.bool,tI,ac,ac] ⟨50,[.con ai,.any,.any,.any,.own 0,.own 1,.var .bool,.var tI],[.rowv tI,.rowv tI]⟩ [(.exit 0,⟨50,[.con ai,.any,.any,.any,.own 0,.own 1],[.rowv tI,.rowv tI]⟩,[ac,ac])]
def qn (ρ:Type):č ρ:=⟨[],87,0,CV,fun(p:fy) (v:Val (.pair .bool (.pair tI az))) a b=>ol p v.1 v.2.1 v.2.2.1 v.2.2.2 (fun c d e f=>a (c,d,e,f)) (b 0)⟩
def Ab (ρ:Type):Env ρ:=Þ [(142,uY)] [qn ρ]
def GR:ö:=⟨[.str],[Ä,.bool],fun(x:Val .str)=>nO x⟩
def qz:Ç:=Ls 0 [.str,ai,tI,tI] [tI,tI,tI,ae,aa,af,ab,aa] ⟨38,[.con .str,.any,.box 0 0,.any,.con ai,.box 1 0,.var tI],bC⟩ [(.exit 0,⟨38,[.con .str,.any,.box 0 0,.any,.con ai,.box 1 0],bC⟩,[tI,tI,ae,aa,af,ab,aa])]
def qy (ρ:Type):č ρ:=⟨[],9,0,qz,fun(p:Val (tyL qz.cs)) (v:Val aI) a b=>gL p.2.1 v.1 v.2.1 v.2.2.1 v.2.2.2.1 v.2.2.2.2.1 v.2.2.2.2.2.1 v.2.2.2.2.2.2.1 v.2.2.2.2.2.2.2 (fun c d e f g h i j=>a (c,d,e,f,g,h,i,j)) (b 0)⟩
def Ae (ρ:Type):Env ρ:=Þ [(11,yL),(12,yJ),(30,GQ),(86,zS),(87,GM)] [qy ρ]
def we:ö:=⟨[ac,ac],[.bool],fun(x:DO)=>δ x.1 x.2⟩
def wG:Ç:=Ls 0 [ac,ac] [tI] ⟨26,[.con ac,.con ac,.any,.any,.any,.var tI],[]⟩ [(.ret,⟨26,[.con ac,.con ac,.any,.any,.var .bool],[]⟩,[.bool]),(.exit 0,⟨26,[.con ac,.con ac],[]⟩,[])]
def lN (ρ:Type):č ρ:=⟨[],88,0,wG,fun(p:DO) (v:Int) b a=>fT p.1 p.2 v (fun c=>b c) (a 0) (a 1)⟩
def qs (ρ:Type):Env ρ:=Þ [] [lN ρ]
def pn:ö:=⟨[Ï,Ï],[.bool],fun(x:Val (.pair Ï Ï))=>fW x.1 x.2⟩
def wI (ρ:Type):Env ρ:=Þ [(88,we)] []
def tJ:ö:=⟨[aa,aa],[.bool],fun(x:Val (.pair aa aa))=>fL x.1 x.2⟩
def vt:Ç:=Ls 0 [aa,aa] [tI] ⟨26,[.con aa,.con aa,.any,.any,.any,.var tI],[]⟩ [(.ret,⟨26,[.con aa,.con aa,.any,.any,.var .bool],[]⟩,[.bool]),(.exit 0,⟨26,[.con aa,.con aa],[]⟩,[])]
def kD (ρ:Type):č ρ:=⟨[],33,0,vt,fun(p:Val (.pair aa aa)) (v:Int) b a=>Ξ p.1 p.2 v (fun c=>b c) (a 0) (a 1)⟩
def pq (ρ:Type):Env ρ:=Þ [] [kD ρ]
def KY:ö:=⟨[Ä,Ä],[.bool],fun(x:Val (.pair Ä Ä))=>nN x.1 x.2⟩
def FF:Ç:=Ls 0 [tI,tI,ae,aa,af,ab,aa,tI,tI,ae,aa,af,ab,aa] [tI] ⟨130,[.any,.any,.box 0 0,.box 1 0,.any,.var tI],bD⟩ [(.ret,⟨130,[.any,.any,.box 0 0,.box 1 0,.var .bool],bD⟩,[.bool]),(.exit 0,⟨130,[.any,.any,.box 0 0,.box 1 0],bD⟩,[])]
def tV (ρ:Type):č ρ:=⟨[],10,0,FF,fun(p:Val aB) (v:Int) b a=>lM p.2.2.1 p.2.2.2.2.2.2.2.2.2.1 v (fun c=>b c) (a 0) (a 1)⟩
def FE:Ç:=Ls 0 [tI,tI,ae,aa,af,ab,aa,tI,tI,ae,aa,af,ab,aa] [tI] ⟨130,[.any,.any,.box 0 0,.box 1 0,.any,.any,.var tI],bD⟩ [(.ret,⟨130,[.any,.any,.box 0 0,.box 1 0,.var .bool],bD⟩,[.bool]),(.exit 2,⟨130,[.any,.any,.box 0 0,.box 1 0],bD⟩,[])]
def tU (ρ:Type):č ρ:=⟨[],10,2,FE,fun(p:Val aB) (v:Int) b a=>lL p.2.2.2.1 p.2.2.2.2.2.2.2.2.2.2.1 v (fun c=>b c) (a 0) (a 1)⟩
def FD:Ç:=Ls 0 [tI,tI,ae,aa,af,ab,aa,tI,tI,ae,aa,af,ab,aa] [tI] ⟨130,[.any,.any,.box 0 0,.box 1 0,.any,.any,.any,.var tI],bD⟩ [(.ret,⟨130,[.any,.any,.box 0 0,.box 1 0,.var .bool],bD⟩,[.bool]),(.exit 4,⟨130,[.any,.any,.box 0 0,.box 1 0],bD⟩,[])]
def tT (ρ:Type):č ρ:=⟨[],10,4,FD,fun(p:Val aB) (v:Int) b a=>lK p.2.2.2.2.1 p.2.2.2.2.2.2.2.2.2.2.2.1 v (fun c=>b c) (a 0) (a 1)⟩
def FC:Ç:=Ls 0 [tI,tI,ae,aa,af,ab,aa,tI,tI,ae,aa,af,ab,aa] [tI] ⟨130,aN 2 (.box 0 0::.box 1 0::aN 4 [.var tI]),bD⟩ [(.ret,⟨130,[.any,.any,.box 0 0,.box 1 0,.var .bool],bD⟩,[.bool]),(.exit 6,⟨130,[.any,.any,.box 0 0,.box 1 0],bD⟩,[])]
def tS (ρ:Type):č ρ:=⟨[],10,6,FC,fun(p:Val aB) (v:Int) b a=>lJ p.2.2.2.2.2.1 p.2.2.2.2.2.2.2.2.2.2.2.2.1 v (fun c=>b c) (a 0) (a 1)⟩
def kB (ρ:Type):Env ρ:=Þ [(32,pn),(33,tJ)] [tV ρ,tU ρ,tT ρ,tS ρ]
def fR:ö:=⟨[Ä,.str],[.bool],fun(x:Val (.pair Ä .str))=>jj x.1 x.2⟩
def lu (ρ:Type):Env ρ:=Þ [(5,GJ),(6,Cv),(7,CF),(8,Ld),(9,GR),(10,KY),(11,yL),(12,yJ)] []
end Go.Proofs.ZzM
end
