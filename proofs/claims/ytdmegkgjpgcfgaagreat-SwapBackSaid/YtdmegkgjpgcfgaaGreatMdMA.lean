/- lemmas -/
import Derived.Test.YtdmegkgjpgcfgaaGreatAmC
import Derived.Test.YtdmegkgjpgcfgaaGreatAmE
import Derived.KernelRfl
import Derived.Test.YtdmegkgjpgcfgaaGreatMdTA
import Derived.Test.YtdmegkgjpgcfgaaGreatProg
set_option linter.all false
set_option linter.unusedSectionVars false
set_option linter.unusedVariables false
set_option linter.unusedSimpArgs false
noncomputable section
set_option maxRecDepth 100000
namespace Go.Proofs.ZzM
open Go Go.Am
def Li:Nat→Bool
  |114=>true
  |115=>true
  |140=>true
  |170=>true
  |182=>true
  |250=>true
  |251=>true
  |252=>true
  |_=>false
def UQ:Nat→Bool
  |184=>true
  |_=>false
def xI:Nat→Bool
  |249=>true
  |_=>false
def isInl:Nat→Bool
  |2=>true
  |89=>true
  |90=>true
  |94=>true
  |95=>true
  |96=>true
  |97=>true
  |99=>true
  |100=>true
  |101=>true
  |107=>true
  |108=>true
  |129=>true
  |130=>true
  |137=>true
  |138=>true
  |144=>true
  |150=>true
  |151=>true
  |152=>true
  |157=>true
  |158=>true
  |159=>true
  |167=>true
  |168=>true
  |169=>true
  |171=>true
  |174=>true
  |175=>true
  |176=>true
  |177=>true
  |178=>true
  |186=>true
  |197=>true
  |198=>true
  |200=>true
  |202=>true
  |207=>true
  |210=>true
  |211=>true
  |213=>true
  |214=>true
  |221=>true
  |222=>true
  |223=>true
  |224=>true
  |225=>true
  |229=>true
  |230=>true
  |232=>true
  |235=>true
  |237=>true
  |238=>true
  |244=>true
  |245=>true
  |246=>true
  |254=>true
  |255=>true
  |256=>true
  |257=>true
  |258=>true
  |260=>true
  |266=>true
  |267=>true
  |275=>true
  |276=>true
  |277=>true
  |278=>true
  |279=>true
  |280=>true
  |282=>true
  |283=>true
  |293=>true
  |294=>true
  |295=>true
  |298=>true
  |299=>true
  |301=>true
  |302=>true
  |304=>true
  |305=>true
  |310=>true
  |311=>true
  |314=>true
  |315=>true
  |317=>true
  |318=>true
  |321=>true
  |322=>true
  |_=>false
def isFz:Nat→Bool
  |74=>true
  |93=>true
  |_=>false
def isEat:Nat→Nat→Bool
  |104,2=>true
  |104,3=>true
  |174,25=>true
  |245,0=>true
  |_,_=>false
def af3:List Nat→Nat→Bool
  |_,_=>false
abbrev ŗ {ρ:Type} (E:Env ρ) (f:Nat) (ts rs:List Ty) (x:Val (tyL ts)) (k:Val (tyL rs)→Option ρ):Option ρ:=topK E f (Xr ts x) (fun h v=>Ã (agG rs h v) k)
abbrev Ls (p:Nat) (c v:List Ty) (h:Tpl) (e:List (Exit×Tpl×List Ty)):Æ:=⟨p,c,v,h,e,false⟩
def æ {ρ:Type} (pt:List (Nat×â)) (tab:List (à ρ)):Env ρ :=
  {P:=Tryz.prog,eat:=isEat,clone:=Li,sort:=UQ,compact:=xI,inl:=isInl,fz:=isFz,stop:=af3,pure:=aar pt,loops:=jL tab}
def YE {ρ:Type} (pt:List (Nat×â)) (tab:List (à ρ)) (xt:List (Nat×Zu)):Env ρ:={æ pt tab with ext:=extT xt}
def mkEnvU {ρ:Type} (pt:List (Nat×â)) (tab:List (à ρ)) (us:List afH):Env ρ :=
  {P:=Tryz.prog,eat:=isEat,clone:=Li,sort:=UQ,compact:=xI,inl:=isInl,fz:=isFz,stop:=af3,pure:=aar pt,loops:=YG (æ pt tab) us}
abbrev bp:j9:=.cells [.con ab]
abbrev bq:j9:=.cells [.con tI,.con tI,.con ae,.con aa,.con af,.con ac,.con aa]
abbrev br:j9:=.cells [.con tI,.con tI,.con tI,.con tI,.con tI,.con tI,.con tI,.con tI]
abbrev bt:j9:=.cells [.con tI,.con tI,.con tI,.con tI]
abbrev bu:j9:=.cells [.con tI]
abbrev bv:j9:=.cells [.con tI,.con tI,.con ab,.con ab,.con tI,.con tI,.con tI,.con tI]
abbrev bw:j9:=.cells [.con tI,.con tI,.con ae,.con aa,.con af,.con ac,.con aa,.con ai]
abbrev bz:j9:=.cells [.con tI,.con ab]
abbrev bB:j9:=.cells [.omp 3]
abbrev bC:j9:=.cells [.con tI,.con tI]
abbrev bD:j9:=.cells [.con tI,.con tI,.con ae,.con aa,.con af,.con ac,.con aa,.con aa,.con tI,.own 3,.own 4]
abbrev bE:j9:=.cells [.con tI,.con tI,.con ae,.con aa,.con af,.con ac,.con aa,.con aa,.con tI,.own 2,.own 3]
abbrev bG:j9:=.cells [.con tI,.con tI,.nils,.nils,.nils,.nils,.nils]
abbrev bH:j9:=.cells [.con tI,.con tI,.own 3,.own 4,.nils,.nils,.nils]
abbrev bI:j9:=.cells [.con tI,.con tI,.own 3,.own 4,.own 5,.nils,.nils]
abbrev bJ:j9:=.cells [.con tI,.con tI,.own 3,.own 4,.own 5,.own 6,.nils]
abbrev bK:j9:=.cells [.con tI,.con tI,.own 2,.own 3,.own 4,.own 5,.own 6]
abbrev bL:j9:=.cells [.con tI,.con ak]
abbrev bM:j9:=.cells [.own 6]
abbrev bN:j9:=.cells [.var tI,.var tI,.var ae,.var aa,.var af,.var ac,.var aa,.var ai]
abbrev bO:j9:=.cells [.con ai]
abbrev bP:j9:=.cells [.own 4]
abbrev bQ:j9:=.cells [.fn 90 [(1,0)]]
abbrev bR:j9:=.cells [.con tI,.con tI,.nils,.nils,.nils,.nils,.nils,.nils]
abbrev bS:j9:=.cells [.fn 167 [(1,0)]]
abbrev bT:j9:=.cells [.fn 97 [(0,0),(1,0)]]
abbrev bU:j9:=.cells [.fn 97 [(3,0),(0,0)]]
abbrev bV:j9:=.cells [.con tI,.con tI,.own 9,.own 10,.own 11,.con ac,.own 12]
abbrev bW:j9:=.cells [.con tI,.con tI,.con tI]
abbrev bX:List j9:=[.rowv tI]
abbrev bY:List j9:=[bq,bv,.rowc tI]
abbrev bZ:List j9:=[bq,bz,bB,.mapc tI tI]
abbrev b7:List j9:=[bq,bE,.rowv Ō,.rowv Ä]
abbrev b8:List j9:=[bG,bq,bI,.rowc Ô,.rowc Ä,.rowv iC]
abbrev b9:List j9:=[bG,bq,bJ,.rowc Ô,.rowc Ä,.rowc iC,.rowv Ö]
abbrev ca:List j9:=[bG,bK,.rowc Ô,.rowc Ä,.rowc iC,.rowc Ö,.rowv Ä]
abbrev cd:List j9:=[bL,.rowc tI,bL,bM,.rowv .bool,.rowc tI,.rowv tI]
abbrev ce:List j9:=[bL,.rowv tI,bL,bM,.rowv .bool,.rowc tI,.rowv tI]
abbrev cf:List j9:=[bL,.rowv tI,bL,bM,.rowv .bool,.rowv tI,.rowv tI]
abbrev cg:List j9:=[.rowv ag,bw]
abbrev ci:List j9:=[.rowc ag,bw]
abbrev cj:List j9:=[.rowv ag,bN]
abbrev cm:List j9:=[bw,bu,bw,bQ,bR,.rowc Ö]
abbrev cn:List j9:=[bw,bp,bR,bw,bS,bR,.rowc Ö]
abbrev cp:List j9:=[bp,bU,.rowc tI,bw]
abbrev cq:List j9:=[bp,bU,.rowv tI,bw]
abbrev cr:List j9:=[bq,bC,bG,bq,bG,.dead,bV,bG,.rowv Ö,.rowc Ô,.rowc Ä,.rowc iC,.rowc Ä]
abbrev cu:List j9:=[.rowc ab,bL,.dead,.dead,.rowv tI]
abbrev cw:List j9:=[bL,.rowc ag,bW,bL,.rowv tI]
abbrev cz:List j9:=[bq,bq]
def iw:â:=⟨[ag],[ab],fun(x:Val ag)=>Ĥ x⟩
def uu:Æ:=Ls 0 [ag,ag,tI] [tI,tI] ⟨36,.con ag::aN 2 (.var tI::aN 5 [.con ag,.con tI,.var tI]),[]⟩ [(.exit 0,⟨36,.con ag::aN 2 (.var tI::aN 5 [.con ag,.con tI]),[]⟩,[tI])]
def kD (ρ:Type):à ρ:=⟨[],93,0,uu,fun(p:Val (.pair ag bc)) (v:Val Ä) a b=>ž p.2.1 p.2.2 v.1 v.2 (fun c d=>a (c,d)) (b 0)⟩
def ut:Æ:=Ls 0 [ag,tI] [tI,ab] ⟨36,aN 6 (.own 0::aN 18 [.con ag,.con tI,.var tI]),bX⟩ [(.exit 2,⟨36,aN 6 (.own 0::aN 18 [.con ag,.con tI]),bX⟩,[ab])]
def kB (ρ:Type):à ρ:=⟨[],93,2,ut,fun(p:Val bc) (v:Val ŋ) a b=>Ĝ p.1 p.2 v.1 v.2 (fun c d=>a (c,d)) (b 0)⟩
def xh:List (Nat×â):=[]
def vP (ρ:Type):List (à ρ):=[kD ρ,kB ρ]
def Ρ (ρ:Type):Env ρ:=æ xh (vP ρ)
def Lf:agi:=⟨272,ab,ab,yy⟩
def Ω:Tpl:=⟨37,.any::.box 1 0::.box 2 0::.any::.box 3 0::aN 6 [.con ab,.con tI,.con tI],[.acc ab,.cells [.con ab],.cells [.yld],.cells [.con tI]]⟩
def iX (al:Val ag) (rec:Val ab→Option ((Val ag))) (ρ:Type):EH ρ:=⟨[],272,2,4,[ab,tI,tI,ab,tI],[ag],Ω,⟨272,ab,ab,rec⟩,fun(p:Val aT) (v:Val ag) y a=>o8 al rec p.2.2.2.2 v y (fun b=>a b)⟩
def ť:Æ:=Ls 2 [ab,tI,ab] [tI,ag] ⟨37,.any::.box 1 0::.box 2 0::aN 8 [.con ab,.con tI,.var tI],[.acc ab,bp,.cells [.yld]]⟩ [(.exit 0,⟨37,.any::.box 1 0::.box 2 0::aN 8 [.con ab,.con tI],[.acc ab,bp,.cells [.yld]]⟩,[ag])]
def lN (al:Val ag) (rec:Val ab→Option ((Val ag))) (ρ:Type):à ρ:=⟨[],272,0,ť,fun(p:Val aX) (v:Val bf) a b=>o9 al rec p.1 p.2.1 p.2.2 v.1 v.2 (fun c d=>a (c,d)) (b 0)⟩
def wP (al:Val ag) (rec:Val ab→Option ((Val ag))) (ρ:Type):List (EH ρ):=[iX al rec ρ]
def JA:List (Nat×â):=[(93,iw)]
def vD (al:Val ag) (rec:Val ab→Option ((Val ag))) (ρ:Type):List (à ρ):=[lN al rec ρ]
def ü (al:Val ag) (rec:Val ab→Option ((Val ag))) (ρ:Type):Env ρ:={æ JA (vD al rec ρ) with ranges:=Ż (wP al rec ρ),yld:=some ⟨ab,al⟩}
def pD:agi:=⟨231,ai,ag,l5⟩
def Ū:Tpl:=⟨27,.any::.box 1 0::.box 2 0::.box 3 0::aN 11 [.con ab],[.acc ag,.cells [.con ai],.cells [.yld],.cells [.con ab]]⟩
def gT (al:Val aj) (rec:Val ai→Option ((Val aj))) (ρ:Type):EH ρ:=⟨[],231,2,4,[ab,ai,ab],[aj],Ū,⟨231,ai,ag,rec⟩,fun(p:Val bh) (v:Val aj) y a=>lQ al rec p.2.2 v y (fun b=>a b)⟩
def ū:Tpl:=⟨27,[.any,.box 1 0,.box 2 0],[.acc ag,.cells [.con ai],.cells [.yld]]⟩
def gW (al:Val aj) (rec:Val ai→Option ((Val aj))) (ρ:Type):EH ρ:=⟨[],231,0,3,[ai],[aj],ū,Lf,fun(p:Val ai) (v:Val aj) y a=>lR al rec p v y (fun b=>a b)⟩
def sn (al:Val aj) (rec:Val ai→Option ((Val aj))) (ρ:Type):List (EH ρ):=[gT al rec ρ,gW al rec ρ]
def Fl:List (Nat×â):=[]
def qD (al:Val aj) (rec:Val ai→Option ((Val aj))) (ρ:Type):List (à ρ):=[]
def ç (al:Val aj) (rec:Val ai→Option ((Val aj))) (ρ:Type):Env ρ:={æ Fl (qD al rec ρ) with ranges:=Ż (sn al rec ρ),yld:=some ⟨ag,al⟩}
def DW:agi:=⟨268,ab,tI,yx⟩
def ē:Æ:=Ls 2 [ab,tI,ab] [tI,ab] ⟨16,.yld::aN 4 [.con ab,.con tI,.var tI],[.acc tI,bp]⟩ [(.exit 0,⟨16,.yld::aN 4 [.con ab,.con tI],[.acc tI,bp]⟩,[ab])]
def Η (al:Val ab) (rec:Val ab→Option ((Val ab))) (ρ:Type):à ρ:=⟨[],268,0,ē,fun(p:Val aX) (v:Val ŋ) a b=>gX al rec p.1 p.2.1 v.1 v.2 (fun c d=>a (c,d)) (b 0)⟩
def un:List (Nat×â):=[]
def sS (al:Val ab) (rec:Val ab→Option ((Val ab))) (ρ:Type):List (à ρ):=[Η al rec ρ]
def ą (al:Val ab) (rec:Val ab→Option ((Val ab))) (ρ:Type):Env ρ:={æ un (sS al rec ρ) with yld:=some ⟨tI,al⟩}
def lJ:â:=⟨[ab,tI],[tI],fun(x:Val ay)=>ς x.1 x.2⟩
def vO:Æ:=Ls 0 [ab,tI,tI] [tI] ⟨19,.con ab::.con tI::aN 5 [.con tI,.var tI],[]⟩ [(.ret,⟨19,[.con ab,.con tI,.any,.any,.var tI,.any,.any,.con tI],[]⟩,[tI]),(.exit 0,⟨19,.con ab::.con tI::aN 5 [.con tI],[]⟩,[])]
def lz (ρ:Type):à ρ:=⟨[],173,0,vO,fun(p:Val (.pair ab Ä)) (v:Val tI) b a=>Ο p.1 p.2.1 p.2.2 v (fun c=>b c) (a 0) (a 1)⟩
def zi:List (Nat×â):=[]
def xf (ρ:Type):List (à ρ):=[lz ρ]
def jQ (ρ:Type):Env ρ:=æ zi (xf ρ)
def Ř:â:=⟨[ab,tI],[.bool],fun(x:Val ay)=>á x.1 x.2⟩
def ur:List (Nat×â):=[(173,lJ)]
def sX (ρ:Type):List (à ρ):=[]
def lB (ρ:Type):Env ρ:=æ ur (sX ρ)
def PN:â:=⟨[É,Ô],[ab],fun(x:Val (.pair É Ô))=>ox x.1 x.2⟩
def Rc:Æ:=Ls 0 [ac,tI,tI,tI,ae,aa,af,ac,aa,tI,tI,tI,tI,tI,tI,tI,tI] [tI,ab] ⟨59,aN 2 (.box 0 0::.box 1 0::.any::.own 2::aN 8 [.con ac,.con tI,.var tI]),[bq,br,.rowv tI]⟩ [(.exit 0,⟨59,aN 2 (.box 0 0::.box 1 0::.any::.own 2::aN 8 [.con ac,.con tI]),[bq,br,.rowv tI]⟩,[ab])]
def DJ (ρ:Type):à ρ:=⟨[],201,0,Rc,fun(p:Val (.pair ac aJ)) (v:Val ŋ) a b=>uR p.1 p.2.1 p.2.2.2.2.2.2.2.2.2.1 v.1 v.2 (fun c d=>a (c,d)) (b 0)⟩
def DI:Æ:=Ls 0 [aa,tI,tI,tI,tI,tI,tI,tI,tI,tI] [tI,ab] ⟨59,aN 3 (.box 0 0::.any::.own 1::aN 32 [.con aa,.con tI,.var tI]),[br,.rowv tI]⟩ [(.exit 2,⟨59,aN 3 (.box 0 0::.any::.own 1::aN 32 [.con aa,.con tI]),[br,.rowv tI]⟩,[ab])]
def DH (ρ:Type):à ρ:=⟨[],201,2,DI,fun(p:Val (tyL DI.cs)) (v:Val ŋ) a b=>uQ p.1 p.2.1 p.2.2.1 v.1 v.2 (fun c d=>a (c,d)) (b 0)⟩
def W8:List (Nat×â):=[(92,Ř)]
def Uy (ρ:Type):List (à ρ):=[DJ ρ,DH ρ]
def yu (ρ:Type):Env ρ:=æ W8 (Uy ρ)
def Co:â:=⟨[É],[aa],fun(x:Val É)=>pK x⟩
def Ax:Æ:=Ls 0 [ae,tI,tI,ab,tI,tI,tI,ae,aa,af,ac,aa,tI,tI,tI,tI,tI,tI,tI,tI] [tI,aa] ⟨33,.any::.box 0 0::.any::.own 1::.any::.box 2 0::aN 3 (.con ae::.con tI::.con tI::aN 5 [.con ab,.con tI,.var tI]),[bq,.rowv Ä,br]⟩ [(.exit 2,⟨33,.any::.box 0 0::.any::.own 1::.any::.box 2 0::aN 3 (.con ae::.con tI::.con tI::aN 5 [.con ab,.con tI]),[bq,.rowv Ä,br]⟩,[aa])]
def Aw (ρ:Type):à ρ:=⟨[],136,2,Ax,fun(p:Val (tyL Ax.cs)) (v:Val ba) a b=>qZ p.2.2.2.1 p.2.2.2.2.1 p.2.2.2.2.2.2.2.2.2.2.2.2.1 v.1 v.2 (fun c d=>a (c,d)) (b 0)⟩
def Az:Æ:=Ls 0 [ae,tI,tI,tI,ae,aa,af,ac,aa] [tI,aa] ⟨33,.any::.box 0 0::.any::.own 1::aN 5 [.con ae,.con tI,.var tI],[bq,.rowv Ä]⟩ [(.exit 0,⟨33,.any::.box 0 0::.any::.own 1::aN 5 [.con ae,.con tI],[bq,.rowv Ä]⟩,[aa])]
def Ay (ρ:Type):à ρ:=⟨[],136,0,Az,fun(p:Val (tyL Az.cs)) (v:Val ba) a b=>let A:=p.2.2.2.2;rc p.1 p.2.1 p.2.2.1 p.2.2.2.1 A.1 A.2.1 A.2.2.1 A.2.2.2.1 A.2.2.2.2 v.1 v.2 (fun c d=>a (c,d)) (b 0)⟩
def Up:List (Nat×â):=[(201,PN)]
def QY (ρ:Type):List (à ρ):=[Aw ρ,Ay ρ]
def uJ (ρ:Type):Env ρ:=æ Up (QY ρ)
def sh:â:=⟨[Ä,tI,tI],[.bool],fun(x:Val Ĕ)=>ź x.1 x.2.1 x.2.2⟩
def Q8:List (Nat×â):=[]
def NF (ρ:Type):List (à ρ):=[]
def G0 (ρ:Type):Env ρ:=æ Q8 (NF ρ)
def jU:â:=⟨[tI,tI,tI],[.bool],fun(x:Val Ō)=>ė x.1 x.2.1 x.2.2⟩
def QW:List (Nat×â):=[]
def Nr (ρ:Type):List (à ρ):=[]
def GZ (ρ:Type):Env ρ:=æ QW (Nr ρ)
def wB:â:=⟨[tI],[.bool],fun(x:Val tI)=>kO x⟩
def Uw:List (Nat×â):=[(212,jU)]
def Q6 (ρ:Type):List (à ρ):=[]
def KW (ρ:Type):Env ρ:=æ Uw (Q6 ρ)
def PM:â:=⟨[tI],[(.int .u64)],fun(x:Val tI)=>rC x⟩
def WM:List (Nat×â):=[]
def Ub (ρ:Type):List (à ρ):=[]
def OQ (ρ:Type):Env ρ:=æ WM (Ub ρ)
def Wd:â:=⟨[(.int .u64),(.int .u64)],[(.int .u64)],fun(x:Val bj)=>LJ x.1 x.2⟩
def Ud:Æ:=Ls 0 [] [(.int .u64),(.int .u64)] ⟨12,[.var (.int .u64),.var (.int .u64)],[]⟩ [(.exit 0,⟨12,[.var (.int .u64)],[]⟩,[(.int .u64)])]
def GV (ρ:Type):à ρ:=⟨[],292,0,Ud,fun(p:Unit) (v:Val bj) a b=>yp v.1 v.2 (fun c d=>a (c,d)) (b 0)⟩
def aad:List (Nat×â):=[]
def WN (ρ:Type):List (à ρ):=[GV ρ]
def KB (ρ:Type):Env ρ:=æ aad (WN ρ)
def Cl:â:=⟨[Ä],[.bool],fun(x:Val Ä)=>tG x⟩
def Ug:List (Nat×â):=[(291,PM),(292,Wd)]
def QQ (ρ:Type):List (à ρ):=[]
def KE (ρ:Type):Env ρ:=æ Ug (QQ ρ)
def Je:â:=⟨[Ô],[.bool],fun(x:Val Ô)=>vl x⟩
def NE:List (Nat×â):=[(141,sh),(205,wB),(212,jU),(253,Cl)]
def KU (ρ:Type):List (à ρ):=[]
def DG (ρ:Type):Env ρ:=æ NE (KU ρ)
def wC:â:=⟨[É],[tI],fun(x:Val É)=>Ű x⟩
def nR:Æ:=Ls 0 [ae,tI,tI,tI,ae,aa,af,ac,aa] [tI] ⟨31,.any::.box 0 0::aN 4 [.con ae,.con tI,.var tI],[bq]⟩ [(.ret,⟨31,[.any,.box 0 0,.var tI,.any,.any,.any,.con ae,.con tI],[bq]⟩,[tI]),(.exit 0,⟨31,.any::.box 0 0::aN 4 [.con ae,.con tI],[bq]⟩,[])]
def nQ (ρ:Type):à ρ:=⟨[],142,0,nR,fun(p:Val (tyL nR.cs)) (v:Val tI) b a=>iy p.1 p.2.1 p.2.2.2.2.1 v (fun c=>b c) (a 0) (a 1)⟩
def DK:List (Nat×â):=[(203,Je)]
def BG (ρ:Type):List (à ρ):=[nQ ρ]
def lY (ρ:Type):Env ρ:=æ DK (BG ρ)
def tV:â:=⟨[É],[am],fun(x:Val É)=>ĸ x⟩
def HY:Æ:=Ls 0 [ae,tI] [tI,am] ⟨20,aN 3 (.omp 0::aN 4 [.con ae,.con tI,.var tI]),[.mapv tI Ô]⟩ [(.exit 0,⟨20,aN 3 (.omp 0::aN 4 [.con ae,.con tI]),[.mapv tI Ô]⟩,[am])]
def vI (ρ:Type):à ρ:=⟨[],143,0,HY,fun(p:Val (.pair ae tI)) (v:Val (.pair tI am)) a b=>mq p.1 p.2 v.1 v.2 (fun c d=>a (c,d)) (b 0)⟩
def Nt:List (Nat×â):=[]
def KL (ρ:Type):List (à ρ):=[vI ρ]
def uG (ρ:Type):Env ρ:=æ Nt (KL ρ)
def mj:â:=⟨[am,tI,tI],[tI],fun(x:Val (.pair am Ä))=>ik x.1 x.2.1 x.2.2⟩
def FL:List (Nat×â):=[]
def Dq (ρ:Type):List (à ρ):=[]
def vJ (ρ:Type):Env ρ:=æ FL (Dq ρ)
def Wf:â:=⟨[tI,tI,(.ptr am)],[tI],fun(x:Val (.pair tI (.pair tI (.ptr am))))=>Ĺ x.1 x.2.1 x.2.2⟩
def Nu:List (Nat×â):=[(205,wB),(206,mj)]
def KN (ρ:Type):List (à ρ):=[]
def Ds (ρ:Type):Env ρ:=æ Nu (KN ρ)
def PO:â:=⟨[É,am,tI],[tI],fun(x:Val bn)=>Δ x.1 x.2.1 x.2.2⟩
def rj:Æ:=Ls 2 [af,tI,tI,tI,ae,aa,af,ac,aa,tI,tI,tI,tI] [tI] ⟨19,.con af::.fn 254 [(1,0)]::aN 5 [.con tI,.var tI],[bq,bt]⟩ [(.ret,⟨19,[.con af,.fn 254 [(1,0)],.any,.any,.var tI,.any,.any,.con tI],[bq,bt]⟩,[tI]),(.exit 0,⟨19,.con af::.fn 254 [(1,0)]::aN 5 [.con tI],[bq,bt]⟩,[])]
def ri (ρ:Type):à ρ:=⟨[9,5,1,2],293,0,rj,fun(p:Val (tyL rj.cs)) (v:Val tI) b a=>let A:=p.2.2.2.2.2.2.2.2.2;jK p.1 p.2.1 A.1 A.2.1 A.2.2.1 v (fun c=>b c) (a 0) (a 1)⟩
def rh:Æ:=Ls 2 [aa,tI,tI,tI,ae,aa,af,ac,aa,tI,tI,tI,tI] [tI] ⟨19,.con aa::.fn 255 [(1,0)]::aN 5 [.con tI,.var tI],[bq,bt]⟩ [(.ret,⟨19,[.con aa,.fn 255 [(1,0)],.any,.any,.var tI,.any,.any,.con tI],[bq,bt]⟩,[tI]),(.exit 0,⟨19,.con aa::.fn 255 [(1,0)]::aN 5 [.con tI],[bq,bt]⟩,[])]
def rg (ρ:Type):à ρ:=⟨[9,10,1,2],294,0,rh,fun(p:Val (tyL rh.cs)) (v:Val tI) b a=>let A:=p.2.2.2.2.2.2.2.2.2;Ź p.1 p.2.1 A.1 A.2.1 A.2.2.1 v (fun c=>b c) (a 0) (a 1)⟩
def H8:List (Nat×â):=[(141,sh),(206,mj),(212,jU)]
def FT (ρ:Type):List (à ρ):=[ri ρ,rg ρ]
def kG (ρ:Type):Env ρ:=æ H8 (FT ρ)
def Cp:â:=⟨[ab,ab],[ab],fun(x:Val (.pair ab ab))=>Γ x.1 x.2⟩
def DF:Æ:=Ls 2 [tI,ab,ab] [tI] ⟨19,.own 1::.fn 214 [(0,0)]::aN 5 [.con tI,.var tI],[bp,.rowc tI]⟩ [(.ret,⟨19,[.own 1,.fn 214 [(0,0)],.any,.any,.var tI,.any,.any,.con tI],[bp,.rowc tI]⟩,[tI]),(.exit 0,⟨19,.own 1::.fn 214 [(0,0)]::aN 5 [.con tI],[bp,.rowc tI]⟩,[])]
def DE (ρ:Type):à ρ:=⟨[1,3,1,2],260,0,DF,fun(p:Val (tyL DF.cs)) (v:Val tI) b a=>uP p.1 p.2.1 p.2.2 v (fun c=>b c) (a 0) (a 1)⟩
def Q3:Æ:=Ls 2 [ab] [tI,tI,ab] ⟨42,[.own 1,.fn 214 [(0,0)],.any,.any,.any,.var tI,.var tI],[bp,.rowv tI]⟩ [(.exit 0,⟨42,[.own 1,.fn 214 [(0,0)],.any,.any,.any,.var tI],[bp,.rowv tI]⟩,[tI,ab])]
def DD (ρ:Type):à ρ:=⟨[1,3],213,0,Q3,fun(p:Val ab) (v:Val aQ) a b=>jS p v.1 v.2.1 v.2.2 (fun c d e=>a (c,d,e)) (b 0)⟩
def W7:List (Nat×â):=[(92,Ř)]
def Uu (ρ:Type):List (à ρ):=[DE ρ,DD ρ]
def yr (ρ:Type):Env ρ:=æ W7 (Uu ρ)
def EY:â:=⟨[ab],[.bool],fun(x:Val ab)=>md x⟩
def KT:Æ:=Ls 0 [ab,ab,tI] [tI] ⟨32,.con ab::aN 4 [.con ab,.con tI,.var tI],[]⟩ [(.ret,⟨32,[.con ab,.any,.var .bool,.any,.any,.con ab,.con tI],[]⟩,[.bool]),(.exit 0,⟨32,.con ab::aN 4 [.con ab,.con tI],[]⟩,[])]
def xC (ρ:Type):à ρ:=⟨[],172,0,KT,fun(p:Val (.pair ab ay)) (v:Val tI) b a=>om p.1 p.2.1 p.2.2 v (fun c=>b c) (a 0) (a 1)⟩
def Q5:List (Nat×â):=[(212,jU)]
def NC (ρ:Type):List (à ρ):=[xC ρ]
def xD (ρ:Type):Env ρ:=æ Q5 (NC ρ)
def PP:â:=⟨[É,tI,tI],[iC,.bool],fun(x:Val aK)=>vm x.1 x.2.1 x.2.2⟩
def DM:Æ:=Ls 4 [af,tI,tI,tI,ae,aa,af,ac,aa,tI,tI,tI,tI,tI,tI] [tI] ⟨19,.con af::.fn 295 [(1,0),(2,0)]::aN 5 [.con tI,.var tI],[bq,bu,bu,bt]⟩ [(.ret,⟨19,[.con af,.fn 295 [(1,0),(2,0)],.any,.any,.var tI,.any,.any,.con tI],[bq,bu,bu,bt]⟩,[tI]),(.exit 0,⟨19,.con af::.fn 295 [(1,0),(2,0)]::aN 5 [.con tI],[bq,bu,bu,bt]⟩,[])]
def DL (ρ:Type):à ρ:=⟨[1,3],293,0,DM,fun(p:Val (tyL DM.cs)) (v:Val tI) b a=>uT p.1 p.2.1 p.2.2.2.2.2.2.2.2.2.1 p.2.2.2.2.2.2.2.2.2.2.1 v (fun c=>b c) (a 0) (a 1)⟩
def W9:List (Nat×â):=[(212,jU)]
def UA (ρ:Type):List (à ρ):=[DL ρ]
def FV (ρ:Type):Env ρ:=æ W9 (UA ρ)
def Hn:â:=⟨[É,am,tI],[tI],fun(x:Val bn)=>ł x.1 x.2.1 x.2.2⟩
def nc:Æ:=Ls 2 [ac,tI,tI,tI,ae,aa,af,ac,aa,tI,tI,ab,ab,tI,tI,tI,tI] [tI] ⟨19,.con ac::.fn 258 [(1,0)]::aN 5 [.con tI,.var tI],[bq,bv]⟩ [(.ret,⟨19,[.con ac,.fn 258 [(1,0)],.any,.any,.var tI,.any,.any,.con tI],[bq,bv]⟩,[tI]),(.exit 0,⟨19,.con ac::.fn 258 [(1,0)]::aN 5 [.con tI],[bq,bv]⟩,[])]
def m9 (ρ:Type):à ρ:=⟨[4,5,1,2],175,0,nc,fun(p:Val (tyL nc.cs)) (v:Val tI) b a=>gZ p.1 p.2.1 p.2.2.2.2.2.2.2.2.2.1 v (fun c=>b c) (a 0) (a 1)⟩
def mY:Æ:=Ls 0 [am,ab,tI,tI,tI,ab,tI,tI,tI,ae,aa,af,ac,aa,tI,tI,ab,ab,tI,tI,tI,tI,ab] [tI] ⟨140,.any::.con am::.any::.box 0 0::aN 3 (.box 1 0::.con ab::.any::.con tI::aN 65 [.own 2,.con tI,.con tI,.any,.any,.any,.con ab,.con tI,.var tI]),bY⟩ [(.ret,⟨140,.any::.con am::.any::.box 0 0::aN 2 (.var tI::.box 1 0::.con ab::.any::.con tI::aN 65 [.own 2,.con tI,.con tI,.any,.any,.any,.con ab,.con tI]),bY⟩,[tI]),(.exit 2,⟨140,.any::.con am::.any::.box 0 0::aN 3 (.box 1 0::.con ab::.any::.con tI::aN 65 [.own 2,.con tI,.con tI,.any,.any,.any,.con ab,.con tI]),bY⟩,[])]
def mX (ρ:Type):à ρ:=⟨[],209,2,mY,fun(p:Val (tyL mY.cs)) (v:Val tI) b a=>let A:=p.2.2.2.2.2;gY p.1 p.2.2.1 A.1 A.2.1 A.2.2.2.2.2.2.2.2.2.2.1 v (fun c=>b c) (a 0) (a 1)⟩
def m8:Æ:=Ls 0 [am,ab,tI,tI,tI,ae,aa,af,ac,aa,tI,tI,ab,ab,tI,tI,tI,tI,ab] [tI] ⟨140,.any::.con am::.any::.box 0 0::aN 3 (.box 1 0::.con ab::aN 67 [.own 2,.con tI,.var tI]),bY⟩ [(.ret,⟨140,.any::.con am::.any::.box 0 0::aN 2 (.var tI::.box 1 0::.con ab::aN 67 [.own 2,.con tI]),bY⟩,[tI]),(.exit 0,⟨140,.any::.con am::.any::.box 0 0::aN 3 (.box 1 0::.con ab::aN 67 [.own 2,.con tI]),bY⟩,[])]
def mZ (ρ:Type):à ρ:=⟨[],209,0,m8,fun(p:Val (tyL m8.cs)) (v:Val tI) b a=>ń p.1 p.2.1 p.2.2.1 p.2.2.2.2.2.2.2.2.2.2.2.1 p.2.2.2.2.2.2.2.2.2.2.2.2.2.2.2.2.2.2 v (fun c=>b c) (a 0) (a 1)⟩
def mW:Æ:=Ls 0 [ab,tI,tI,tI,ae,aa,af,ac,aa,tI,tI,ab,ab,tI,tI,tI,tI] [tI] ⟨140,aN 3 (.box 0 0::aN 3 (.box 1 0::aN 90 [.con ab,.con tI,.var tI])),[bq,bv]⟩ [(.ret,⟨140,aN 3 (.box 0 0::aN 2 (.var tI::.box 1 0::aN 90 [.con ab,.con tI])),[bq,bv]⟩,[tI]),(.exit 4,⟨140,aN 3 (.box 0 0::aN 3 (.box 1 0::aN 90 [.con ab,.con tI])),[bq,bv]⟩,[])]
def mV (ρ:Type):à ρ:=⟨[],209,4,mW,fun(p:Val (tyL mW.cs)) (v:Val tI) b a=>let A:=p.2.2.2.2;Ń p.1 p.2.1 p.2.2.1 p.2.2.2.1 A.1 A.2.1 A.2.2.1 A.2.2.2.1 A.2.2.2.2.1 A.2.2.2.2.2.2.1 v (fun c=>b c) (a 0) (a 1)⟩
def BI:List (Nat×â):=[(93,iw),(141,sh),(148,Cp),(172,EY),(205,wB),(206,mj),(212,jU),(259,PP)]
def zp (ρ:Type):List (à ρ):=[m9 ρ,mX ρ,mZ ρ,mV ρ]
def œ (ρ:Type):Env ρ:=æ BI (zp ρ)
def sj:â:=⟨[É],[tI],fun(x:Val É)=>Ε x⟩
def S9:â:=⟨[ab],[(.pair tI (.pair tI Ō))],fun(x:Val ab)=>Ea x⟩
def Oj:â:=⟨[Â],[.bool],fun(x:Val Â)=>yB x⟩
def wK:Æ:=Ls 0 [tI,tI,ae,aa,af,ac,aa,ai,tI,tI,ae,aa,af,ac,aa] [tI] ⟨90,[.any,.box 0 0,.any,.box 1 0,.var tI],[bw,bq]⟩ [(.ret,⟨90,[.any,.box 0 0,.var .bool,.box 1 0],[bw,bq]⟩,[.bool]),(.exit 0,⟨90,[.any,.box 0 0,.any,.box 1 0],[bw,bq]⟩,[])]
def wJ (ρ:Type):à ρ:=⟨[],15,0,wK,fun(p:Val (tyL wK.cs)) (v:Val tI) b a=>ob p.2.2.2.2.2.2.2.2.2.2.2.2.2.1 v (fun c=>b c) (a 0) (a 1)⟩
def wI:Æ:=Ls 0 [tI,tI,ae,aa,af,ac,aa,ai,tI,tI,ae,aa,af,ac,aa] [tI] ⟨90,[.any,.box 0 0,.any,.box 1 0,.any,.var tI],[bw,bq]⟩ [(.ret,⟨90,[.any,.box 0 0,.var .bool,.box 1 0],[bw,bq]⟩,[.bool]),(.exit 2,⟨90,[.any,.box 0 0,.any,.box 1 0],[bw,bq]⟩,[])]
def wH (ρ:Type):à ρ:=⟨[],15,2,wI,fun(p:Val (tyL wI.cs)) (v:Val tI) b a=>kp p.2.2.2.2.2.2.2.1 v (fun c=>b c) (a 0) (a 1)⟩
def PZ:List (Nat×â):=[]
def Mw (ρ:Type):List (à ρ):=[wJ ρ,wH ρ]
def qo (ρ:Type):Env ρ:=æ PZ (Mw ρ)
def Tp:â:=⟨[É,tI,ab],[tI],fun(x:Val (.pair É ŋ))=>El x.1 x.2.1 x.2.2⟩
def AC:Æ:=Ls 1 [ab,tI,tI,tI,ae,aa,af,ac,aa] [tI] ⟨19,.con ab::.fn 299 []::aN 5 [.con tI,.var tI],[bq]⟩ [(.ret,⟨19,[.con ab,.fn 299 [],.any,.any,.var tI,.any,.any,.con tI],[bq]⟩,[tI]),(.exit 0,⟨19,.con ab::.fn 299 []::aN 5 [.con tI],[bq]⟩,[])]
def AB (ρ:Type):à ρ:=⟨[4,1,1,2],260,0,AC,fun(p:Val (tyL AC.cs)) (v:Val tI) b a=>rk p.1 p.2.1 v (fun c=>b c) (a 0) (a 1)⟩
def UC:List (Nat×â):=[(72,sj),(143,tV),(205,wB)]
def Rg (ρ:Type):List (à ρ):=[AB ρ]
def BJ (ρ:Type):Env ρ:=æ UC (Rg ρ)
def Yz:â:=⟨[É,tI,tI],[.bool,tI],fun(x:Val aK)=>yJ x.1 x.2.1 x.2.2⟩
def Xb:List (Nat×â):=[(259,PP),(269,Tp)]
def UG (ρ:Type):List (à ρ):=[]
def OU (ρ:Type):Env ρ:=æ Xb (UG ρ)
def Tb:â:=⟨[É,ai,tI],[tI],fun(x:Val (.pair É (.pair ai tI)))=>Ec x.1 x.2.1 x.2.2⟩
def zT:Æ:=Ls 0 [ai,tI,tI,tI,ae,aa,af,ac,aa,tI,ab] [tI] ⟨104,[.any,.con ai,.con tI,.box 0 0,.any,.any,.any,.box 1 0,.var tI],[bq,bz]⟩ [(.ret,⟨104,[.any,.con ai,.con tI,.box 0 0,.any,.any,.var tI,.box 1 0],[bq,bz]⟩,[tI]),(.exit 0,⟨104,[.any,.con ai,.con tI,.box 0 0,.any,.any,.any,.box 1 0],[bq,bz]⟩,[])]
def zS (ρ:Type):à ρ:=⟨[],156,0,zT,fun(p:Val (tyL zT.cs)) (v:Val tI) b a=>mG p.2.2.2.2.2.2.2.2.2.2 v (fun c=>b c) (a 0) (a 1)⟩
def zR:Æ:=Ls 0 [ai,tI,ae,tI,tI,tI,ae,aa,af,ac,aa,tI,ab] [tI,aI] ⟨104,.any::.con ai::.con tI::.box 0 0::aN 3 (.box 1 0::.any::.box 2 0::aN 50 [.con ae,.con tI,.var tI]),[bq,bz,bB,.mapv tI tI]⟩ [(.exit 2,⟨104,.any::.con ai::.con tI::.box 0 0::aN 3 (.box 1 0::.any::.box 2 0::aN 50 [.con ae,.con tI]),[bq,bz,bB,.mapv tI tI]⟩,[aI])]
def zQ (ρ:Type):à ρ:=⟨[],156,2,zR,fun(p:Val (tyL zR.cs)) (v:Val (.pair tI aI)) a b=>mF p.2.2.1 p.2.2.2.1 v.1 v.2 (fun c d=>a (c,d)) (b 0)⟩
def MP:Æ:=Ls 4 [ab,tI,tI,tI,ae,aa,af,ac,aa,tI,ab,aI] [tI] ⟨19,.con ab::.fn 223 [(2,0)]::aN 5 [.con tI,.var tI],bZ⟩ [(.ret,⟨19,[.con ab,.fn 223 [(2,0)],.any,.any,.var tI,.any,.any,.con tI],bZ⟩,[tI]),(.exit 0,⟨19,.con ab::.fn 223 [(2,0)]::aN 5 [.con tI],bZ⟩,[])]
def zP (ρ:Type):à ρ:=⟨[18,3,1,2],260,0,MP,fun(p:Val aE) (v:Val tI) b a=>mE p.1 p.2.1 p.2.2.2.2.2.2.2.2.2.2.2 v (fun c=>b c) (a 0) (a 1)⟩
def MO:Æ:=Ls 4 [ab,tI,tI,tI,ae,aa,af,ac,aa,tI,ab,aI] [tI] ⟨19,.con ab::.fn 224 [(1,0),(2,0)]::aN 5 [.con tI,.var tI],bZ⟩ [(.ret,⟨19,[.con ab,.fn 224 [(1,0),(2,0)],.any,.any,.var tI,.any,.any,.con tI],bZ⟩,[tI]),(.exit 0,⟨19,.con ab::.fn 224 [(1,0),(2,0)]::aN 5 [.con tI],bZ⟩,[])]
def zO (ρ:Type):à ρ:=⟨[20,3,1,2],260,0,MO,fun(p:Val aE) (v:Val tI) b a=>jY p.1 p.2.1 p.2.2.2.2.2.2.2.2.2.1 p.2.2.2.2.2.2.2.2.2.2.2 v (fun c=>b c) (a 0) (a 1)⟩
def MN:Æ:=Ls 4 [ab,tI,tI,tI,ae,aa,af,ac,aa,tI,ab,aI] [tI] ⟨19,.con ab::.fn 225 [(0,0),(1,0)]::aN 5 [.con tI,.var tI],bZ⟩ [(.ret,⟨19,[.con ab,.fn 225 [(0,0),(1,0)],.any,.any,.var tI,.any,.any,.con tI],bZ⟩,[tI]),(.exit 0,⟨19,.con ab::.fn 225 [(0,0),(1,0)]::aN 5 [.con tI],bZ⟩,[])]
def zN (ρ:Type):à ρ:=⟨[24,3,1,2],260,0,MN,fun(p:Val aE) (v:Val tI) b a=>let A:=p.2.2.2.2;ľ p.1 p.2.1 p.2.2.1 p.2.2.2.1 A.1 A.2.1 A.2.2.1 A.2.2.2.1 A.2.2.2.2.1 A.2.2.2.2.2.1 v (fun c=>b c) (a 0) (a 1)⟩
def TN:List (Nat×â):=[(226,Yz)]
def P9 (ρ:Type):List (à ρ):=[zS ρ,zQ ρ,zP ρ,zO ρ,zN ρ]
def jP (ρ:Type):Env ρ:=æ TN (P9 ρ)
def iD:â:=⟨[Â],[tI],fun(x:Val Â)=>π x⟩
def M8:Æ:=Ls 0 [ai,tI,tI,tI,tI,tI,ae,aa,af,ac,aa,ai] [tI,tI] ⟨50,.any::.box 0 0::aN 2 (.var tI::aN 15 (.con ai::.con tI::.con tI::aN 15 [.con tI,.var tI])),[bw]⟩ [(.exit 2,⟨50,.any::.box 0 0::aN 2 (.var tI::aN 15 (.con ai::.con tI::.con tI::aN 15 [.con tI])),[bw]⟩,[tI])]
def zY (ρ:Type):à ρ:=⟨[],80,2,M8,fun(p:Val (.pair ai bi)) (v:Val Ä) a b=>mH p.2.2.2.1 v.1 v.2 (fun c d=>a (c,d)) (b 0)⟩
def M9:Æ:=Ls 0 [ai,tI,tI,tI,ae,aa,af,ac,aa,ai] [tI,tI] ⟨50,.any::.box 0 0::aN 2 (.var tI::aN 15 [.con ai,.con tI,.var tI]),[bw]⟩ [(.ret,⟨50,.any::.box 0 0::.var tI::aN 17 [.con ai,.con tI],[bw]⟩,[tI]),(.exit 0,⟨50,.any::.box 0 0::aN 2 (.var tI::aN 15 [.con ai,.con tI]),[bw]⟩,[tI])]
def zZ (ρ:Type):à ρ:=⟨[],80,0,M9,fun(p:Val (.pair ai aD)) (v:Val Ä) b a=>let A:=p.2.2.2.2;qL p.1 p.2.1 p.2.2.1 p.2.2.2.1 A.1 A.2.1 A.2.2.1 A.2.2.2.1 A.2.2.2.2.1 A.2.2.2.2.2 v.1 v.2 (fun c d=>b (c,d)) (a 0) (a 1)⟩
def TZ:List (Nat×â):=[(72,sj),(156,Tb)]
def Qt (ρ:Type):List (à ρ):=[zY ρ,zZ ρ]
def uk (ρ:Type):Env ρ:=æ TZ (Qt ρ)
def Ũ:â:=⟨[aa,Ä],[tI],fun(x:Val (.pair aa Ä))=>ï x.1 x.2⟩
def lg:Æ:=Ls 0 [aa,tI,tI,tI] [tI] ⟨19,[.con aa,.any,.any,.box 0 0,.any,.any,.any,.con tI,.var tI],[bC]⟩ [(.ret,⟨19,[.con aa,.any,.any,.box 0 0,.var tI,.any,.any,.con tI],[bC]⟩,[tI]),(.exit 0,⟨19,[.con aa,.any,.any,.box 0 0,.any,.any,.any,.con tI],[bC]⟩,[])]
def Μ (ρ:Type):à ρ:=⟨[],135,0,lg,fun(p:Val (.pair aa Ō)) (v:Val tI) b a=>Ģ p.1 p.2.1 p.2.2.1 p.2.2.2 v (fun c=>b c) (a 0) (a 1)⟩
def mS:List (Nat×â):=[]
def lU (ρ:Type):List (à ρ):=[Μ ρ]
def Ŕ (ρ:Type):Env ρ:=æ mS (lU ρ)
def GI:â:=⟨[aV,ab,tI],[tI],fun(x:Val (.pair aV ay))=>j8 x.1 x.2.1 x.2.2⟩
def KS:List (Nat×â):=[(135,Ũ)]
def H5 (ρ:Type):List (à ρ):=[]
def AA (ρ:Type):Env ρ:=æ KS (H5 ρ)
def Yx:â:=⟨[É,Ô,tI,tI],[tI],fun(x:Val (.pair É (.pair Ô Ä)))=>yI x.1 x.2.1 x.2.2.1 x.2.2.2⟩
def DC:Æ:=Ls 0 [tI,tI,af,tI,tI,tI,ae,aa,af,ac,aa,tI,tI,tI,tI,tI,tI,tI,tI] [tI,tI] ⟨88,aN 2 (.con tI::.con tI::.box 0 0::.box 1 0::aN 3 (.var tI::aN 7 [.con af,.con tI,.var tI])),[bq,br]⟩ [(.exit 0,⟨88,aN 2 (.con tI::.con tI::.box 0 0::.box 1 0::aN 3 (.var tI::aN 7 [.con af,.con tI])),[bq,br]⟩,[tI])]
def DB (ρ:Type):à ρ:=⟨[],247,0,DC,fun(p:Val (tyL DC.cs)) (v:Val Ä) a b=>uO p.1 p.2.1 p.2.2.1 p.2.2.2.1 p.2.2.2.2.2.2.2.2.2.2.2.1 v.1 v.2 (fun c d=>a (c,d)) (b 0)⟩
def DA:Æ:=Ls 0 [tI,tI,tI,aa,tI,tI,tI,tI,tI,tI,tI,tI,tI] [tI,ab] ⟨88,aN 2 (.con tI::.con tI::.any::.box 0 0::aN 3 (.con tI::aN 3 (.own 1::aN 39 [.con aa,.con tI,.var tI]))),[br,.rowv tI]⟩ [(.exit 2,⟨88,aN 2 (.con tI::.con tI::.any::.box 0 0::aN 3 (.con tI::aN 3 (.own 1::aN 39 [.con aa,.con tI]))),[br,.rowv tI]⟩,[ab])]
def Dz (ρ:Type):à ρ:=⟨[],247,2,DA,fun(p:Val (tyL DA.cs)) (v:Val ŋ) a b=>uN p.1 p.2.1 p.2.2.2.1 p.2.2.2.2.1 p.2.2.2.2.2.1 v.1 v.2 (fun c d=>a (c,d)) (b 0)⟩
def W6:List (Nat×â):=[(212,jU)]
def Us (ρ:Type):List (à ρ):=[DB ρ,Dz ρ]
def yq (ρ:Type):Env ρ:=æ W6 (Us ρ)
def vC:â:=⟨[am,ab],[Ä],fun(x:Val (.pair am ab))=>ig x.1 x.2⟩
def BA:List (Nat×â):=[]
def zn (ρ:Type):List (à ρ):=[]
def qY (ρ:Type):Env ρ:=æ BA (zn ρ)
def sg:â:=⟨[aa],[tI],fun(x:Val aa)=>jw x⟩
def Np:Æ:=Ls 0 [aa,tI] [tI] ⟨15,aN 5 [.con aa,.con tI,.var tI],[]⟩ [(.ret,⟨15,[.any,.any,.var tI,.any,.any,.con aa,.con tI],[]⟩,[tI]),(.exit 0,⟨15,aN 5 [.con aa,.con tI],[]⟩,[])]
def Au (ρ:Type):à ρ:=⟨[],264,0,Np,fun(p:Val bg) (v:Val tI) b a=>qX p.1 p.2 v (fun c=>b c) (a 0) (a 1)⟩
def Ua:List (Nat×â):=[(253,Cl)]
def QK (ρ:Type):List (à ρ):=[Au ρ]
def Bu (ρ:Type):Env ρ:=æ Ua (QK ρ)
def AY:â:=⟨[tI,tI],[Ä,tI],fun(x:Val Ä)=>pJ x.1 x.2⟩
def Nq:List (Nat×â):=[(291,PM),(292,Wd)]
def Kz (ρ:Type):List (à ρ):=[]
def Dl (ρ:Type):Env ρ:=æ Nq (Kz ρ)
def abM:â:=⟨[Ä,Ä],[Ä,tI],fun(x:Val Ĕ)=>RG x.1 x.2⟩
def aaf:List (Nat×â):=[(264,sg),(312,AY)]
def WT (ρ:Type):List (à ρ):=[]
def Uh (ρ:Type):Env ρ:=æ aaf (WT ρ)
def Cn:â:=⟨[Ä,Ä],[Ä],fun(x:Val Ĕ)=>vk x.1 x.2⟩
def H4:List (Nat×â):=[(296,abM)]
def FO (ρ:Type):List (à ρ):=[]
def xA (ρ:Type):Env ρ:=æ H4 (FO ρ)
def We:â:=⟨[Ä,Ä],[tI],fun(x:Val Ĕ)=>LK x.1 x.2⟩
def aae:List (Nat×â):=[]
def WQ (ρ:Type):List (à ρ):=[]
def Uf (ρ:Type):Env ρ:=æ aae (WQ ρ)
def zH:â:=⟨[Ĕ],[.bool],fun(x:Val Ĕ)=>sc x⟩
def FI:List (Nat×â):=[(264,sg),(320,We)]
def Dm (ρ:Type):List (à ρ):=[]
def vH (ρ:Type):Env ρ:=æ FI (Dm ρ)
def abN:â:=⟨[Ä,Ä],[Ä,tI],fun(x:Val Ĕ)=>LM x.1 x.2⟩
def aag:List (Nat×â):=[(264,sg),(312,AY)]
def WW (ρ:Type):List (à ρ):=[]
def Uj (ρ:Type):Env ρ:=æ aag (WW ρ)
def Tl:â:=⟨[Ĕ,Ä],[Ĕ,tI],fun(x:Val (.pair Ĕ Ä))=>LL x.1 x.2⟩
def GY:List (Nat×â):=[(253,Cl),(313,zH),(316,abN),(320,We)]
def uF (ρ:Type):List (à ρ):=[]
def GW:List afH:=[⟨[3,2],314,0,4⟩]
def Ui (ρ:Type):Env ρ:=æ GY (uF ρ)
def Bw (ρ:Type):Env ρ:=mkEnvU GY (uF ρ) GW
def Cm:â:=⟨[Ä,Ä],[Ĕ],fun(x:Val Ĕ)=>ow x.1 x.2⟩
def HZ:List (Nat×â):=[(297,Tl)]
def FM (ρ:Type):List (à ρ):=[]
def xz (ρ:Type):Env ρ:=æ HZ (FM ρ)
def Ot:â:=⟨[É,Ö],[Ĕ],fun(x:Val aY)=>tJ x.1 x.2⟩
def Q9:List (Nat×â):=[(143,tV),(148,Cp),(261,vC),(262,Cn),(263,Cm)]
def NH (ρ:Type):List (à ρ):=[]
def G3 (ρ:Type):Env ρ:=æ Q9 (NH ρ)
def Tn:â:=⟨[É,Ö],[Ä],fun(x:Val aY)=>xQ x.1 x.2⟩
def Ux:List (Nat×â):=[]
def Ra (ρ:Type):List (à ρ):=[]
def KY (ρ:Type):Env ρ:=æ Ux (Ra ρ)
def Jd:â:=⟨[tI,tI],[tI],fun(x:Val Ä)=>xP x.1 x.2⟩
def Ue:List (Nat×â):=[]
def QO (ρ:Type):List (à ρ):=[]
def KC (ρ:Type):Env ρ:=æ Ue (QO ρ)
def Yu:â:=⟨[Ä],[tI,tI],fun(x:Val Ä)=>IF x⟩
def WZ:List (Nat×â):=[(264,sg),(265,Jd)]
def Ul (ρ:Type):List (à ρ):=[]
def OS (ρ:Type):Env ρ:=æ WZ (Ul ρ)
def Tm:â:=⟨[Ä],[tI,tI],fun(x:Val Ä)=>Ek x⟩
def Uk:List (Nat×â):=[(264,sg),(265,Jd)]
def QT (ρ:Type):List (à ρ):=[]
def KJ (ρ:Type):Env ρ:=æ Uk (QT ρ)
def Yv:â:=⟨[É,Ö],[Ä],fun(x:Val aY)=>yH x.1 x.2⟩
def W0:List (Nat×â):=[(215,Ot),(216,Tn),(217,Yu),(218,Tm)]
def Un (ρ:Type):List (à ρ):=[]
def OT (ρ:Type):Env ρ:=æ W0 (Un ρ)
def Yw:â:=⟨[É],[aV],fun(x:Val É)=>IG x⟩
def Dw:Æ:=Ls 2 [tI,ab,tI,ae,tI,tI,tI,tI,ae,aa,af,ac,aa,tI,tI,ae,aa,af,ac,aa,aa,tI,tI,tI,tI,tI,tI,tI,tI,tI] [tI,ak,aa] ⟨144,.box 1 0::.any::.con tI::.box 2 0::.con ab::.con tI::.var tI::aN 24 [.con ae,.con tI,.con tI],[bq,bD,br,.rowv Ō,.rowv Ä]⟩ [(.exit 2,⟨144,.box 1 0::.any::.con tI::.box 2 0::.con ab::.con tI::aN 25 [.con ae,.con tI,.con tI],[bq,bD,br,.rowv Ō,.rowv Ä]⟩,[ak,aa])]
def Dv (ρ:Type):à ρ:=⟨[2,1],200,2,Dw,fun(p:Val (tyL Dw.cs)) (v:Val (.pair tI B6)) a b=>let A:=p.2.2.2.2.2.2.2.2.2.2.2.2.2;let B:=A.2.2.2.2;let C:=B.2.2.2.2.2;let D:=C.2.2.2.2;uL p.1 p.2.1 p.2.2.1 A.1 A.2.1 A.2.2.1 A.2.2.2.1 B.1 B.2.1 B.2.2.1 C.1 C.2.1 C.2.2.1 C.2.2.2.1 D.1 D.2.1 D.2.2.1 D.2.2.2 v.1 v.2.1 v.2.2 (fun c d e=>a (c,d,e)) (b 0)⟩
def Dy:Æ:=Ls 2 [ae,tI,tI,tI,ae,aa,af,ac,aa,tI,tI,ae,aa,af,ac,aa,aa,tI] [tI,ak,aa] ⟨144,.box 1 0::aN 30 [.con ae,.con tI,.var tI],b7⟩ [(.exit 0,⟨144,.box 1 0::aN 30 [.con ae,.con tI],b7⟩,[ak,aa])]
def Dx (ρ:Type):à ρ:=⟨[2,1],200,0,Dy,fun(p:Val (tyL Dy.cs)) (v:Val (.pair tI B6)) a b=>let A:=p.2.2.2.2.2.2.2.2.2;let B:=A.2.2.2.2;uM p.1 p.2.1 A.1 A.2.1 A.2.2.1 A.2.2.2.1 B.1 B.2.1 B.2.2.1 B.2.2.2.1 B.2.2.2.2 v.1 v.2.1 v.2.2 (fun c d e=>a (c,d,e)) (b 0)⟩
def Du:Æ:=Ls 2 [ac,tI,tI,tI,ae,aa,af,ac,aa,tI,tI,ae,aa,af,ac,aa,aa,tI] [tI,ak,aa] ⟨144,.box 1 0::aN 107 [.con ac,.con tI,.var tI],b7⟩ [(.exit 4,⟨144,.box 1 0::aN 107 [.con ac,.con tI],b7⟩,[ak,aa])]
def Dt (ρ:Type):à ρ:=⟨[2,1],200,4,Du,fun(p:Val (tyL Du.cs)) (v:Val (.pair tI B6)) a b=>let A:=p.2.2.2.2.2.2.2.2.2;let B:=A.2.2.2.2;uK p.1 p.2.1 A.1 A.2.1 A.2.2.1 A.2.2.2.1 B.1 B.2.1 B.2.2.1 B.2.2.2.1 B.2.2.2.2 v.1 v.2.1 v.2.2 (fun c d e=>a (c,d,e)) (b 0)⟩
def W5:List (Nat×â):=[(136,Co),(147,GI),(148,Cp),(201,PN),(247,Yx),(248,Yv)]
def Uq (ρ:Type):List (à ρ):=[Dv ρ,Dx ρ,Dt ρ]
def tq (ρ:Type):Env ρ:=æ W5 (Uq ρ)
def si:â:=⟨[É],[Í,aa,tI],fun(x:Val É)=>il x⟩
def Ri:List (Nat×â):=[(72,sj),(132,Yw)]
def NM (ρ:Type):List (à ρ):=[]
def G4 (ρ:Type):Env ρ:=æ Ri (NM ρ)
def EV:â:=⟨[Â,ag,tI,tI],[tI],fun(x:Val aP)=>pF x.1 x.2.1 x.2.2.1 x.2.2.2⟩
def TH:Æ:=Ls 0 [ag,tI,tI,tI,ae,aa,af,ac,aa,ai] [tI,tI] ⟨47,.any::.con ag::.var tI::.con tI::.box 0 0::aN 4 [.var tI],[bw]⟩ [(.exit 0,⟨47,[.any,.con ag,.var tI,.con tI,.box 0 0],[bw]⟩,[tI])]
def GM (ρ:Type):à ρ:=⟨[],105,0,TH,fun(p:Val (.pair ag aD)) (v:Val Ä) a b=>yl p.1 p.2.1 p.2.2.2.2.2.2.2.2.2 v.1 v.2 (fun c d=>a (c,d)) (b 0)⟩
def Z9:List (Nat×â):=[(173,lJ)]
def Wo (ρ:Type):List (à ρ):=[GM ρ]
def Ju (ρ:Type):Env ρ:=æ Z9 (Wo ρ)
def ww:â:=⟨[ab,tI,au,aF],[ab],fun(x:Val (.pair ab (.pair tI (.pair au aF))))=>iP x.1 x.2.1 x.2.2.1 x.2.2.2⟩
def nP:Æ:=Ls 0 [tI,au,aF,ab,tI] [tI,ab] ⟨28,[.any,.con tI,.con au,.con aF,.any,.any,.any,.own 0,.any,.any,.con ab,.con tI,.var tI],bX⟩ [(.exit 0,⟨28,[.any,.con tI,.con au,.con aF,.any,.any,.any,.own 0,.any,.any,.con ab,.con tI],bX⟩,[ab])]
def nO (ρ:Type):à ρ:=⟨[],183,0,nP,fun(p:Val (tyL nP.cs)) (v:Val ŋ) a b=>ix p.1 p.2.1 p.2.2.1 p.2.2.2.1 p.2.2.2.2 v.1 v.2 (fun c d=>a (c,d)) (b 0)⟩
def Cy:List (Nat×â):=[(105,EV)]
def Ba (ρ:Type):List (à ρ):=[nO ρ]
def lM (ρ:Type):Env ρ:=æ Cy (Ba ρ)
def iU:â:=⟨[Â,ag],[É],fun(x:Val aG)=>Α x.1 x.2⟩
def qz:Æ:=Ls 0 [au,aF,au,aF,aa,tI,tI,tI,tI,tI,ae,aa,af,ac,aa,tI,tI,ae] [tI,aa] ⟨123,aN 2 (.con au::.con aF::.box 0 0::.box 1 0::.box 2 0::.fnd 183 [Â,ag]::aN 18 [.con aa,.con tI,.var tI]),[bG,bq,bH,.rowc Ô,.rowv Ä]⟩ [(.exit 0,⟨123,aN 2 (.con au::.con aF::.box 0 0::.box 1 0::.box 2 0::.fnd 183 [Â,ag]::aN 18 [.con aa,.con tI]),[bG,bq,bH,.rowc Ô,.rowv Ä]⟩,[aa])]
def qy (ρ:Type):à ρ:=⟨[],104,0,qz,fun(p:Val (tyL qz.cs)) (v:Val ba) a b=>jG p.1 p.2.1 p.2.2.2.2.1 p.2.2.2.2.2.1 v.1 v.2 (fun c d=>a (c,d)) (b 0)⟩
def qx:Æ:=Ls 0 [au,aF,au,aF,af,tI,tI,tI,tI,tI,ae,aa,af,ac,aa,tI,tI,ae,aa] [tI,af] ⟨123,aN 2 (.con au::.con aF::.box 0 0::.box 1 0::.box 2 0::.fnd 183 [Â,ag]::aN 41 [.con af,.con tI,.var tI]),b8⟩ [(.exit 2,⟨123,aN 2 (.con au::.con aF::.box 0 0::.box 1 0::.box 2 0::.fnd 183 [Â,ag]::aN 41 [.con af,.con tI]),b8⟩,[af])]
def qw (ρ:Type):à ρ:=⟨[],104,2,qx,fun(p:Val (tyL qx.cs)) (v:Val (.pair tI af)) a b=>jF p.1 p.2.1 p.2.2.2.2.1 p.2.2.2.2.2.1 v.1 v.2 (fun c d=>a (c,d)) (b 0)⟩
def qv:Æ:=Ls 0 [au,aF,au,aF,ac,tI,tI,tI,tI,tI,ae,aa,af,ac,aa,tI,tI,ae,aa,af] [tI,ac] ⟨123,aN 2 (.con au::.con aF::.box 0 0::.box 1 0::.box 2 0::.fnd 183 [Â,ag]::aN 64 [.con ac,.con tI,.var tI]),b9⟩ [(.exit 4,⟨123,aN 2 (.con au::.con aF::.box 0 0::.box 1 0::.box 2 0::.fnd 183 [Â,ag]::aN 64 [.con ac,.con tI]),b9⟩,[ac])]
def qu (ρ:Type):à ρ:=⟨[],104,4,qv,fun(p:Val (tyL qv.cs)) (v:Val aU) a b=>jE p.2.2.1 p.2.2.2.1 p.2.2.2.2.1 p.2.2.2.2.2.1 v.1 v.2 (fun c d=>a (c,d)) (b 0)⟩
def qt:Æ:=Ls 0 [au,aF,aa,tI,tI,tI,tI,tI,ae,aa,af,ac] [tI,aa] ⟨123,aN 2 (.con au::.con aF::.box 0 0::.any::.box 1 0::aN 93 [.con aa,.con tI,.var tI]),ca⟩ [(.exit 6,⟨123,aN 2 (.con au::.con aF::.box 0 0::.any::.box 1 0::aN 93 [.con aa,.con tI]),ca⟩,[aa])]
def qr (ρ:Type):à ρ:=⟨[],104,6,qt,fun(p:Val (tyL qt.cs)) (v:Val ba) a b=>jD p.1 p.2.1 p.2.2.1 p.2.2.2.1 v.1 v.2 (fun c d=>a (c,d)) (b 0)⟩
def Hy:List (Nat×â):=[(105,EV),(183,ww)]
def sm (ρ:Type):List (à ρ):=[qy ρ,qw ρ,qu ρ,qr ρ]
def ũ (ρ:Type):Env ρ:={æ Hy (sm ρ) with hint:=Ry [(78,183),(84,183)]}
def PL:â:=⟨[Í,tI],[.bool],fun(x:Val (.pair Í tI))=>yG x.1 x.2⟩
def WH:List (Nat×â):=[]
def T4 (ρ:Type):List (à ρ):=[]
def OG (ρ:Type):Env ρ:=æ WH (T4 ρ)
def wz:â:=⟨[Í],[tI,tI],fun(x:Val Í)=>pI x⟩
def No:Æ:=Ls 0 [ak,tI,tI,ak] [tI] ⟨57,.any::.box 0 0::aN 17 [.con ak,.con tI,.var tI],[bL]⟩ [(.ret,⟨57,.any::.box 0 0::.var tI::.var tI::aN 15 [.con ak,.con tI],[bL]⟩,[tI,tI]),(.exit 0,⟨57,.any::.box 0 0::aN 17 [.con ak,.con tI],[bL]⟩,[])]
def As (ρ:Type):à ρ:=⟨[],126,0,No,fun(p:Val (.pair ak aS)) (v:Val tI) b a=>qW p.1 p.2.1 p.2.2.1 p.2.2.2 v (fun c=>b c) (a 0) (a 1)⟩
def T9:List (Nat×â):=[(196,PL)]
def QI (ρ:Type):List (à ρ):=[As ρ]
def Bt (ρ:Type):Env ρ:=æ T9 (QI ρ)
def qi:â:=⟨[Í,ao],[ab,.bool],fun(x:Val (.pair Í ao))=>j7 x.1 x.2⟩
def tk:Æ:=Ls 2 [ao,ak,tI,tI,ak,ab,tI,ak,aq,ab] [tI,tI] ⟨140,.any::.con ao::.own 1::.box 2 0::aN 3 (.box 3 0::.own 4::.own 5::.var tI::aN 14 [.con ak,.con tI,.var tI]),[bL,.rowc tI,bL,.cells [.nils],.rowc .bool,.rowc tI]⟩ [(.exit 0,⟨140,.any::.con ao::.own 1::.box 2 0::aN 3 (.box 3 0::.own 4::.own 5::.var tI::aN 14 [.con ak,.con tI]),[bL,.rowc tI,bL,.cells [.nils],.rowc .bool,.rowc tI]⟩,[tI])]
def tj (ρ:Type):à ρ:=⟨[2,3],197,0,tk,fun(p:Val (tyL tk.cs)) (v:Val Ä) a b=>ξ p.2.1 p.2.2.1 v.1 v.2 (fun c d=>a (c,d)) (b 0)⟩
def tg:Æ:=Ls 2 [ao,tI,tI,tI,ak,ab,tI,ak,ab] [tI,aq,ab] ⟨140,.any::.con ao::.own 1::.box 2 0::aN 3 (.box 3 0::.own 4::.own 5::.con tI::aN 27 [.con tI,.var tI]),cd⟩ [(.exit 2,⟨140,.any::.con ao::.own 1::.box 2 0::aN 3 (.box 3 0::.own 4::.own 5::.con tI::aN 27 [.con tI]),cd⟩,[aq,ab])]
def tf (ρ:Type):à ρ:=⟨[2,3],197,2,tg,fun(p:Val (tyL tg.cs)) (v:Val (.pair tI aL)) a b=>ŏ p.2.2.1 p.2.2.2.2.2.1 v.1 v.2.1 v.2.2 (fun c d e=>a (c,d,e)) (b 0)⟩
def tc:Æ:=Ls 2 [ao,tI,tI,ak,tI,tI,ak,tI,ak,ab] [tI,ab,aq,ab] ⟨140,.any::.con ao::.own 1::.box 2 0::aN 3 (.box 3 0::.own 4::.own 5::.con tI::aN 3 (.con tI::aN 62 [.con ak,.con tI,.var tI])),ce⟩ [(.ret,⟨140,.any::.con ao::.own 1::.box 2 0::aN 2 (.var .bool::.box 3 0::.own 4::.own 5::.con tI::aN 3 (.con tI::aN 62 [.con ak,.con tI])),ce⟩,[.bool,ab,aq,ab]),(.exit 6,⟨140,.any::.con ao::.own 1::.box 2 0::aN 3 (.box 3 0::.own 4::.own 5::.con tI::aN 3 (.con tI::aN 62 [.con ak,.con tI])),ce⟩,[ab,aq,ab])]
def ta (ρ:Type):à ρ:=⟨[2,3],197,6,tc,fun(p:Val (tyL tc.cs)) (v:Val (.pair tI (.pair ab aL))) b a=>iL p.1 p.2.1 p.2.2.1 p.2.2.2.1 p.2.2.2.2.1 v.1 v.2.1 v.2.2.1 v.2.2.2 (fun c d e f=>b (c,d,e,f)) (a 0) (a 1)⟩
def FC:Æ:=Ls 2 [ao,tI,tI,ak,tI,ak] [ab,aq,ab,ab] ⟨140,[.any,.con ao,.own 1,.box 2 0,.any,.any,.any,.box 3 0,.own 4,.own 5,.con tI],cf⟩ [(.ret,⟨140,[.any,.con ao,.own 1,.box 2 0,.any,.any,.var .bool,.box 3 0,.own 4,.own 5,.con tI],cf⟩,[.bool,ab,aq,ab,ab])]
def td (ρ:Type):à ρ:=⟨[2,3],197,4,FC,fun(p:Val (.pair ao bo)) (v:Val aM) a b=>Ħ p.1 p.2.1 p.2.2.2.2.1 p.2.2.2.2.2 v.1 v.2.1 v.2.2.1 v.2.2.2 (fun c d e f=>a (c,d,e,f)) (b 0)⟩
def FB:Æ:=Ls 0 [tI,tI] [tI,ab] ⟨34,aN 6 (.own 0::.con tI::aN 13 [.con tI,.var tI]),bX⟩ [(.exit 0,⟨34,aN 6 (.own 0::.con tI::aN 13 [.con tI]),bX⟩,[ab])]
def s9 (ρ:Type):à ρ:=⟨[],127,0,FB,fun(p:Val Ä) (v:Val ŋ) a b=>iK p.1 p.2 v.1 v.2 (fun c d=>a (c,d)) (b 0)⟩
def Ke:List (Nat×â):=[]
def HP (ρ:Type):List (à ρ):=[tj ρ,tf ρ,ta ρ,td ρ,s9 ρ]
def Θ (ρ:Type):Env ρ:=æ Ke (HP ρ)
def zF:â:=⟨[Í],[.bool,tI],fun(x:Val Í)=>mr x⟩
def FG:List (Nat×â):=[(126,wz),(127,qi)]
def Dg (ρ:Type):List (à ρ):=[]
def vF (ρ:Type):Env ρ:=æ FG (Dg ρ)
def qg:â:=⟨[Â,ag],[.bool],fun(x:Val aG)=>Β x.1 x.2⟩
def JS:List (Nat×â):=[(66,si),(104,iU),(155,zF)]
def HC (ρ:Type):List (à ρ):=[]
def zU (ρ:Type):Env ρ:=æ JS (HC ρ)
def EW:â:=⟨[Â,ag],[tI],fun(x:Val aG)=>ĥ x.1 x.2⟩
def wM:Æ:=Ls 0 [tI,ag,tI,tI,ab,tI,tI,tI,ae,aa,af,ac,aa,ai] [tI,tI] ⟨40,aN 2 (.box 0 0::aN 2 (.var tI::.con tI::aN 3 (.con ag::.con tI::.con tI::aN 4 [.con ab,.con tI,.var tI]))),[bw]⟩ [(.exit 2,⟨40,aN 2 (.box 0 0::aN 2 (.var tI::.con tI::aN 3 (.con ag::.con tI::.con tI::aN 4 [.con ab,.con tI]))),[bw]⟩,[tI])]
def wL (ρ:Type):à ρ:=⟨[],116,2,wM,fun(p:Val (tyL wM.cs)) (v:Val Ä) a b=>let A:=p.2.2.2.2;oc p.1 A.1 A.2.1 A.2.2.2.2.2.2.2.2.2 v.1 v.2 (fun c d=>a (c,d)) (b 0)⟩
def Jv:Æ:=Ls 0 [ag,tI,tI,tI,ae,aa,af,ac,aa,ai] [tI,tI] ⟨40,aN 2 (.box 0 0::aN 2 (.var tI::aN 4 [.con ag,.con tI,.var tI])),[bw]⟩ [(.exit 0,⟨40,aN 2 (.box 0 0::aN 2 (.var tI::aN 4 [.con ag,.con tI])),[bw]⟩,[tI])]
def wN (ρ:Type):à ρ:=⟨[],116,0,Jv,fun(p:Val (.pair ag aD)) (v:Val Ä) a b=>od p.1 p.2.1 p.2.2.2.2.2.2.2.2.2 v.1 v.2 (fun c d=>a (c,d)) (b 0)⟩
def P1:List (Nat×â):=[]
def MA (ρ:Type):List (à ρ):=[wL ρ,wN ρ]
def qq (ρ:Type):Env ρ:=æ P1 (MA ρ)
def wA:â:=⟨[tI],[.bool],fun(x:Val tI)=>kM x⟩
def Dp:List (Nat×â):=[]
def Bx (ρ:Type):List (à ρ):=[]
def tp (ρ:Type):Env ρ:=æ Dp (Bx ρ)
def lK:â:=⟨[tI,tI],[tI],fun(x:Val Ä)=>υ x.1 x.2⟩
def zm:List (Nat×â):=[(234,wA)]
def xx (ρ:Type):List (à ρ):=[]
def pz (ρ:Type):Env ρ:=æ zm (xx ρ)
def EX:â:=⟨[ag,ag,au],[tI],fun(x:Val (.pair ag (.pair ag au)))=>i8 x.1 x.2.1 x.2.2⟩
def P2:List (Nat×â):=[(116,EW),(180,lK)]
def MG (ρ:Type):List (à ρ):=[]
def GO (ρ:Type):Env ρ:=æ P2 (MG ρ)
def ÿ:aa2:=⟨ag,[tI,tI],179,Â,fun(xs:Val aj) (x:Val Ä) (m:Val Â)=>ã xs x.1 x.2 m⟩
def kv:Æ:=Ls 2 [tI,tI,tI,tI,tI,ae,aa,af,ac,aa,ai] [tI,aj] ⟨53,.own 0::.con tI::.con tI::.fn 179 [(1,0)]::aN 4 [.con tI,.var tI],cg⟩ [(.exit 2,⟨53,.own 0::.con tI::.con tI::.fn 179 [(1,0)]::aN 4 [.con tI],cg⟩,[aj])]
def ż (ρ:Type):à ρ:=⟨[],273,2,kv,fun(p:Val bi) (v:Val aB) a b=>let A:=p.2.2.2.2;let B:=A.2.2.2.2;ä p.1 p.2.2.2.1 A.1 A.2.1 A.2.2.1 A.2.2.2.1 B.1 B.2.1 B.2.2 v.1 v.2 (fun c d=>a (c,d)) (b 0)⟩
def ky:Æ:=Ls 2 [tI,tI,tI,tI,ae,aa,af,ac,aa,ai] [tI,aj] ⟨53,.own 0::.con tI::.con tI::.fn 179 [(1,0)]::aN 4 [.var tI],cg⟩ [(.exit 0,⟨53,[.own 0,.con tI,.con tI,.fn 179 [(1,0)]],cg⟩,[aj])]
def Ž (ρ:Type):à ρ:=⟨[],273,0,ky,fun(p:Val (.pair tI aD)) (v:Val aB) a b=>let A:=p.2.2.2.2;ć p.1 p.2.1 p.2.2.1 p.2.2.2.1 A.1 A.2.1 A.2.2.1 A.2.2.2.1 A.2.2.2.2.1 A.2.2.2.2.2 v.1 v.2 (fun c d=>a (c,d)) (b 0)⟩
def lS:List (Nat×â):=[(179,EX)]
def Λ (ρ:Type):List (à ρ):=[ż ρ,Ž ρ]
def ð (ρ:Type):Env ρ:={æ lS (Λ ρ) with hint:=Ry [(22,179)]}
def ĩ:aa2:=⟨ag,[tI,tI,tI],179,Â,fun(xs:Val aj) (x:Val Ō) (m:Val Â)=>Ĭ xs x.1 x.2.1 x.2.2 m⟩
def pW:Æ:=Ls 2 [tI,tI,tI,tI,tI,ae,aa,af,ac,aa,ai] [tI,aj] ⟨38,.own 0::.con tI::.con tI::.con tI::aN 6 [.var tI],cg⟩ [(.exit 0,⟨38,[.own 0,.con tI,.con tI,.con tI],cg⟩,[aj])]
def jg (ρ:Type):à ρ:=⟨[4,7],317,0,pW,fun(p:Val bi) (v:Val aB) a b=>Ć p.1 p.2.1 p.2.2.1 v.1 v.2 (fun c d=>a (c,d)) (b 0)⟩
def pV:Æ:=Ls 2 [tI,tI,tI,tI,tI,ae,aa,af,ac,aa,ai] [tI,aj] ⟨38,.own 0::.con tI::.con tI::.con tI::aN 6 [.var tI],cg⟩ [(.exit 0,⟨38,[.own 0,.con tI,.con tI,.con tI],cg⟩,[aj])]
def jf (ρ:Type):à ρ:=⟨[6,11],317,0,pV,fun(p:Val bi) (v:Val aB) a b=>κ p.1 p.2.1 p.2.2.1 v.1 v.2 (fun c d=>a (c,d)) (b 0)⟩
def pX:Æ:=Ls 2 [tI,tI,tI,ae,aa,af,ac,aa,ai] [tI,tI,aj] ⟨58,.own 0::.any::.con tI::.any::.fn 179 [(1,0)]::aN 5 [.var tI,.var tI],cg⟩ [(.exit 0,⟨58,.own 0::.any::.con tI::.any::.fn 179 [(1,0)]::aN 5 [.var tI],cg⟩,[tI,aj])]
def jh (ρ:Type):à ρ:=⟨[],300,0,pX,fun(p:Val aD) (v:Val (.pair tI aB)) a b=>Ī p.1 v.1 v.2.1 v.2.2 (fun c d e=>a (c,d,e)) (b 0)⟩
def pU:Æ:=Ls 2 [tI,tI,tI,tI,tI,ae,aa,af,ac,aa,ai] [tI,aj] ⟨38,.own 0::.con tI::.con tI::.con tI::aN 6 [.var tI],cg⟩ [(.exit 0,⟨38,[.own 0,.con tI,.con tI,.con tI],cg⟩,[aj])]
def je (ρ:Type):à ρ:=⟨[8,7],317,0,pU,fun(p:Val bi) (v:Val aB) a b=>ι p.1 p.2.1 p.2.2.1 v.1 v.2 (fun c d=>a (c,d)) (b 0)⟩
def sR:List (Nat×â):=[]
def jr (ρ:Type):List (à ρ):=[jg ρ,jf ρ,jh ρ,je ρ]
def ú (ρ:Type):Env ρ:=æ sR (jr ρ)
def kh:aa2:=⟨ag,[tI,tI,tI],179,Â,fun(xs:Val aj) (x:Val Ō) (m:Val Â)=>ď xs x.1 x.2.1 x.2.2 m⟩
def Ą:Æ:=Ls 2 [tI,aj,tI,tI,ae,aa,af,ac,aa,ai] [tI,tI] ⟨220,.own 0::.con tI::aN 2 (.fn 179 [(1,0)]::aN 5 [.var tI,.var tI]),ci⟩ [(.exit 0,⟨220,.own 0::.con tI::aN 2 (.fn 179 [(1,0)]::aN 5 [.var tI]),ci⟩,[tI])]
def Ş (rec:Val aj→Int→Int→Int→Val Â→Option ((Val aj)×(Val Â))) (ρ:Type):à ρ:=⟨[],274,0,Ą,fun(p:Val aw) (v:Val Ä) a b=>ó rec p.1 p.2.1 p.2.2.1 p.2.2.2.1 p.2.2.2.2.1 p.2.2.2.2.2.1 p.2.2.2.2.2.2.1 p.2.2.2.2.2.2.2.1 p.2.2.2.2.2.2.2.2.1 p.2.2.2.2.2.2.2.2.2 v.1 v.2 (fun c d=>a (c,d)) (b 0)⟩
def ă:Æ:=Ls 2 [tI,tI,tI,ae,aa,af,ac,aa,ai] [tI,aj] ⟨220,.own 0::aN 9 [.con tI,.any,.any,.var tI],cg⟩ [(.exit 2,⟨220,.own 0::aN 9 [.con tI],cg⟩,[aj])]
def ŝ (rec:Val aj→Int→Int→Int→Val Â→Option ((Val aj)×(Val Â))) (ρ:Type):à ρ:=⟨[],274,2,ă,fun(p:Val aD) (v:Val aB) a b=>ë rec p.1 v.1 v.2 (fun c d=>a (c,d)) (b 0)⟩
def Ă:Æ:=Ls 2 [tI,aj,tI,tI,ae,aa,af,ac,aa,ai] [tI,tI] ⟨220,.own 0::.any::.con tI::.any::.fn 179 [(1,0)]::aN 9 [.var tI,.var tI],ci⟩ [(.exit 4,⟨220,.own 0::.any::.con tI::.any::.fn 179 [(1,0)]::aN 9 [.var tI],ci⟩,[tI])]
def Ŝ (rec:Val aj→Int→Int→Int→Val Â→Option ((Val aj)×(Val Â))) (ρ:Type):à ρ:=⟨[],274,4,Ă,fun(p:Val aw) (v:Val Ä) a b=>ò rec p.1 p.2.1 p.2.2.1 p.2.2.2.1 p.2.2.2.2.1 p.2.2.2.2.2.1 p.2.2.2.2.2.2.1 p.2.2.2.2.2.2.2.1 p.2.2.2.2.2.2.2.2.1 p.2.2.2.2.2.2.2.2.2 v.1 v.2 (fun c d=>a (c,d)) (b 0)⟩
def ā:Æ:=Ls 2 [tI,tI,tI,ae,aa,af,ac,aa,ai] [tI,aj] ⟨220,.own 0::aN 13 [.con tI,.any,.any,.var tI],cg⟩ [(.exit 6,⟨220,.own 0::aN 13 [.con tI],cg⟩,[aj])]
def ś (rec:Val aj→Int→Int→Int→Val Â→Option ((Val aj)×(Val Â))) (ρ:Type):à ρ:=⟨[],274,6,ā,fun(p:Val aD) (v:Val aB) a b=>ê rec p.1 v.1 v.2 (fun c d=>a (c,d)) (b 0)⟩
def Ā:Æ:=Ls 2 [tI,tI,tI,tI,tI,tI,aj,tI,tI,ae,aa,af,ac,aa,ai] [tI,tI] ⟨220,.own 0::.con tI::.con tI::.con tI::.fn 179 [(1,0)]::aN 13 [.con tI,.con tI,.var tI,.var tI,.con tI],ci⟩ [(.exit 8,⟨220,.own 0::.con tI::.con tI::.con tI::.fn 179 [(1,0)]::aN 13 [.con tI,.con tI,.var tI,.any,.con tI],ci⟩,[tI])]
def Ś (rec:Val aj→Int→Int→Int→Val Â→Option ((Val aj)×(Val Â))) (ρ:Type):à ρ:=⟨[],274,8,Ā,fun(p:Val aO) (v:Val Ä) a b=>Ý rec p.2.2.2.2.2.1 p.2.2.2.2.2.2.1 p.2.2.2.2.2.2.2.1 p.2.2.2.2.2.2.2.2.1 p.2.2.2.2.2.2.2.2.2.1 p.2.2.2.2.2.2.2.2.2.2.1 p.2.2.2.2.2.2.2.2.2.2.2.1 p.2.2.2.2.2.2.2.2.2.2.2.2.1 p.2.2.2.2.2.2.2.2.2.2.2.2.2.1 p.2.2.2.2.2.2.2.2.2.2.2.2.2.2 v.1 v.2 (fun c d=>a (c,d)) (b 0)⟩
def pQ (rec:Val aj→Int→Int→Int→Val Â→Option ((Val aj)×(Val Â))):List (Nat×â):=[(179,EX)]
def pP (rec:Val aj→Int→Int→Int→Val Â→Option ((Val aj)×(Val Â))):List (Nat×Zu):=[(274,.row ⟨ag,[tI,tI,tI],179,Â,fun(xs:Val aj) (x:Val Ō) (m:Val Â)=>rec xs x.1 x.2.1 x.2.2 m⟩),(300,.row ĩ)]
def iH (rec:Val aj→Int→Int→Int→Val Â→Option ((Val aj)×(Val Â))) (ρ:Type):List (à ρ):=[Ş rec ρ,ŝ rec ρ,Ŝ rec ρ,ś rec ρ,Ś rec ρ]
def Ç (rec:Val aj→Int→Int→Int→Val Â→Option ((Val aj)×(Val Â))) (ρ:Type):Env ρ:={YE (pQ rec) (iH rec ρ) (pP rec) with hint:=Ry [(40,179),(92,179),(158,179)]}
def ě:aa2:=⟨ag,[tI],179,Â,fun(xs:Val aj) (x:Val tI) (m:Val Â)=>ī xs x m⟩
def pT:Æ:=Ls 2 [tI,tI] [tI,tI,aj,tI,tI,ae,aa,af,ac,aa,ai] ⟨63,[.own 0,.con tI,.fn 179 [(1,0)],.any,.any,.any,.con tI,.var tI,.var tI],cj⟩ [(.exit 0,⟨63,[.own 0,.con tI,.fn 179 [(1,0)],.any,.any,.any,.con tI,.var tI],cj⟩,[tI,aj,tI,tI,ae,aa,af,ac,aa,ai])]
def jd (ρ:Type):à ρ:=⟨[],233,0,pT,fun(p:Val Ä) (v:Val (.pair tI aw)) a b=>θ p.1 p.2 v.1 v.2.1 v.2.2.1 v.2.2.2.1 v.2.2.2.2.1 v.2.2.2.2.2.1 v.2.2.2.2.2.2.1 v.2.2.2.2.2.2.2.1 v.2.2.2.2.2.2.2.2.1 v.2.2.2.2.2.2.2.2.2.1 v.2.2.2.2.2.2.2.2.2.2 (fun c d e f g h i j k l m=>a (c,d,e,f,g,h,i,j,k,l,m)) (b 0)⟩
def pR:Æ:=Ls 2 [tI,tI] [tI,tI,aj,tI,tI,ae,aa,af,ac,aa,ai] ⟨63,[.own 0,.con tI,.fn 179 [(1,0)],.any,.any,.any,.con tI,.var tI,.var tI],cj⟩ [(.exit 4,⟨63,[.own 0,.con tI,.fn 179 [(1,0)],.any,.any,.any,.con tI,.var tI],cj⟩,[tI,aj,tI,tI,ae,aa,af,ac,aa,ai])]
def jb (ρ:Type):à ρ:=⟨[],233,4,pR,fun(p:Val Ä) (v:Val (.pair tI aw)) a b=>ζ p.1 p.2 v.1 v.2.1 v.2.2.1 v.2.2.2.1 v.2.2.2.2.1 v.2.2.2.2.2.1 v.2.2.2.2.2.2.1 v.2.2.2.2.2.2.2.1 v.2.2.2.2.2.2.2.2.1 v.2.2.2.2.2.2.2.2.2.1 v.2.2.2.2.2.2.2.2.2.2 (fun c d e f g h i j k l m=>a (c,d,e,f,g,h,i,j,k,l,m)) (b 0)⟩
def pS:Æ:=Ls 2 [tI] [tI,aj,tI,tI,ae,aa,af,ac,aa,ai] ⟨63,[.own 0,.con tI,.fn 179 [(1,0)],.any,.any,.any,.var tI],cj⟩ [(.exit 2,⟨63,[.own 0,.con tI,.fn 179 [(1,0)]],cj⟩,[aj,tI,tI,ae,aa,af,ac,aa,ai])]
def jc (ρ:Type):à ρ:=⟨[],233,2,pS,fun(p:Val tI) (v:Val aw) a b=>η p v.1 v.2.1 v.2.2.1 v.2.2.2.1 v.2.2.2.2.1 v.2.2.2.2.2.1 v.2.2.2.2.2.2.1 v.2.2.2.2.2.2.2.1 v.2.2.2.2.2.2.2.2.1 v.2.2.2.2.2.2.2.2.2 (fun c d e f g h i j k l=>a (c,d,e,f,g,h,i,j,k,l)) (b 0)⟩
def sQ:List (Nat×â):=[]
def sP:List (Nat×Zu):=[(273,.row ÿ),(274,.row kh)]
def jq (ρ:Type):List (à ρ):=[jd ρ,jb ρ,jc ρ]
def Ď (ρ:Type):Env ρ:=YE sQ (jq ρ) sP
def PJ:â:=⟨[Â],[aj],fun(x:Val Â)=>Ed x⟩
def kr:Tpl:=⟨13,[.any,.any,.box 3 0],[.cells [.con tI,.con tI,.con ae,.con aa,.con af,.con ac,.con aa,.con ai],.cells [.con tI,.con tI,.con ae,.con aa,.con af,.con ac,.con aa,.con ai],.dead,.cells [.own 4],.rowv ag]⟩
def og (ρ:Type):EH ρ:=⟨[1,1,1,3,1,1],230,0,4,[tI,tI,ae,aa,af,ac,aa,ai,tI,tI,ae,aa,af,ac,aa,ai],[aj],kr,pD,fun(p:Val ax) (v:Val aj) y a=>Bi v y (fun b=>a b)⟩
def CN:Æ:=Ls 5 [tI,tI,tI,ae,aa,af,ac,aa,ai,tI,tI,ae,aa,af,ac,aa,ai,ai,aj] [tI] ⟨19,.own 4::.fn 158 [(0,0)]::aN 5 [.con tI,.var tI],[bw,bw,bO,bP,.rowc ag]⟩ [(.ret,⟨19,[.own 4,.fn 158 [(0,0)],.any,.any,.var tI,.any,.any,.con tI],[bw,bw,bO,bP,.rowc ag]⟩,[tI]),(.exit 0,⟨19,.own 4::.fn 158 [(0,0)]::aN 5 [.con tI],[bw,bw,bO,bP,.rowc ag]⟩,[])]
def CM (ρ:Type):à ρ:=⟨[1,3,1,2],186,0,CN,fun(p:Val (tyL CN.cs)) (v:Val tI) b a=>let A:=p.2.2.2.2;ud p.1 p.2.1 p.2.2.1 p.2.2.2.1 A.1 A.2.1 A.2.2.1 A.2.2.2.1 A.2.2.2.2.1 A.2.2.2.2.2.2.2.2.2.2.2.2.2.2 v (fun c=>b c) (a 0) (a 1)⟩
def CL:Æ:=Ls 5 [tI,tI,ae,aa,af,ac,aa,ai,tI,tI,ae,aa,af,ac,aa,ai,ai] [tI,tI,aj] ⟨42,[.own 4,.fn 158 [(0,0)],.any,.any,.any,.var tI,.var tI],[bw,bw,bO,bP,.rowv ag]⟩ [(.exit 0,⟨42,[.own 4,.fn 158 [(0,0)],.any,.any,.any,.var tI],[bw,bw,bO,bP,.rowv ag]⟩,[tI,aj])]
def CJ (ρ:Type):à ρ:=⟨[1,3],157,0,CL,fun(p:Val (tyL CL.cs)) (v:Val (.pair tI aB)) a b=>let A:=p.2.2.2.2;lP p.1 p.2.1 p.2.2.1 p.2.2.2.1 A.1 A.2.1 A.2.2.1 A.2.2.2.1 v.1 v.2.1 v.2.2 (fun c d e=>a (c,d,e)) (b 0)⟩
def JP (ρ:Type):List (EH ρ):=[og ρ]
def Wv:List (Nat×â):=[(79,qg)]
def Wu:List (Nat×Zu):=[(233,.row ě)]
def GR (ρ:Type):List (à ρ):=[CM ρ,CJ ρ]
def δ (ρ:Type):Env ρ:={YE Wv (GR ρ) Wu with ranges:=Ż (JP ρ)}
def abL:â:=⟨[Â],[aj,tI],fun(x:Val Â)=>RF x⟩
def aab:List (Nat×â):=[(80,iD),(81,PJ)]
def WD (ρ:Type):List (à ρ):=[]
def T0 (ρ:Type):Env ρ:=æ aab (WD ρ)
def yj:â:=⟨[Â],[aj],fun(x:Val Â)=>rz x⟩
def kq:Tpl:=⟨13,[.any,.any,.box 2 0],[.cells [.con tI,.con tI,.con ae,.con aa,.con af,.con ac,.con aa,.con ai],.dead,.cells [.own 3],.rowv ag]⟩
def oe (ρ:Type):EH ρ:=⟨[1,3,1,1],230,0,3,[tI,tI,ae,aa,af,ac,aa,ai],[aj],kq,pD,fun(p:Val ah) (v:Val aj) y a=>A5 v y (fun b=>a b)⟩
def Jw (ρ:Type):List (EH ρ):=[oe ρ]
def Ws:List (Nat×â):=[]
def Wr:List (Nat×Zu):=[(233,.row ě)]
def GN (ρ:Type):List (à ρ):=[]
def iW (ρ:Type):Env ρ:={YE Ws (GN ρ) Wr with ranges:=Ż (Jw ρ)}
def nZ:â:=⟨[Â],[ag,.bool],fun(x:Val Â)=>û x⟩
def CO:Æ:=Ls 1 [aj,tI,tI,tI,ae,aa,af,ac,aa,ai] [tI] ⟨21,.any::.fn 159 [(0,0)]::aN 7 [.con aj,.con tI,.var tI],[bw]⟩ [(.ret,⟨21,[.any,.fn 159 [(0,0)],.any,.any,.var ag,.var .bool,.any,.any,.any,.con aj,.con tI],[bw]⟩,[ag,.bool]),(.exit 0,⟨21,.any::.fn 159 [(0,0)]::aN 7 [.con aj,.con tI],[bw]⟩,[])]
def qC (ρ:Type):à ρ:=⟨[1,3],99,0,CO,fun(p:Val (.pair aj aD)) (v:Val tI) b a=>let A:=p.2.2.2.2;jH p.1 p.2.1 p.2.2.1 p.2.2.2.1 A.1 A.2.1 A.2.2.1 A.2.2.2.1 A.2.2.2.2.1 A.2.2.2.2.2 v (fun c=>b c) (a 0) (a 1)⟩
def HE:List (Nat×â):=[(79,qg),(96,yj)]
def Fh (ρ:Type):List (à ρ):=[qC ρ]
def pb (ρ:Type):Env ρ:=æ HE (Fh ρ)
def Te:â:=⟨[Â],[ag,tI],fun(x:Val Â)=>Eh x⟩
def TV:List (Nat×â):=[(80,iD),(82,nZ)]
def Ql (ρ:Type):List (à ρ):=[]
def J1 (ρ:Type):Env ρ:=æ TV (Ql ρ)
def oa:â:=⟨[ab,ab],[.bool],fun(x:Val (.pair ab ab))=>Ţ x.1 x.2⟩
def C6:Æ:=Ls 0 [ab,ab] [tI] ⟨26,[.con ab,.con ab,.any,.any,.any,.var tI],[]⟩ [(.ret,⟨26,[.con ab,.con ab,.any,.any,.var .bool],[]⟩,[.bool]),(.exit 0,⟨26,[.con ab,.con ab],[]⟩,[])]
def qQ (ρ:Type):à ρ:=⟨[],35,0,C6,fun(p:Val (.pair ab ab)) (v:Val tI) b a=>jJ p.1 p.2 v (fun c=>b c) (a 0) (a 1)⟩
def HO:List (Nat×â):=[]
def Fy (ρ:Type):List (à ρ):=[qQ ρ]
def pv (ρ:Type):Env ρ:=æ HO (Fy ρ)
def GH:â:=⟨[ag,ag],[.bool],fun(x:Val (.pair ag ag))=>rB x.1 x.2⟩
def Fw:Æ:=Ls 0 [ag,ag] [tI] ⟨29,[.con ag,.con ag,.any,.any,.any,.var tI],[]⟩ [(.ret,⟨29,[.con ag,.con ag,.any,.any,.var .bool],[]⟩,[.bool]),(.exit 0,⟨29,[.con ag,.con ag],[]⟩,[])]
def s8 (ρ:Type):à ρ:=⟨[],26,0,Fw,fun(p:Val (.pair ag ag)) (v:Val tI) b a=>kF p.1 p.2 v (fun c=>b c) (a 0) (a 1)⟩
def J8:List (Nat×â):=[(35,oa)]
def HM (ρ:Type):List (à ρ):=[s8 ρ]
def rO (ρ:Type):Env ρ:=æ J8 (HM ρ)
def wx:â:=⟨[Â,tI,tI],[tI],fun(x:Val aZ)=>pG x.1 x.2.1 x.2.2⟩
def zL:Æ:=Ls 2 [ae,tI,tI,tI,ae,aa,af,ac,aa,ai,tI] [tI] ⟨19,.con ae::.fn 169 [(1,0)]::aN 5 [.con tI,.var tI],[bw,bu]⟩ [(.ret,⟨19,[.con ae,.fn 169 [(1,0)],.any,.any,.var tI,.any,.any,.con tI],[bw,bu]⟩,[tI]),(.exit 0,⟨19,.con ae::.fn 169 [(1,0)]::aN 5 [.con tI],[bw,bu]⟩,[])]
def zK (ρ:Type):à ρ:=⟨[3,4,1,2],229,0,zL,fun(p:Val (tyL zL.cs)) (v:Val tI) b a=>qA p.1 p.2.1 p.2.2.2.2.2.2.2.2.2.2 v (fun c=>b c) (a 0) (a 1)⟩
def TL:List (Nat×â):=[]
def P6 (ρ:Type):List (à ρ):=[zK ρ]
def Bh (ρ:Type):Env ρ:=æ TL (P6 ρ)
def Ou:â:=⟨[ab,ab],[ab,ab,tI],fun(x:Val (.pair ab ab))=>oO x.1 x.2⟩
def Rm:List (Nat×â):=[(148,Cp),(172,EY)]
def NQ (ρ:Type):List (à ρ):=[]
def G5 (ρ:Type):Env ρ:=æ Rm (NQ ρ)
def Cj:â:=⟨[Â,tI],[.bool,tI],fun(x:Val (.pair Â tI))=>ou x.1 x.2⟩
def qI:Æ:=Ls 6 [tI,tI,tI,ae,aa,af,ac,aa,ai,tI,tI,tI,ae,aa,af,ac,aa,ai,tI,tI,ac] [tI] ⟨19,.own 5::.fn 171 [(3,0)]::aN 5 [.con tI,.var tI],cm⟩ [(.ret,⟨19,[.own 5,.fn 171 [(3,0)],.any,.any,.var tI,.any,.any,.con tI],cm⟩,[tI]),(.exit 0,⟨19,.own 5::.fn 171 [(3,0)]::aN 5 [.con tI],cm⟩,[])]
def qH (ρ:Type):à ρ:=⟨[7,2,1,5,1,2],175,0,qI,fun(p:Val (tyL qI.cs)) (v:Val tI) b a=>jI p.1 p.2.2.2.2.2.2.2.2.2.1 p.2.2.2.2.2.2.2.2.2.2.2.2.2.2.2.2.2.2.2.2 v (fun c=>b c) (a 0) (a 1)⟩
def qG:Æ:=Ls 6 [tI,tI,ae,aa,af,ac,aa,ai,tI,tI,tI,ae,aa,af,ac,aa,ai,tI,tI] [tI,tI,ac] ⟨42,[.own 5,.fn 171 [(3,0)],.any,.any,.any,.var tI,.var tI],[bw,bu,bw,bQ,bR,.rowv Ö]⟩ [(.exit 0,⟨42,[.own 5,.fn 171 [(3,0)],.any,.any,.any,.var tI],[bw,bu,bw,bQ,bR,.rowv Ö]⟩,[tI,ac])]
def qF (ρ:Type):à ρ:=⟨[7,2,1,5],151,0,qG,fun(p:Val (tyL qG.cs)) (v:Val (.pair tI aU)) a b=>Ÿ p.2.2.2.2.2.2.2.2.1 v.1 v.2.1 v.2.2 (fun c d e=>a (c,d,e)) (b 0)⟩
def HG:List (Nat×â):=[(80,iD),(82,nZ),(88,wx),(91,Ou),(92,Ř)]
def Fo (ρ:Type):List (à ρ):=[qH ρ,qF ρ]
def ks (ρ:Type):Env ρ:=æ HG (Fo ρ)
def PI:â:=⟨[Â,ab],[Â],fun(x:Val (.pair Â ab))=>yC x.1 x.2⟩
def CH:Æ:=Ls 7 [tI,tI,tI,ae,aa,af,ac,aa,ai,ab,tI,tI,tI,tI,ae,aa,af,ac,aa,ai,tI,tI,ac] [tI] ⟨19,.own 6::.fn 171 [(4,0)]::aN 5 [.con tI,.var tI],cn⟩ [(.ret,⟨19,[.own 6,.fn 171 [(4,0)],.any,.any,.var tI,.any,.any,.con tI],cn⟩,[tI]),(.exit 0,⟨19,.own 6::.fn 171 [(4,0)]::aN 5 [.con tI],cn⟩,[])]
def CG (ρ:Type):à ρ:=⟨[1,2,1,5,1,2],175,0,CH,fun(p:Val (tyL CH.cs)) (v:Val tI) b a=>t8 p.1 p.2.2.2.2.2.2.2.2.2.1 p.2.2.2.2.2.2.2.2.2.2.2.2.2.2.2.2.2.2.2.2.2.2 v (fun c=>b c) (a 0) (a 1)⟩
def CF:Æ:=Ls 7 [tI,tI,ae,aa,af,ac,aa,ai,ab,tI,tI,tI,tI,ae,aa,af,ac,aa,ai,tI,tI] [tI,tI,ac] ⟨42,[.own 6,.fn 171 [(4,0)],.any,.any,.any,.var tI,.var tI],[bw,bp,bR,bw,bS,bR,.rowv Ö]⟩ [(.exit 0,⟨42,[.own 6,.fn 171 [(4,0)],.any,.any,.any,.var tI],[bw,bp,bR,bw,bS,bR,.rowv Ö]⟩,[tI,ac])]
def CE (ρ:Type):à ρ:=⟨[1,2,1,5],151,0,CF,fun(p:Val (tyL CF.cs)) (v:Val (.pair tI aU)) a b=>lO p.2.2.2.2.2.2.2.2.1 v.1 v.2.1 v.2.2 (fun c d e=>a (c,d,e)) (b 0)⟩
def Wt:List (Nat×â):=[(92,Ř)]
def TJ (ρ:Type):List (à ρ):=[CG ρ,CE ρ]
def ym (ρ:Type):Env ρ:=æ Wt (TJ ρ)
def Ys:â:=⟨[Â],[ab,tI],fun(x:Val Â)=>IC x⟩
def Qr:Æ:=Ls 0 [ac,tI,tI,tI,ae,aa,af,ac,aa,ai] [tI,ab] ⟨66,.any::.box 0 0::aN 5 (.own 1::aN 19 [.con ac,.con tI,.var tI]),[bw,.rowv tI]⟩ [(.exit 0,⟨66,.any::.box 0 0::aN 5 (.own 1::aN 19 [.con ac,.con tI]),[bw,.rowv tI]⟩,[ab])]
def C0 (ρ:Type):à ρ:=⟨[],29,0,Qr,fun(p:Val (.pair ac aD)) (v:Val ŋ) a b=>uj p.1 p.2.1 v.1 v.2 (fun c d=>a (c,d)) (b 0)⟩
def Qq:Æ:=Ls 0 [tI,tI,ae,aa,af,ac,aa,ai] [ab,tI] ⟨66,.any::.box 0 0::aN 5 [.var ab,.any,.any,.var tI],[bw]⟩ [(.exit 2,⟨66,.any::.box 0 0::aN 5 [.var ab],[bw]⟩,[ab])]
def CZ (ρ:Type):à ρ:=⟨[],29,2,Qq,fun(p:Val ah) (v:Val ay) a b=>let A:=p.2.2.2.2;pd p.1 p.2.1 p.2.2.1 p.2.2.2.1 A.1 A.2.1 A.2.2.1 A.2.2.2 v.1 v.2 (fun c d=>a (c,d)) (b 0)⟩
def WB:List (Nat×â):=[(80,iD),(82,nZ),(87,PI),(93,iw)]
def TX (ρ:Type):List (à ρ):=[C0 ρ,CZ ρ]
def yn (ρ:Type):Env ρ:=æ WB (TX ρ)
def Om:â:=⟨[ab,tI],[ab],fun(x:Val ay)=>ij x.1 x.2⟩
def JT:Æ:=Ls 0 [tI,ab,tI] [tI,ab] ⟨26,[.any,.con tI,.any,.any,.any,.own 0,.any,.any,.con ab,.con tI,.var tI],bX⟩ [(.exit 0,⟨26,[.any,.con tI,.any,.any,.any,.own 0,.any,.any,.con ab,.con tI],bX⟩,[ab])]
def wX (ρ:Type):à ρ:=⟨[],98,0,JT,fun(p:Val (.pair tI ay)) (v:Val ŋ) a b=>oh p.1 p.2.1 p.2.2 v.1 v.2 (fun c d=>a (c,d)) (b 0)⟩
def Qc:List (Nat×â):=[]
def MW (ρ:Type):List (à ρ):=[wX ρ]
def wY (ρ:Type):Env ρ:=æ Qc (MW ρ)
def GG:â:=⟨[Â,ab],[ab,tI],fun(x:Val (.pair Â ab))=>rA x.1 x.2⟩
def sM:Æ:=Ls 3 [ac,tI,tI,tI,ae,aa,af,ac,aa,ai,ab,tI] [tI] ⟨19,.con ac::.fn 95 [(2,0)]::aN 5 [.con tI,.var tI],[bw,bp,bu]⟩ [(.ret,⟨19,[.con ac,.fn 95 [(2,0)],.any,.any,.var tI,.any,.any,.con tI],[bw,bp,bu]⟩,[tI]),(.exit 0,⟨19,.con ac::.fn 95 [(2,0)]::aN 5 [.con tI],[bw,bp,bu]⟩,[])]
def sL (ρ:Type):à ρ:=⟨[9,4,1,2],175,0,sM,fun(p:Val (tyL sM.cs)) (v:Val tI) b a=>ku p.1 p.2.1 p.2.2.2.2.2.2.2.2.2.2.2 v (fun c=>b c) (a 0) (a 1)⟩
def sO:Æ:=Ls 0 [ab,tI,tI,tI,ae,aa,af,ac,aa,ai,ab] [tI] ⟨135,aN 2 (.box 0 0::.box 1 0::aN 28 [.con ab,.con tI,.var tI]),[bw,bp]⟩ [(.ret,⟨135,aN 2 (.box 0 0::.box 1 0::.nils::.var tI::aN 26 [.con ab,.con tI]),[bw,bp]⟩,[tI]),(.exit 0,⟨135,aN 2 (.box 0 0::.box 1 0::aN 28 [.con ab,.con tI]),[bw,bp]⟩,[])]
def sN (ρ:Type):à ρ:=⟨[],30,0,sO,fun(p:Val (tyL sO.cs)) (v:Val tI) b a=>ε p.1 p.2.1 p.2.2.2.2.2.2.2.1 v (fun c=>b c) (a 0) (a 1)⟩
def sK:Æ:=Ls 0 [tI,tI,ae,aa,af,ac,aa,ai,ab] [tI] ⟨135,aN 2 (.box 0 0::.box 1 0::aN 5 [.var tI]),[bw,bp]⟩ [(.ret,⟨135,[.any,.any,.box 0 0,.box 1 0,.nils,.var tI],[bw,bp]⟩,[tI]),(.exit 2,⟨135,[.any,.any,.box 0 0,.box 1 0],[bw,bp]⟩,[])]
def sJ (ρ:Type):à ρ:=⟨[],30,2,sK,fun(p:Val (tyL sK.cs)) (v:Val tI) b a=>iG p.2.2.2.2.2.2.2.2 v (fun c=>b c) (a 0) (a 1)⟩
def sI:Æ:=Ls 4 [aj,tI,tI,tI,ae,aa,af,ac,aa,ai,ab,tI] [tI] ⟨21,.any::.fn 100 [(3,0),(2,0)]::aN 7 [.con aj,.con tI,.var tI],[bw,bp,bu,bT]⟩ [(.ret,⟨21,[.any,.fn 100 [(3,0),(2,0)],.any,.any,.var ag,.var .bool,.any,.any,.any,.con aj,.con tI],[bw,bp,bu,bT]⟩,[ag,.bool]),(.exit 0,⟨21,.any::.fn 100 [(3,0),(2,0)]::aN 7 [.con aj,.con tI],[bw,bp,bu,bT]⟩,[])]
def sH (ρ:Type):à ρ:=⟨[21,2],99,0,sI,fun(p:Val (tyL sI.cs)) (v:Val tI) b a=>let A:=p.2.2.2.2;let B:=A.2.2.2.2;iF p.1 p.2.1 p.2.2.1 p.2.2.2.1 A.1 A.2.1 A.2.2.1 A.2.2.2.1 B.1 B.2.1 B.2.2.1 B.2.2.2 v (fun c=>b c) (a 0) (a 1)⟩
def sE:Æ:=Ls 4 [ab,ab,ab,tI,ab,ab,tI,tI,ae,aa,af,ac,aa,ai] [tI] ⟨36,.con ab::.con ab::aN 7 [.con ab,.con tI,.var tI],cp⟩ [(.ret,⟨36,.con ab::.con ab::aN 2 (.var tI::aN 4 [.con ab,.con tI]),cp⟩,[tI]),(.exit 0,⟨36,.con ab::.con ab::aN 7 [.con ab,.con tI],cp⟩,[])]
def sw (ρ:Type):à ρ:=⟨[29,14],101,0,sE,fun(p:Val (tyL sE.cs)) (v:Val tI) b a=>Ŭ p.2.1 p.2.2.1 p.2.2.2.1 v (fun c=>b c) (a 0) (a 1)⟩
def sv:Æ:=Ls 0 [aj,ab,tI,tI,ab,tI,tI,tI,ab,ab,tI,tI,ae,aa,af,ac,aa,ai] [tI] ⟨135,aN 3 (.box 0 0::aN 6 (.con aj::.any::.box 1 0::.own 2::aN 2 (.con ab::.con tI::.con tI::.con ab::aN 57 (.con tI::.con tI::aN 23 [.own 2,.con tI,.var tI])))),cp⟩ [(.exit 5,⟨135,aN 3 (.box 0 0::aN 6 (.con aj::.any::.box 1 0::.own 2::aN 2 (.con ab::.con tI::.con tI::.con ab::aN 57 (.con tI::.con tI::aN 23 [.own 2,.con tI])))),cp⟩,[]),(.exit 6,⟨135,aN 3 (.box 0 0::aN 6 (.con aj::.any::.box 1 0::.own 2::aN 2 (.con ab::.con tI::.con tI::.con ab::aN 57 (.con tI::.con tI::aN 23 [.own 2,.con tI])))),cp⟩,[])]
def su (ρ:Type):à ρ:=⟨[],30,6,sv,fun(p:Val (tyL sv.cs)) (v:Val tI) b a=>Ŏ p.2.2.2.1 p.2.2.2.2.2.2.2.1 p.2.2.2.2.2.2.2.2.2.1 v (fun c=>b c) (a 0) (a 1)⟩
def sr:Æ:=Ls 0 [aj,ab,tI,tI,ab,tI,tI,aj,tI,ab,tI,tI,ae,aa,af,ac,aa,ai] [tI,ab] ⟨135,aN 3 (.box 0 0::aN 6 (.con aj::.any::.box 1 0::.own 2::aN 2 (.con ab::.con tI::.con tI::.con ab::aN 57 (.con tI::.con tI::aN 34 [.con aj,.con tI,.var tI])))),cq⟩ [(.exit 5,⟨135,aN 3 (.box 0 0::aN 6 (.con aj::.any::.box 1 0::.own 2::aN 2 (.con ab::.con tI::.con tI::.con ab::aN 57 (.con tI::.con tI::aN 34 [.con aj,.con tI])))),cq⟩,[ab]),(.exit 8,⟨135,aN 3 (.box 0 0::aN 6 (.con aj::.any::.box 1 0::.own 2::aN 2 (.con ab::.con tI::.con tI::.con ab::aN 57 (.con tI::.con tI::aN 34 [.con aj,.con tI])))),cq⟩,[ab])]
def sq (ρ:Type):à ρ:=⟨[],30,8,sr,fun(p:Val (tyL sr.cs)) (v:Val ŋ) b a=>let A:=p.2.2.2.2.2.2.2;let B:=A.2.2.2.2;let C:=B.2.2.2.2;ō p.2.2.2.1 A.1 A.2.1 A.2.2.1 A.2.2.2.1 B.1 B.2.1 B.2.2.1 B.2.2.2.1 C.1 C.2.1 C.2.2 v.1 v.2 (fun c d=>b (c,d)) (a 0) (a 1)⟩
def sG:Æ:=Ls 0 [aj,tI,ab,tI,tI,ae,aa,af,ac,aa,ai] [ab,tI,tI,ab] ⟨135,aN 3 (.box 0 0::aN 6 (.con aj::.any::.box 1 0::.own 2::aN 2 (.var ab::.var tI::aN 59 [.con tI,.var tI]))),cq⟩ [(.exit 4,⟨135,aN 3 (.box 0 0::aN 6 (.con aj::.any::.box 1 0::.own 2::aN 3 (.var tI::aN 59 [.con tI]))),cq⟩,[tI,ab])]
def sF (ρ:Type):à ρ:=⟨[],30,4,sG,fun(p:Val (tyL sG.cs)) (v:Val (.pair ab aQ)) a b=>let A:=p.2.2.2.2;let B:=A.2.2.2.2;ŭ p.1 p.2.1 p.2.2.1 p.2.2.2.1 A.1 A.2.1 A.2.2.1 A.2.2.2.1 B.1 B.2.1 B.2.2 v.1 v.2.1 v.2.2.1 v.2.2.2 (fun c d e f=>a (c,d,e,f)) (b 0)⟩
def JY:List (Nat×â):=[(79,qg),(80,iD),(87,PI),(96,yj),(98,Om),(180,lK)]
def HI (ρ:Type):List (à ρ):=[sL ρ,sN ρ,sJ ρ,sH ρ,sw ρ,su ρ,sq ρ,sF ρ]
def Ĵ (ρ:Type):Env ρ:=æ JY (HI ρ)
def PK:â:=⟨[Â],[aj,tI],fun(x:Val Â)=>Ef x⟩
def Wz:List (Nat×â):=[(80,iD),(96,yj)]
def TS (ρ:Type):List (à ρ):=[]
def OE (ρ:Type):Env ρ:=æ Wz (TS ρ)
def Tq:â:=⟨[É,Ä],[tI,tI],fun(x:Val aK)=>pL x.1 x.2⟩
def UF:List (Nat×â):=[(72,sj),(135,Ũ),(136,Co)]
def Rk (ρ:Type):List (à ρ):=[]
def K5 (ρ:Type):Env ρ:=æ UF (Rk ρ)
def Yy:â:=⟨[É,Ä],[É,tI],fun(x:Val aK)=>IH x.1 x.2⟩
def DP:Æ:=Ls 6 [tI,tI,tI,ae,aa,af,ac,aa,tI,tI,tI,tI,tI,tI,ae,aa,af,ac,aa,tI,tI,tI,tI,ac,tI,tI,ae,aa,af,aa] [tI,ac] ⟨50,.any::.box 6 0::.box 7 0::.own 8::aN 21 [.own 8,.con tI,.var tI],cr⟩ [(.exit 0,⟨50,.any::.box 6 0::.box 7 0::.own 8::aN 21 [.own 8,.con tI],cr⟩,[ac])]
def DN (ρ:Type):à ρ:=⟨[1,2,4,1],202,0,DP,fun(p:Val (tyL DP.cs)) (v:Val aU) a b=>uU p.1 v.1 v.2 (fun c d=>a (c,d)) (b 0)⟩
def Xa:List (Nat×â):=[(72,sj)]
def UD (ρ:Type):List (à ρ):=[DN ρ]
def FX (ρ:Type):Env ρ:=æ Xa (UD ρ)
def Ti:â:=⟨[Í,ab],[tI],fun(x:Val bm)=>Ej x.1 x.2⟩
def Nj:Æ:=Ls 0 [ab,tI,tI,ak] [tI] ⟨37,aN 2 (.box 0 0::aN 16 [.con ab,.con tI,.var tI]),[bL]⟩ [(.ret,⟨37,aN 2 (.box 0 0::.any::.var tI::aN 14 [.con ab,.con tI]),[bL]⟩,[tI]),(.exit 0,⟨37,aN 2 (.box 0 0::aN 16 [.con ab,.con tI]),[bL]⟩,[])]
def Ae (ρ:Type):à ρ:=⟨[],133,0,Nj,fun(p:Val (.pair ab aS)) (v:Val tI) b a=>qS p.1 p.2.1 p.2.2.1 p.2.2.2 v (fun c=>b c) (a 0) (a 1)⟩
def T6:List (Nat×â):=[(126,wz),(127,qi),(196,PL)]
def QC (ρ:Type):List (à ρ):=[Ae ρ]
def Bs (ρ:Type):Env ρ:=æ T6 (QC ρ)
def Oq:â:=⟨[Í,ao,tI],[ab],fun(x:Val (.pair Í (.pair ao tI)))=>tE x.1 x.2.1 x.2.2⟩
def xv:Æ:=Ls 0 [ao,tI,tI,tI,ak] [tI,ab] ⟨29,.any::.con ao::.con tI::.box 0 0::aN 3 (.own 1::aN 5 [.con tI,.var tI]),[bL,.rowv tI]⟩ [(.exit 0,⟨29,.any::.con ao::.con tI::.box 0 0::aN 3 (.own 1::aN 5 [.con tI]),[bL,.rowv tI]⟩,[ab])]
def xu (ρ:Type):à ρ:=⟨[],134,0,xv,fun(p:Val (tyL xv.cs)) (v:Val ŋ) a b=>ol p.2.2.1 v.1 v.2 (fun c d=>a (c,d)) (b 0)⟩
def xr:Æ:=Ls 2 [ao,ak,tI,tI,ak,ab,tI,ak,aq,ab] [tI,tI] ⟨140,.any::.con ao::.own 1::.box 2 0::aN 3 (.box 3 0::.own 4::.own 5::.var tI::aN 14 [.con ak,.con tI,.var tI]),[bL,.rowc tI,bL,.cells [.nils],.rowc .bool,.rowc tI]⟩ [(.exit 0,⟨140,.any::.con ao::.own 1::.box 2 0::aN 3 (.box 3 0::.own 4::.own 5::.var tI::aN 14 [.con ak,.con tI]),[bL,.rowc tI,bL,.cells [.nils],.rowc .bool,.rowc tI]⟩,[tI])]
def xq (ρ:Type):à ρ:=⟨[8,3],197,0,xr,fun(p:Val (tyL xr.cs)) (v:Val Ä) a b=>uD p.2.1 p.2.2.1 v.1 v.2 (fun c d=>a (c,d)) (b 0)⟩
def xp:Æ:=Ls 2 [ao,tI,tI,tI,ak,ab,tI,ak,ab] [tI,aq,ab] ⟨140,.any::.con ao::.own 1::.box 2 0::aN 3 (.box 3 0::.own 4::.own 5::.con tI::aN 27 [.con tI,.var tI]),cd⟩ [(.exit 2,⟨140,.any::.con ao::.own 1::.box 2 0::aN 3 (.box 3 0::.own 4::.own 5::.con tI::aN 27 [.con tI]),cd⟩,[aq,ab])]
def xo (ρ:Type):à ρ:=⟨[8,3],197,2,xp,fun(p:Val (tyL xp.cs)) (v:Val (.pair tI aL)) a b=>uC p.2.2.1 p.2.2.2.2.2.1 v.1 v.2.1 v.2.2 (fun c d e=>a (c,d,e)) (b 0)⟩
def xm:Æ:=Ls 2 [ao,tI,tI,ak,tI,tI,ak,tI,ak,ab] [tI,ab,aq,ab] ⟨140,.any::.con ao::.own 1::.box 2 0::aN 3 (.box 3 0::.own 4::.own 5::.con tI::aN 3 (.con tI::aN 62 [.con ak,.con tI,.var tI])),ce⟩ [(.ret,⟨140,.any::.con ao::.own 1::.box 2 0::aN 2 (.var .bool::.box 3 0::.own 4::.own 5::.con tI::aN 3 (.con tI::aN 62 [.con ak,.con tI])),ce⟩,[.bool,ab,aq,ab]),(.exit 6,⟨140,.any::.con ao::.own 1::.box 2 0::aN 3 (.box 3 0::.own 4::.own 5::.con tI::aN 3 (.con tI::aN 62 [.con ak,.con tI])),ce⟩,[ab,aq,ab])]
def xl (ρ:Type):à ρ:=⟨[8,3],197,6,xm,fun(p:Val (tyL xm.cs)) (v:Val (.pair tI (.pair ab aL))) b a=>Df p.1 p.2.1 p.2.2.1 p.2.2.2.1 p.2.2.2.2.1 v.1 v.2.1 v.2.2.1 v.2.2.2 (fun c d e f=>b (c,d,e,f)) (a 0) (a 1)⟩
def Kj:Æ:=Ls 2 [ao,tI,tI,ak,tI,ak] [ab,aq,ab,ab] ⟨140,[.any,.con ao,.own 1,.box 2 0,.any,.any,.any,.box 3 0,.own 4,.own 5,.con tI],cf⟩ [(.ret,⟨140,[.any,.con ao,.own 1,.box 2 0,.any,.any,.var .bool,.box 3 0,.own 4,.own 5,.con tI],cf⟩,[.bool,ab,aq,ab,ab])]
def xn (ρ:Type):à ρ:=⟨[8,3],197,4,Kj,fun(p:Val (.pair ao bo)) (v:Val aM) a b=>uB p.1 p.2.1 p.2.2.2.2.1 p.2.2.2.2.2 v.1 v.2.1 v.2.2.1 v.2.2.2 (fun c d e f=>a (c,d,e,f)) (b 0)⟩
def QB:List (Nat×â):=[]
def Nh (ρ:Type):List (à ρ):=[xu ρ,xq ρ,xo ρ,xl ρ,xn ρ]
def iM (ρ:Type):Env ρ:=æ QB (Nh ρ)
def Tj:â:=⟨[Í],[aa,tI],fun(x:Val Í)=>tF x⟩
def Nl:Æ:=Ls 1 [ab,tI,tI,ak,tI,ak] [tI,ab] ⟨28,.any::.box 1 0::aN 2 (.con ab::.own 2::aN 7 [.con tI,.var tI]),[bL,bL,.rowv tI]⟩ [(.exit 0,⟨28,.any::.box 1 0::aN 2 (.con ab::.own 2::aN 7 [.con tI]),[bL,bL,.rowv tI]⟩,[ab])]
def Ag (ρ:Type):à ρ:=⟨[4,1],237,0,Nl,fun(p:Val (.pair ab bo)) (v:Val ŋ) a b=>qU p.2.1 p.2.2.2.2.1 p.2.2.2.2.2 v.1 v.2 (fun c d=>a (c,d)) (b 0)⟩
def Nk:Æ:=Ls 0 [ab,tI,ab] [tI,aa] ⟨39,aN 5 (.con ab::.own 0::.own 1::aN 12 [.con tI,.var tI]),[.rowc tI,.rowv Ä]⟩ [(.exit 0,⟨39,aN 5 (.con ab::.own 0::.own 1::aN 12 [.con tI]),[.rowc tI,.rowv Ä]⟩,[aa])]
def Af (ρ:Type):à ρ:=⟨[],185,0,Nk,fun(p:Val aX) (v:Val ba) a b=>qT p.1 p.2.1 p.2.2 v.1 v.2 (fun c d=>a (c,d)) (b 0)⟩
def T7:List (Nat×â):=[(133,Ti),(134,Oq)]
def QE (ρ:Type):List (à ρ):=[Ag ρ,Af ρ]
def uE (ρ:Type):Env ρ:=æ T7 (QE ρ)
def Ol:â:=⟨[É,Ä],[Ä,tI],fun(x:Val aK)=>yD x.1 x.2⟩
def P5:List (Nat×â):=[(66,si),(68,Tq),(69,Yy),(185,Tj)]
def MK (ρ:Type):List (à ρ):=[]
def GP (ρ:Type):Env ρ:=æ P5 (MK ρ)
def Oo:â:=⟨[Â,tI,tI],[ak,tI],fun(x:Val aZ)=>yF x.1 x.2.1 x.2.2⟩
def xe:Æ:=Ls 0 [tI,tI,aj,tI,tI,tI,ae,aa,af,ac,aa,ai] [tI,aR] ⟨113,.any::.con tI::.con tI::.box 0 0::aN 7 (.omp 1::aN 30 [.con aj,.con tI,.var tI]),[bw,.mapv tI Ä]⟩ [(.ret,⟨113,.any::.con tI::.con tI::.box 0 0::aN 2 (.nils::.var tI::aN 3 (.omp 1::aN 30 [.con aj,.con tI])),[bw,.mapv tI Ä]⟩,[tI,aR]),(.exit 0,⟨113,.any::.con tI::.con tI::.box 0 0::aN 7 (.omp 1::aN 30 [.con aj,.con tI]),[bw,.mapv tI Ä]⟩,[aR])]
def xd (ρ:Type):à ρ:=⟨[],42,0,xe,fun(p:Val (tyL xe.cs)) (v:Val (.pair tI aR)) b a=>let A:=p.2.2.2.2;let B:=A.2.2.2.2;oj p.1 p.2.1 p.2.2.1 p.2.2.2.1 A.1 A.2.1 A.2.2.1 A.2.2.2.1 B.1 B.2.1 B.2.2.1 B.2.2.2 v.1 v.2 (fun c d=>b (c,d)) (a 0) (a 1)⟩
def xc:Æ:=Ls 0 [ae,tI,aR] [tI,ak] ⟨113,aN 11 (.omp 0::aN 7 (.own 1::aN 70 [.con ae,.con tI,.var tI])),[.mapc tI Ä,.rowv Ō]⟩ [(.exit 2,⟨113,aN 11 (.omp 0::aN 7 (.own 1::aN 70 [.con ae,.con tI])),[.mapc tI Ä,.rowv Ō]⟩,[ak])]
def xb (ρ:Type):à ρ:=⟨[],42,2,xc,fun(p:Val (tyL xc.cs)) (v:Val Í) a b=>oi p.1 p.2.1 p.2.2 v.1 v.2 (fun c d=>a (c,d)) (b 0)⟩
def Qp:List (Nat×â):=[(80,iD),(81,PJ),(88,wx),(104,iU),(105,EV),(106,Ol)]
def M4 (ρ:Type):List (à ρ):=[xd ρ,xb ρ]
def qK (ρ:Type):Env ρ:=æ Qp (M4 ρ)
def Ta:â:=⟨[Â,ag],[.bool],fun(x:Val aG)=>Eb x.1 x.2⟩
def jp:Tpl:=⟨13,[.any,.any,.box 2 0],[.cells [.con tI,.con tI,.con ae,.con aa,.con af,.con ac,.con aa,.con ai],.dead,.cells [.own 3],.rowv tI]⟩
def mn (ρ:Type):EH ρ:=⟨[7,8,1,1,1,1],298,0,3,[tI,tI,ae,aa,af,ac,aa,ai],[ab],jp,DW,fun(p:Val ah) (v:Val ab) y a=>wR v y (fun b=>a b)⟩
def MM:Æ:=Ls 0 [ag,tI,tI,tI,ae,aa,af,ac,aa,ai] [tI] ⟨42,aN 2 (.box 0 0::aN 11 [.con ag,.con tI,.var tI]),[bw]⟩ [(.ret,⟨42,aN 2 (.box 0 0::.any::.var .bool::aN 9 [.con ag,.con tI]),[bw]⟩,[.bool]),(.exit 0,⟨42,aN 2 (.box 0 0::aN 11 [.con ag,.con tI]),[bw]⟩,[])]
def zM (ρ:Type):à ρ:=⟨[],154,0,MM,fun(p:Val (.pair ag aD)) (v:Val tI) b a=>qB p.1 p.2.1 p.2.2.2.2.2.2.2.2.2 v (fun c=>b c) (a 0) (a 1)⟩
def GQ (ρ:Type):List (EH ρ):=[mn ρ]
def TM:List (Nat×â):=[(220,S9)]
def CI (ρ:Type):List (à ρ):=[zM ρ]
def Ζ (ρ:Type):Env ρ:={æ TM (CI ρ) with ranges:=Ż (GQ ρ)}
def wy:â:=⟨[Â,ag],[tI],fun(x:Val aG)=>pH x.1 x.2⟩
def TQ:List (Nat×â):=[(80,iD),(154,Ta)]
def Qf (ρ:Type):List (à ρ):=[]
def JW (ρ:Type):Env ρ:=æ TQ (Qf ρ)
def Wc:â:=⟨[Â,ag,tI,tI],[tI,tI],fun(x:Val aP)=>mc x.1 x.2.1 x.2.2.1 x.2.2.2⟩
def aaa:List (Nat×â):=[(78,wy),(88,wx),(105,EV)]
def Ww (ρ:Type):List (à ρ):=[]
def TR (ρ:Type):Env ρ:=æ aaa (Ww ρ)
def Th:â:=⟨[Í,tI,tI],[ag],fun(x:Val (.pair Í Ä))=>Ei x.1 x.2.1 x.2.2⟩
def OP:Æ:=Ls 0 [tI,tI,tI,tI,ak] [tI,ab] ⟨45,.any::.con tI::.con tI::.box 0 0::aN 3 (.own 1::aN 7 [.con tI,.var tI]),[bL,.rowv tI]⟩ [(.exit 0,⟨45,.any::.con tI::.con tI::.box 0 0::aN 3 (.own 1::aN 7 [.con tI]),[bL,.rowv tI]⟩,[ab])]
def OO (ρ:Type):à ρ:=⟨[],128,0,OP,fun(p:Val (tyL OP.cs)) (v:Val ŋ) a b=>yo p.2.2.1 v.1 v.2 (fun c d=>a (c,d)) (b 0)⟩
def OK:Æ:=Ls 4 [ab,tI,ag,tI,ak] [tI,ab] ⟨53,.con ab::.box 1 0::aN 2 (.own 4::aN 7 [.con tI,.var tI]),cu⟩ [(.exit 0,⟨53,.con ab::.box 1 0::aN 2 (.own 4::aN 7 [.con tI]),cu⟩,[ab])]
def OJ (ρ:Type):à ρ:=⟨[12,8],198,0,OK,fun(p:Val (tyL OK.cs)) (v:Val ŋ) a b=>QA p.2.1 v.1 v.2 (fun c d=>a (c,d)) (b 0)⟩
def OI:Æ:=Ls 4 [ab,ak,tI,ag,tI,ak] [tI,ab] ⟨53,.con ab::aN 3 (.own 4::aN 16 [.con ak,.con tI,.var tI]),cu⟩ [(.exit 2,⟨53,.con ab::aN 3 (.own 4::aN 16 [.con ak,.con tI]),cu⟩,[ab])]
def OH (ρ:Type):à ρ:=⟨[12,8],198,2,OI,fun(p:Val (tyL OI.cs)) (v:Val ŋ) a b=>De p.1 p.2.1 p.2.2.1 v.1 v.2 (fun c d=>a (c,d)) (b 0)⟩
def aac:Æ:=Ls 0 [tI,tI,ak] [tI,ag] ⟨45,aN 9 (.own 0::.fn 198 [(1,0)]::aN 18 [.con tI,.var tI]),[.rowv ab,bL]⟩ [(.exit 2,⟨45,aN 9 (.own 0::.fn 198 [(1,0)]::aN 18 [.con tI]),[.rowv ab,bL]⟩,[ag])]
def OM (ρ:Type):à ρ:=⟨[],128,2,aac,fun(p:Val aS) (v:Val bf) a b=>Iq p.1 p.2.1 p.2.2 v.1 v.2 (fun c d=>a (c,d)) (b 0)⟩
def aeM:List (Nat×â):=[]
def ab9 (ρ:Type):List (à ρ):=[OO ρ,OJ ρ,OH ρ,OM ρ]
def FE (ρ:Type):Env ρ:=æ aeM (ab9 ρ)
def Tk:â:=⟨[Í],[ab,tI],fun(x:Val Í)=>nl x⟩
def Nn:Æ:=Ls 0 [tI,tI,ak] [tI,aj] ⟨93,.any::.box 0 0::aN 6 (.own 1::aN 24 [.con tI,.var tI]),[bL,.rowv ag]⟩ [(.exit 0,⟨93,.any::.box 0 0::aN 6 (.own 1::aN 24 [.con tI]),[bL,.rowv ag]⟩,[aj])]
def Ar (ρ:Type):à ρ:=⟨[],64,0,Nn,fun(p:Val aS) (v:Val aB) a b=>mU p.1 p.2.1 p.2.2 v.1 v.2 (fun c d=>a (c,d)) (b 0)⟩
def Ai:Æ:=Ls 3 [tI,ag,ak,tI,tI,ak,aj,tI,tI,tI,tI,ak] [tI,tI,tI,ab] ⟨73,.any::.var tI::.con tI::.con ag::.fn 129 []::.box 3 0::aN 5 (.own 4::.var tI::aN 7 [.con ak,.con tI,.var tI]),cw⟩ [(.exit 2,⟨73,.any::.var tI::.con tI::.con ag::.fn 129 []::.box 3 0::aN 5 (.own 4::.var tI::aN 7 [.con ak,.con tI]),cw⟩,[tI,tI,ab])]
def Ah (ρ:Type):à ρ:=⟨[22,10],130,2,Ai,fun(p:Val (tyL Ai.cs)) (v:Val (.pair tI aQ)) a b=>GU p.1 p.2.1 p.2.2.1 p.2.2.2.1 v.1 v.2.1 v.2.2.1 v.2.2.2 (fun c d e f=>a (c,d,e,f)) (b 0)⟩
def Ak:Æ:=Ls 3 [ag,tI,ak,aj,tI,tI,tI,tI,ak] [tI,tI,tI,ab] ⟨73,.any::.var tI::.var tI::.con ag::.fn 129 []::.box 3 0::aN 5 [.own 4,.var tI],cw⟩ [(.exit 0,⟨73,aN 3 (.con ag::.fn 129 []::.box 3 0::aN 5 [.own 4]),cw⟩,[ab])]
def Aj (ρ:Type):à ρ:=⟨[22,10],130,0,Ak,fun(p:Val (tyL Ak.cs)) (v:Val (.pair tI aQ)) a b=>xw p.1 p.2.2.2.2.2.2.2.2 v.1 v.2.1 v.2.2.1 v.2.2.2 (fun c d e f=>a (c,d,e,f)) (b 0)⟩
def Ao:Æ:=Ls 0 [tI,ak,tI,tI,ak,aj] [tI] ⟨93,.any::.box 0 0::aN 6 (.own 1::.any::.fn 129 []::.con tI::aN 37 [.con ak,.con tI,.var tI]),[bL,.rowc ag]⟩ [(.exit 2,⟨93,.any::.box 0 0::aN 6 (.own 1::.any::.fn 129 []::.con tI::aN 37 [.con ak,.con tI]),[bL,.rowc ag]⟩,[]),(.ret,⟨93,.any::.box 0 0::.own 2::.var tI::aN 4 (.own 1::.any::.fn 129 []::.con tI::aN 37 [.con ak,.con tI]),[bL,.rowc ag,.rowv tI]⟩,[tI,ab]),(.exit 4,⟨93,.any::.box 0 0::aN 6 (.own 1::.any::.fn 129 []::.con tI::aN 37 [.con ak,.con tI]),[bL,.rowc ag]⟩,[])]
def Al (ρ:Type):à ρ:=⟨[],64,4,Ao,fun(p:Val (tyL Ao.cs)) (v:Val tI) b a=>mT p.1 p.2.1 p.2.2.1 p.2.2.2.1 p.2.2.2.2.1 p.2.2.2.2.2 v (fun c=>b c) (a 0) (a 1) (a 2)⟩
def Aq:Æ:=Ls 0 [tI,ak,aj] [tI] ⟨93,.any::.box 0 0::aN 6 [.own 1,.any,.fn 129 [],.var tI],[bL,.rowc ag]⟩ [(.exit 2,⟨93,.any::.box 0 0::aN 6 [.own 1,.any,.fn 129 []],[bL,.rowc ag]⟩,[]),(.ret,⟨93,.any::.box 0 0::.own 2::.var tI::aN 4 [.own 1,.any,.fn 129 []],[bL,.rowc ag,.rowv tI]⟩,[tI,ab])]
def Ap (ρ:Type):à ρ:=⟨[],64,2,Aq,fun(p:Val (tyL Aq.cs)) (v:Val tI) b a=>qV p.1 p.2.1 p.2.2 v (fun c=>b c) (a 0) (a 1)⟩
def T8:List (Nat×â):=[(126,wz),(127,qi),(128,Th)]
def QG (ρ:Type):List (à ρ):=[Ar ρ,Ah ρ,Aj ρ,Al ρ,Ap ρ]
def jR (ρ:Type):Env ρ:=æ T8 (QG ρ)
def Td:â:=⟨[Â],[ag,tI],fun(x:Val Â)=>Eg x⟩
def M3:Æ:=Ls 0 [aj,tI,tI,tI,ae,aa,af,ac,aa,ai] [tI,ag] ⟨46,.any::.box 0 0::aN 3 (.own 1::aN 13 [.con aj,.con tI,.var tI]),[bw,.rowv ab]⟩ [(.ret,⟨46,.any::.box 0 0::.nils::.var tI::.any::.own 1::aN 13 [.con aj,.con tI],[bw,.rowv ab]⟩,[tI,ag]),(.exit 0,⟨46,.any::.box 0 0::aN 3 (.own 1::aN 13 [.con aj,.con tI]),[bw,.rowv ab]⟩,[ag])]
def zX (ρ:Type):à ρ:=⟨[],59,0,M3,fun(p:Val (.pair aj aD)) (v:Val bf) b a=>let A:=p.2.2.2.2;qJ p.1 p.2.1 p.2.2.1 p.2.2.2.1 A.1 A.2.1 A.2.2.1 A.2.2.2.1 A.2.2.2.2.1 A.2.2.2.2.2 v.1 v.2 (fun c d=>b (c,d)) (a 0) (a 1)⟩
def TU:List (Nat×â):=[(64,Tk),(66,si),(80,iD),(96,yj),(104,iU)]
def Qj (ρ:Type):List (à ρ):=[zX ρ]
def Bn (ρ:Type):Env ρ:=æ TU (Qj ρ)
def Jc:â:=⟨[Í,ab],[tI],fun(x:Val bm)=>vh x.1 x.2⟩
def HS:Æ:=Ls 1 [ab,tI,tI,ak] [tI] ⟨19,.con ab::.fn 238 [(0,0)]::aN 5 [.con tI,.var tI],[bL]⟩ [(.ret,⟨19,[.con ab,.fn 238 [(0,0)],.any,.any,.var tI,.any,.any,.con tI],[bL]⟩,[tI]),(.exit 0,⟨19,.con ab::.fn 238 [(0,0)]::aN 5 [.con tI],[bL]⟩,[])]
def vE (ρ:Type):à ρ:=⟨[3,2,1,2],260,0,HS,fun(p:Val (.pair ab aS)) (v:Val tI) b a=>mo p.1 p.2.1 p.2.2.2 v (fun c=>b c) (a 0) (a 1)⟩
def Ng:List (Nat×â):=[]
def Kg (ρ:Type):List (à ρ):=[vE ρ]
def uA (ρ:Type):Env ρ:=æ Ng (Kg ρ)
def Yt:â:=⟨[Í,tI,ab],[tI,tI,.bool],fun(x:Val (.pair Í ŋ))=>IE x.1 x.2.1 x.2.2⟩
def Qx:Æ:=Ls 0 [ab,tI,tI,ak] [tI,tI,tI] ⟨37,.any::.var tI::.any::.box 0 0::aN 5 [.var tI,.any,.any,.any,.con ab,.con tI,.var tI],[bL]⟩ [(.ret,⟨37,aN 3 (.box 0 0::aN 2 (.var tI::.var tI::.var .bool::aN 4 [.con ab,.con tI])),[bL]⟩,[tI,tI,.bool]),(.exit 0,⟨37,.any::.var tI::.any::.box 0 0::aN 5 [.var tI,.any,.any,.any,.con ab,.con tI],[bL]⟩,[tI,tI])]
def C7 (ρ:Type):à ρ:=⟨[],189,0,Qx,fun(p:Val (.pair ab aS)) (v:Val Ō) b a=>uz p.1 p.2.1 p.2.2.2 v.1 v.2.1 v.2.2 (fun c d e=>b (c,d,e)) (a 0) (a 1)⟩
def WG:List (Nat×â):=[]
def T2 (ρ:Type):List (à ρ):=[C7 ρ]
def FA (ρ:Type):Env ρ:=æ WG (T2 ρ)
def zG:â:=⟨[Í,ab],[tI],fun(x:Val bm)=>mu x.1 x.2⟩
def FH:List (Nat×â):=[(126,wz),(188,Jc),(189,Yt)]
def Dj (ρ:Type):List (à ρ):=[]
def vG (ρ:Type):Env ρ:=æ FH (Dj ρ)
def zD:â:=⟨[Â,ag],[tI],fun(x:Val aG)=>ju x.1 x.2⟩
def pf:Æ:=Ls 0 [ag,aj,tI,tI,tI,ae,aa,af,ac,aa,ai] [tI] ⟨47,.any::.con ag::.box 0 0::aN 21 [.con aj,.con tI,.var tI],[bw]⟩ [(.ret,⟨47,.any::.con ag::.box 0 0::.any::.var tI::aN 19 [.con aj,.con tI],[bw]⟩,[tI]),(.exit 0,⟨47,.any::.con ag::.box 0 0::aN 21 [.con aj,.con tI],[bw]⟩,[])]
def pe (ρ:Type):à ρ:=⟨[],60,0,pf,fun(p:Val (tyL pf.cs)) (v:Val tI) b a=>let A:=p.2.2.2.2;let B:=A.2.2.2.2;iY p.1 p.2.1 p.2.2.1 p.2.2.2.1 A.1 A.2.1 A.2.2.1 A.2.2.2.1 B.1 B.2.1 B.2.2 v (fun c=>b c) (a 0) (a 1)⟩
def Fv:List (Nat×â):=[(66,si),(80,iD),(96,yj),(104,iU),(122,zG)]
def C1 (ρ:Type):List (à ρ):=[pe ρ]
def nu (ρ:Type):Env ρ:=æ Fv (C1 ρ)
def GF:â:=⟨[ac],[Â],fun(x:Val ac)=>Ť x⟩
def Jt:List (Nat×â):=[]
def Ht (ρ:Type):List (à ρ):=[]
def zJ (ρ:Type):Env ρ:=æ Jt (Ht ρ)
def Jb:â:=⟨[],[.bool],fun(_:Unit)=>mb⟩
def Mz:List (Nat×â):=[(19,abL),(20,Te),(26,GH),(28,Cj),(29,Ys),(30,GG),(35,oa),(40,PK),(42,Oo),(49,Wc),(59,Td),(60,zD),(77,GF)]
def Jr (ρ:Type):List (à ρ):=[]
def Cw (ρ:Type):Env ρ:=æ Mz (Jr ρ)
def Ck:â:=⟨[Â,ag],[É,tI],fun(x:Val aG)=>ov x.1 x.2⟩
def HH:List (Nat×â):=[(78,wy),(104,iU)]
def Fs (ρ:Type):List (à ρ):=[]
def wZ (ρ:Type):Env ρ:=æ HH (Fs ρ)
def On:â:=⟨[Â,ag],[tI,tI],fun(x:Val aG)=>yE x.1 x.2⟩
def Qh:List (Nat×â):=[(78,wy),(116,EW)]
def MY (ρ:Type):List (à ρ):=[]
def GS (ρ:Type):Env ρ:=æ Qh (MY ρ)
def Tc:â:=⟨[Â,ag,tI],[aI],fun(x:Val (.pair Â bc))=>Ee x.1 x.2.1 x.2.2⟩
def zW:Æ:=Ls 0 [ag,tI,ae,tI,tI,tI,ae,aa,af,ac,aa,ai] [tI,aI] ⟨30,.any::.con ag::.con tI::.box 0 0::aN 3 (.omp 1::aN 5 [.con ae,.con tI,.var tI]),[bw,.mapv tI tI]⟩ [(.exit 0,⟨30,.any::.con ag::.con tI::.box 0 0::aN 3 (.omp 1::aN 5 [.con ae,.con tI]),[bw,.mapv tI tI]⟩,[aI])]
def zV (ρ:Type):à ρ:=⟨[],117,0,zW,fun(p:Val (tyL zW.cs)) (v:Val (.pair tI aI)) a b=>let A:=p.2.2.2.2;let B:=A.2.2.2.2;qE p.1 p.2.1 p.2.2.1 p.2.2.2.1 A.1 A.2.1 A.2.2.1 A.2.2.2.1 B.1 B.2.1 B.2.2.1 B.2.2.2 v.1 v.2 (fun c d=>a (c,d)) (b 0)⟩
def TP:List (Nat×â):=[(105,EV)]
def Qd (ρ:Type):List (à ρ):=[zV ρ]
def Bk (ρ:Type):Env ρ:=æ TP (Qd ρ)
def Tf:â:=⟨[Â,ag,tI,tI],[tI,tI],fun(x:Val aP)=>ο x.1 x.2.1 x.2.2.1 x.2.2.2⟩
def TW:List (Nat×â):=[(78,wy),(88,wx),(117,Tc)]
def Qn (ρ:Type):List (à ρ):=[]
def J3 (ρ:Type):Env ρ:=æ TW (Qn ρ)
def vB:â:=⟨[Ö,Ö],[.bool],fun(x:Val (.pair Ö Ö))=>jM x.1 x.2⟩
def Bq:List (Nat×â):=[(35,oa)]
def zk (ρ:Type):List (à ρ):=[]
def qR (ρ:Type):Env ρ:=æ Bq (zk ρ)
def zE:â:=⟨[aa,aa],[.bool],fun(x:Val (.pair aa aa))=>jv x.1 x.2⟩
def Bo:Æ:=Ls 0 [aa,aa] [tI] ⟨26,[.con aa,.con aa,.any,.any,.any,.var tI],[]⟩ [(.ret,⟨26,[.con aa,.con aa,.any,.any,.var .bool],[]⟩,[.bool]),(.exit 0,⟨26,[.con aa,.con aa],[]⟩,[])]
def pu (ρ:Type):à ρ:=⟨[],119,0,Bo,fun(p:Val (.pair aa aa)) (v:Val tI) b a=>iZ p.1 p.2 v (fun c=>b c) (a 0) (a 1)⟩
def Fx:List (Nat×â):=[]
def C4 (ρ:Type):List (à ρ):=[pu ρ]
def nD (ρ:Type):Env ρ:=æ Fx (C4 ρ)
def Tg:â:=⟨[É,É],[.bool],fun(x:Val (.pair É É))=>xO x.1 x.2⟩
def Nd:Æ:=Ls 0 [tI,tI,ae,aa,af,ac,aa,tI,tI,ae,aa,af,ac,aa] [tI] ⟨130,[.any,.any,.box 0 0,.box 1 0,.any,.var tI],cz⟩ [(.ret,⟨130,[.any,.any,.box 0 0,.box 1 0,.var .bool],cz⟩,[.bool]),(.exit 0,⟨130,[.any,.any,.box 0 0,.box 1 0],cz⟩,[])]
def Ad (ρ:Type):à ρ:=⟨[],51,0,Nd,fun(p:Val aH) (v:Val tI) b a=>qP p.2.2.1 p.2.2.2.2.2.2.2.2.2.1 v (fun c=>b c) (a 0) (a 1)⟩
def Nc:Æ:=Ls 0 [tI,tI,ae,aa,af,ac,aa,tI,tI,ae,aa,af,ac,aa] [tI] ⟨130,[.any,.any,.box 0 0,.box 1 0,.any,.any,.var tI],cz⟩ [(.ret,⟨130,[.any,.any,.box 0 0,.box 1 0,.var .bool],cz⟩,[.bool]),(.exit 2,⟨130,[.any,.any,.box 0 0,.box 1 0],cz⟩,[])]
def Ac (ρ:Type):à ρ:=⟨[],51,2,Nc,fun(p:Val aH) (v:Val tI) b a=>qO p.2.2.2.1 p.2.2.2.2.2.2.2.2.2.2.1 v (fun c=>b c) (a 0) (a 1)⟩
def Nb:Æ:=Ls 0 [tI,tI,ae,aa,af,ac,aa,tI,tI,ae,aa,af,ac,aa] [tI] ⟨130,[.any,.any,.box 0 0,.box 1 0,.any,.any,.any,.var tI],cz⟩ [(.ret,⟨130,[.any,.any,.box 0 0,.box 1 0,.var .bool],cz⟩,[.bool]),(.exit 4,⟨130,[.any,.any,.box 0 0,.box 1 0],cz⟩,[])]
def Ab (ρ:Type):à ρ:=⟨[],51,4,Nb,fun(p:Val aH) (v:Val tI) b a=>qN p.2.2.2.2.1 p.2.2.2.2.2.2.2.2.2.2.2.1 v (fun c=>b c) (a 0) (a 1)⟩
def Na:Æ:=Ls 0 [tI,tI,ae,aa,af,ac,aa,tI,tI,ae,aa,af,ac,aa] [tI] ⟨130,aN 2 (.box 0 0::.box 1 0::aN 4 [.var tI]),cz⟩ [(.ret,⟨130,[.any,.any,.box 0 0,.box 1 0,.var .bool],cz⟩,[.bool]),(.exit 6,⟨130,[.any,.any,.box 0 0,.box 1 0],cz⟩,[])]
def Aa (ρ:Type):à ρ:=⟨[],51,6,Na,fun(p:Val aH) (v:Val tI) b a=>qM p.2.2.2.2.2.1 p.2.2.2.2.2.2.2.2.2.2.2.2.1 v (fun c=>b c) (a 0) (a 1)⟩
def T1:List (Nat×â):=[(118,vB),(119,zE)]
def Qv (ρ:Type):List (à ρ):=[Ad ρ,Ac ρ,Ab ρ,Aa ρ]
def lW (ρ:Type):Env ρ:=æ T1 (Qv ρ)
def nY:â:=⟨[Â,tI,tI],[.bool],fun(x:Val aZ)=>vg x.1 x.2.1 x.2.2⟩
def Cx:Æ:=Ls 0 [tI,tI,aj,tI,tI,ae,aa,af,ac,aa,ai] [tI,tI] ⟨175,[.any,.con tI,.con tI,.box 0 0,.any,.any,.any,.con aj,.any,.var tI,.var tI],[bw]⟩ [(.ret,⟨175,[.any,.con tI,.con tI,.box 0 0,.any,.any,.var .bool,.con aj],[bw]⟩,[.bool]),(.exit 0,⟨175,[.any,.con tI,.con tI,.box 0 0,.any,.any,.any,.con aj],[bw]⟩,[])]
def qp (ρ:Type):à ρ:=⟨[],9,0,Cx,fun(p:Val (.pair tI aw)) (v:Val Ä) b a=>let A:=p.2.2.2.2;let B:=A.2.2.2.2;jC p.1 p.2.1 p.2.2.1 p.2.2.2.1 A.1 A.2.1 A.2.2.1 A.2.2.2.1 B.1 B.2.1 B.2.2 v.1 v.2 (fun c d=>b (c,d)) (a 0) (a 1)⟩
def Hv:List (Nat×â):=[(15,Oj),(17,Jb),(40,PK),(41,Ck),(48,On),(49,Wc),(50,Tf),(51,Tg)]
def E8 (ρ:Type):List (à ρ):=[qp ρ]
def oY (ρ:Type):Env ρ:=æ Hv (E8 ρ)
end Go.Proofs.ZzM
end
