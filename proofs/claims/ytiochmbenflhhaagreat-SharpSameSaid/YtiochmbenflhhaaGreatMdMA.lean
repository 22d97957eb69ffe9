/- lemmas -/
import Derived.Test.YtiochmbenflhhaaGreatAmF
import Derived.KernelRfl
import Derived.Test.YtiochmbenflhhaaGreatMdTA
import Derived.Test.YtiochmbenflhhaaGreatProg
set_option linter.all false
set_option linter.unusedSectionVars false
set_option linter.unusedVariables false
set_option linter.unusedSimpArgs false
noncomputable section
set_option maxRecDepth 100000
namespace Go.Proofs.ZzM
open Go Go.Am
def QA:Nat→Bool
  |154=>true
  |227=>true
  |228=>true
  |229=>true
  |230=>true
  |231=>true
  |_=>false
def abg:Nat→Bool
  |223=>true
  |_=>false
def zb:Nat→Bool
  |224=>true
  |_=>false
def isInl:Nat→Bool
  |2=>true
  |41=>true
  |47=>true
  |48=>true
  |67=>true
  |104=>true
  |112=>true
  |115=>true
  |117=>true
  |120=>true
  |121=>true
  |122=>true
  |123=>true
  |124=>true
  |125=>true
  |126=>true
  |127=>true
  |128=>true
  |129=>true
  |130=>true
  |142=>true
  |143=>true
  |149=>true
  |150=>true
  |151=>true
  |152=>true
  |153=>true
  |161=>true
  |163=>true
  |164=>true
  |165=>true
  |171=>true
  |178=>true
  |186=>true
  |187=>true
  |188=>true
  |189=>true
  |191=>true
  |192=>true
  |194=>true
  |195=>true
  |206=>true
  |209=>true
  |210=>true
  |211=>true
  |212=>true
  |213=>true
  |216=>true
  |219=>true
  |220=>true
  |221=>true
  |225=>true
  |226=>true
  |232=>true
  |234=>true
  |236=>true
  |247=>true
  |248=>true
  |251=>true
  |252=>true
  |263=>true
  |264=>true
  |265=>true
  |266=>true
  |267=>true
  |268=>true
  |270=>true
  |271=>true
  |277=>true
  |278=>true
  |280=>true
  |281=>true
  |283=>true
  |284=>true
  |287=>true
  |288=>true
  |290=>true
  |292=>true
  |293=>true
  |_=>false
def isFz:Nat→Bool
  |13=>true
  |46=>true
  |79=>true
  |100=>true
  |_=>false
def isEat:Nat→Nat→Bool
  |36,4=>true
  |36,5=>true
  |41,67=>true
  |91,15=>true
  |91,91=>true
  |161,30=>true
  |167,8=>true
  |167,11=>true
  |171,25=>true
  |248,0=>true
  |_,_=>false
def amo:List Nat→Nat→Bool
  |p,117=>Nat.ble 10 p.length
  |_,_=>false
def Ý {ρ:Type} (pt:List (Nat×Û)) (tab:List (Ü ρ)):Env ρ :=
  {P:=Tryz.prog,eat:=isEat,clone:=QA,sort:=abg,compact:=zb,inl:=isInl,fz:=isFz,stop:=amo,pure:=agw pt,loops:=rr tab}
def aik {ρ:Type} (pt:List (Nat×Û)) (tab:List (Ü ρ)) (us:List aj4):Env ρ :=
  {P:=Tryz.prog,eat:=isEat,clone:=QA,sort:=abg,compact:=zb,inl:=isInl,fz:=isFz,stop:=amo,pure:=agw pt,loops:=aa9 (Ý pt tab) us}
abbrev bm:iZ:=.cells [.con tI,.con tI,.con ae,.con aa,.con af,.con ac,.con aa]
abbrev bn:iZ:=.cells [.con tI,.con tI,.con tI,.con tI,.con tI,.con tI,.con tI,.con tI]
abbrev bo:iZ:=.cells [.con tI,.con tI,.con tI,.con tI]
abbrev bp:iZ:=.cells [.con ab]
abbrev bq:iZ:=.cells [.con tI]
abbrev br:iZ:=.cells [.con tI,.con tI,.con ab,.con ab,.con tI,.con tI,.con tI,.con tI]
abbrev bt:iZ:=.cells [.con tI,.con tI]
abbrev bu:iZ:=.cells [.con tI,.con aj]
abbrev bv:iZ:=.cells [.own 6]
abbrev bw:iZ:=.cells [.con tI,.con tI,.nils,.nils,.nils,.nils,.nils]
abbrev bz:iZ:=.cells [.con tI,.con tI,.own 9,.own 10,.own 11,.con ac,.own 12]
abbrev bB:iZ:=.cells [.con tI,.con tI,.con ae,.con aa,.con af,.con ac,.con aa,.con aa,.con tI,.own 3,.own 4]
abbrev bC:iZ:=.cells [.con tI,.con tI,.con ae,.con aa,.con af,.con ac,.con aa,.con aa,.con tI,.own 2,.own 3]
abbrev bD:iZ:=.cells [.var tI,.var tI,.var ae,.var aa,.var af,.var ac,.var aa]
abbrev bE:iZ:=.cells [.con tI,.con tI,.con tI]
abbrev bG:iZ:=.cells [.con tI,.con tI,.nils,.nils,.nils,.nils,.nils,.con tI,.con tI,.con .bool,.con tI,.nils]
abbrev bH:iZ:=.cells [.con tI,.con tI,.own 11,.own 12,.own 13,.con ac,.own 14]
abbrev bI:iZ:=.cells [.con tI,.con tI,.con ae,.con aa,.con af,.con ac,.con aa,.con tI,.own 6]
abbrev bJ:iZ:=.cells [.omp 3]
abbrev bK:iZ:=.cells [.con ae]
abbrev bL:iZ:=.cells [.fn 122 []]
abbrev bM:iZ:=.cells [.con aa]
abbrev bN:iZ:=.cells [.fn 123 [(2,0)]]
abbrev bO:iZ:=.cells [.con af]
abbrev bP:iZ:=.cells [.fn 124 [(2,0)]]
abbrev bQ:iZ:=.cells [.con ak]
abbrev bR:iZ:=.cells [.own 3]
abbrev bS:iZ:=.cells [.fn 117 [(1,0),(2,0),(4,0),(0,0),(5,0)]]
abbrev bT:iZ:=.cells [.var tI,.var tI,.var tI,.var tI]
abbrev bU:iZ:=.cells [.nils,.nils]
abbrev bV:iZ:=.cells [.own 3,.own 4]
abbrev bW:List iZ:=[bn,.rowv tI]
abbrev bX:List iZ:=[bm,bo]
abbrev bY:List iZ:=[bm,br,.rowc tI]
abbrev bZ:List iZ:=[bu,.rowc tI,bu,bv,.rowv .bool,.rowc tI,.rowv tI]
abbrev b7:List iZ:=[bu,.rowv tI,bu,bv,.rowv .bool,.rowc tI,.rowv tI]
abbrev b8:List iZ:=[bu,.rowv tI,bu,bv,.rowv .bool,.rowv tI,.rowv tI]
abbrev b9:List iZ:=[bm,bt,bw,bm,bw,.dead,bz,bw,.rowv Ì,.rowc Ð,.rowc Ã,.rowc Ń,.rowc Ã]
abbrev ca:List iZ:=[bm,bC,.rowv Ą,.rowv Ã]
abbrev cd:List iZ:=[bm,bt,bt,.rowc Ã,bD]
abbrev ce:List iZ:=[bm,bt,bt,bt,.rowc Ã,bD]
abbrev cf:List iZ:=[.rowc ab,bu,.dead,.dead,.rowv tI]
abbrev cg:List iZ:=[bu,.rowc ar,bE,bu,.rowv tI]
abbrev ci:List iZ:=[bu,bq,bq,bu,.rowv tI]
abbrev cj:List iZ:=[bm,.dead,.dead,bG,.rowc Ã,bD]
abbrev cm:List iZ:=[bm,.dead,.dead,bG,.rowc Ã,bm,bu,.dead,.rowf Ã 0,bm,bm]
abbrev cn:List iZ:=[bm,br,bw,.dead,.dead,bm,bw,.dead,bH,bw,.rowv Ì,.rowc Ð,.rowc Ã,.rowc Ń,.rowc Ã]
abbrev cp:List iZ:=[bm,bt,br,.rowc Ã,bD]
abbrev cq:List iZ:=[bm,bt,bt,br,.rowc Ã,bD]
abbrev cr:List iZ:=[bm,bt,bt,br,.rowc Ã,bm,bu,.dead,bn,.rowf ab 0,.rowf ab 0,.rowf ab 0]
abbrev cu:List iZ:=[bm,bm,bJ,.mapc tI .bool,br,br]
abbrev cw:List iZ:=[bm,bm,bJ,.mapc tI .bool,br]
abbrev cz:List iZ:=[bm,bm,bJ,.mapc tI .bool]
abbrev cA:List iZ:=[bm,bm,bJ,.mapc tI .bool,bK,bL]
abbrev cB:List iZ:=[bm,bm,bJ,.mapc tI .bool,bK,bL,bM,bN]
abbrev cD:List iZ:=[bm,bm,bJ,.mapc tI .bool,bK,bL,bM,bN,bM,bN]
abbrev cE:List iZ:=[bm,bm,bJ,.mapc tI .bool,bK,bL,bM,bN,bM,bN,bO,bP]
abbrev cF:List iZ:=[bm,bm,bJ,.mapc tI .bool,bK,bL,bM,bN,bM,bN,bO,bP,bO,bP]
abbrev cG:List iZ:=[bQ,bp,bp,.rowc .bool,bR,bS]
abbrev cH:List iZ:=[bQ,bp,bp,.rowv .bool,bR,bS]
abbrev cI:List iZ:=[bm,bp,bt,.rowf ab 0,bD]
abbrev cJ:List iZ:=[bm,.rowv tI]
abbrev cM:List iZ:=[bm,.rowc tI,.rowv Ã]
abbrev cN:List iZ:=[bm,bU,bV,.rowv Ą,.rowv Ã]
def sJ:Û:=⟨[Ã,tI,tI],[.bool],fun(x:Val è)=>Μ x.1 x.2.1 x.2.2⟩
def XA:List (Nat×Û):=[]
def Cp (ρ:Type):List (Ü ρ):=[]
def Lw (ρ:Type):Env ρ:=Ý XA (Cp ρ)
def kp:Û:=⟨[tI,tI,tI],[.bool],fun(x:Val Ą)=>ĝ x.1 x.2.1 x.2.2⟩
def Xo:List (Nat×Û):=[]
def Cj (ρ:Type):List (Ü ρ):=[]
def Lr (ρ:Type):Env ρ:=Ý Xo (Cj ρ)
def EQ:Û:=⟨[tI],[.bool],fun(x:Val tI)=>nj x⟩
def aa1:List (Nat×Û):=[(144,kp)]
def Hb (ρ:Type):List (Ü ρ):=[]
def Qm (ρ:Type):Env ρ:=Ý aa1 (Hb ρ)
def VE:Û:=⟨[tI],[(.int .u64)],fun(x:Val tI)=>rB x⟩
def ade:List (Nat×Û):=[]
def Ll (ρ:Type):List (Ü ρ):=[]
def UA (ρ:Type):Env ρ:=Ý ade (Ll ρ)
def acE:Û:=⟨[(.int .u64),(.int .u64)],[(.int .u64)],fun(x:Val bg)=>QT x.1 x.2⟩
def aaL:Ç:={pin:=0,cs:=[],vs:=[(.int .u64),(.int .u64)],head:=⟨12,[.var (.int .u64),.var (.int .u64)],[]⟩,exits:=[(.exit 0,⟨12,[.var (.int .u64)],[]⟩,[(.int .u64)])]}
def Lm (ρ:Type):Ü ρ:=⟨[],250,0,aaL,fun(p:Unit) (v:Val bg) a b=>zR v.1 v.2 (fun c d=>a (c,d)) (b 0)⟩
def agi:List (Nat×Û):=[]
def PZ (ρ:Type):List (Ü ρ):=[Lm ρ]
def P0 (ρ:Type):Env ρ:=Ý agi (PZ ρ)
def EM:Û:=⟨[Ã],[.bool],fun(x:Val Ã)=>ug x⟩
def aaO:List (Nat×Û):=[(249,VE),(250,acE)]
def GP (ρ:Type):List (Ü ρ):=[]
def P3 (ρ:Type):Env ρ:=Ý aaO (GP ρ)
def Ob:Û:=⟨[Ð],[.bool],fun(x:Val Ð)=>vV x⟩
def Tm:List (Nat×Û):=[(109,sJ),(144,kp),(176,EQ),(218,EM)]
def yU (ρ:Type):List (Ü ρ):=[]
def Ha (ρ:Type):Env ρ:=Ý Tm (yU ρ)
def xt:Û:=⟨[Ä],[tI],fun(x:Val Ä)=>ŵ x⟩
def A3:Ç:={pin:=0,cs:=[ae,tI,tI,tI,ae,aa,af,ac,aa],vs:=[tI],head:=⟨31,.any::.box 0 0::aN 4 [.con ae,.con tI,.var tI],[bm]⟩,exits:=[(.ret,⟨31,[.any,.box 0 0,.var tI,.any,.any,.any,.con ae,.con tI],[bm]⟩,[tI]),(.exit 0,⟨31,.any::.box 0 0::aN 4 [.con ae,.con tI],[bm]⟩,[])]}
def nI (ρ:Type):Ü ρ:=⟨[],110,0,A3,fun(p:Val (.pair ae aF)) (v:Val tI) b a=>jc p.1 p.2.1 p.2.2.2.2.1 v (fun c=>b c) (a 0) (a 1)⟩
def Hl:List (Nat×Û):=[(174,Ob)]
def pC (ρ:Type):List (Ü ρ):=[nI ρ]
def me (ρ:Type):Env ρ:=Ý Hl (pC ρ)
def CW:Û:=⟨[Ä],[aw],fun(x:Val Ä)=>θ x⟩
def MO:Ç:={pin:=0,cs:=[ae,tI],vs:=[tI,aw],head:=⟨20,aN 3 (.omp 0::aN 4 [.con ae,.con tI,.var tI]),[.mapv tI Ð]⟩,exits:=[(.exit 0,⟨20,aN 3 (.omp 0::aN 4 [.con ae,.con tI]),[.mapv tI Ð]⟩,[aw])]}
def wR (ρ:Type):Ü ρ:=⟨[],111,0,MO,fun(p:Val (.pair ae tI)) (v:Val (.pair tI aw)) a b=>mD p.1 p.2 v.1 v.2 (fun c d=>a (c,d)) (b 0)⟩
def Tb:List (Nat×Û):=[]
def yN (ρ:Type):List (Ü ρ):=[wR ρ]
def vn (ρ:Type):Env ρ:=Ý Tb (yN ρ)
def sF:Û:=⟨[ab,tI],[tI],fun(x:Val aK)=>jB x.1 x.2⟩
def wY:Ç:={pin:=0,cs:=[ab,tI,tI],vs:=[tI],head:=⟨19,.con ab::.con tI::aN 5 [.con tI,.var tI],[]⟩,exits:=[(.ret,⟨19,[.con ab,.con tI,.any,.any,.var tI,.any,.any,.con tI],[]⟩,[tI]),(.exit 0,⟨19,.con ab::.con tI::aN 5 [.con tI],[]⟩,[])]}
def lN (ρ:Type):Ü ρ:=⟨[],116,0,wY,fun(p:Val (.pair ab Ã)) (v:Val tI) b a=>gR p.1 p.2.1 p.2.2 v (fun c=>b c) (a 0) (a 1)⟩
def AG:List (Nat×Û):=[]
def mL (ρ:Type):List (Ü ρ):=[lN ρ]
def j8 (ρ:Type):Env ρ:=Ý AG (mL ρ)
def ω:Û:=⟨[ab,tI],[.bool],fun(x:Val aK)=>Ĕ x.1 x.2⟩
def uJ:List (Nat×Û):=[(116,sF)]
def ks (ρ:Type):List (Ü ρ):=[]
def lO (ρ:Type):Env ρ:=Ý uJ (ks ρ)
def VI:Û:=⟨[Ä,Ð],[ab],fun(x:Val (.pair Ä Ð))=>oj x.1 x.2⟩
def XD:Ç:={pin:=0,cs:=[ac,tI,tI,tI,ae,aa,af,ac,aa,tI,tI,tI,tI,tI,tI,tI,tI],vs:=[tI,ab],head:=⟨59,aN 2 (.box 0 0::.box 1 0::.any::.own 2::aN 8 [.con ac,.con tI,.var tI]),[bm,bn,.rowv tI]⟩,exits:=[(.exit 0,⟨59,aN 2 (.box 0 0::.box 1 0::.any::.own 2::aN 8 [.con ac,.con tI]),[bm,bn,.rowv tI]⟩,[ab])]}
def Hg (ρ:Type):Ü ρ:=⟨[],181,0,XD,fun(p:Val (.pair ac aB)) (v:Val ay) a b=>vA p.1 p.2.1 p.2.2.2.2.2.2.2.2.2.1 v.1 v.2 (fun c d=>a (c,d)) (b 0)⟩
def Hf:Ç:={pin:=0,cs:=[aa,tI,tI,tI,tI,tI,tI,tI,tI,tI],vs:=[tI,ab],head:=⟨59,aN 3 (.box 0 0::.any::.own 1::aN 32 [.con aa,.con tI,.var tI]),bW⟩,exits:=[(.exit 2,⟨59,aN 3 (.box 0 0::.any::.own 1::aN 32 [.con aa,.con tI]),bW⟩,[ab])]}
def He (ρ:Type):Ü ρ:=⟨[],181,2,Hf,fun(p:Val (tyL Hf.cs)) (v:Val ay) a b=>vz p.1 p.2.1 p.2.2.1 v.1 v.2 (fun c d=>a (c,d)) (b 0)⟩
def ads:List (Nat×Û):=[(49,ω)]
def Ly (ρ:Type):List (Ü ρ):=[Hg ρ,He ρ]
def zU (ρ:Type):Env ρ:=Ý ads (Ly ρ)
def EP:Û:=⟨[Ä],[aa],fun(x:Val Ä)=>pS x⟩
def Cl:Ç:={pin:=0,cs:=[ae,tI,tI,ab,tI,tI,tI,ae,aa,af,ac,aa,tI,tI,tI,tI,tI,tI,tI,tI],vs:=[tI,aa],head:=⟨33,.any::.box 0 0::.any::.own 1::.any::.box 2 0::aN 3 (.con ae::.con tI::.con tI::aN 5 [.con ab,.con tI,.var tI]),[bm,.rowv Ã,bn]⟩,exits:=[(.exit 2,⟨33,.any::.box 0 0::.any::.own 1::.any::.box 2 0::aN 3 (.con ae::.con tI::.con tI::aN 5 [.con ab,.con tI]),[bm,.rowv Ã,bn]⟩,[aa])]}
def Ck (ρ:Type):Ü ρ:=⟨[],113,2,Cl,fun(p:Val (tyL Cl.cs)) (v:Val aI) a b=>rl p.2.2.2.1 p.2.2.2.2.1 p.2.2.2.2.2.2.2.2.2.2.2.2.1 v.1 v.2 (fun c d=>a (c,d)) (b 0)⟩
def Td:Ç:={pin:=0,cs:=[ae,tI,tI,tI,ae,aa,af,ac,aa],vs:=[tI,aa],head:=⟨33,.any::.box 0 0::.any::.own 1::aN 5 [.con ae,.con tI,.var tI],[bm,.rowv Ã]⟩,exits:=[(.exit 0,⟨33,.any::.box 0 0::.any::.own 1::aN 5 [.con ae,.con tI],[bm,.rowv Ã]⟩,[aa])]}
def Cm (ρ:Type):Ü ρ:=⟨[],113,0,Td,fun(p:Val (.pair ae aF)) (v:Val aI) a b=>let A:=p.2.2.2.2;rn p.1 p.2.1 p.2.2.1 p.2.2.2.1 A.1 A.2.1 A.2.2.1 A.2.2.2.1 A.2.2.2.2 v.1 v.2 (fun c d=>a (c,d)) (b 0)⟩
def aaX:List (Nat×Û):=[(181,VI)]
def GX (ρ:Type):List (Ü ρ):=[Ck ρ,Cm ρ]
def vr (ρ:Type):Env ρ:=Ý aaX (GX ρ)
def mr:Û:=⟨[aw,tI,tI],[tI],fun(x:Val (.pair aw Ã))=>iY x.1 x.2.1 x.2.2⟩
def JG:List (Nat×Û):=[]
def rk (ρ:Type):List (Ü ρ):=[]
def wS (ρ:Type):Env ρ:=Ý JG (rk ρ)
def acG:Û:=⟨[tI,tI,(.ptr aw)],[tI],fun(x:Val (.pair tI (.pair tI (.ptr aw))))=>ĺ x.1 x.2.1 x.2.2⟩
def Tc:List (Nat×Û):=[(176,EQ),(177,mr)]
def yQ (ρ:Type):List (Ü ρ):=[]
def GW (ρ:Type):Env ρ:=Ý Tc (yQ ρ)
def VJ:Û:=⟨[Ä,aw,tI],[tI],fun(x:Val bj)=>Υ x.1 x.2.1 x.2.2⟩
def Hk:Ç:={pin:=2,cs:=[af,tI,tI,tI,ae,aa,af,ac,aa,tI,tI,tI,tI],vs:=[tI],head:=⟨19,.con af::.fn 219 [(1,0)]::aN 5 [.con tI,.var tI],bX⟩,exits:=[(.ret,⟨19,[.con af,.fn 219 [(1,0)],.any,.any,.var tI,.any,.any,.con tI],bX⟩,[tI]),(.exit 0,⟨19,.con af::.fn 219 [(1,0)]::aN 5 [.con tI],bX⟩,[])]}
def rq (ρ:Type):Ü ρ:=⟨[9,5,1,2],236,0,Hk,fun(p:Val (.pair af aH)) (v:Val tI) b a=>let A:=p.2.2.2.2.2.2.2.2.2;j3 p.1 p.2.1 A.1 A.2.1 A.2.2.1 v (fun c=>b c) (a 0) (a 1)⟩
def Hj:Ç:={pin:=2,cs:=[aa,tI,tI,tI,ae,aa,af,ac,aa,tI,tI,tI,tI],vs:=[tI],head:=⟨19,.con aa::.fn 220 [(1,0)]::aN 5 [.con tI,.var tI],bX⟩,exits:=[(.ret,⟨19,[.con aa,.fn 220 [(1,0)],.any,.any,.var tI,.any,.any,.con tI],bX⟩,[tI]),(.exit 0,⟨19,.con aa::.fn 220 [(1,0)]::aN 5 [.con tI],bX⟩,[])]}
def ro (ρ:Type):Ü ρ:=⟨[9,10,1,2],234,0,Hj,fun(p:Val (.pair aa aH)) (v:Val tI) b a=>let A:=p.2.2.2.2.2.2.2.2.2;Κ p.1 p.2.1 A.1 A.2.1 A.2.2.1 v (fun c=>b c) (a 0) (a 1)⟩
def MT:List (Nat×Û):=[(109,sJ),(144,kp),(177,mr)]
def tQ (ρ:Type):List (Ü ρ):=[rq ρ,ro ρ]
def lf (ρ:Type):Env ρ:=Ý MT (tQ ρ)
def Ŗ:Û:=⟨[ar],[ab],fun(x:Val ar)=>ï x⟩
def kU:Ç:={pin:=0,cs:=[ar,ar,tI],vs:=[tI,tI],head:=⟨36,.con ar::aN 2 (.var tI::aN 5 [.con ar,.con tI,.var tI]),[]⟩,exits:=[(.exit 0,⟨36,.con ar::aN 2 (.var tI::aN 5 [.con ar,.con tI]),[]⟩,[tI])]}
def kT (ρ:Type):Ü ρ:=⟨[],100,0,kU,fun(p:Val (tyL kU.cs)) (v:Val Ã) a b=>Į p.2.1 p.2.2 v.1 v.2 (fun c d=>a (c,d)) (b 0)⟩
def uK:Ç:={pin:=0,cs:=[ar,tI],vs:=[tI,ab],head:=⟨36,aN 6 (.own 0::aN 18 [.con ar,.con tI,.var tI]),[.rowv tI]⟩,exits:=[(.exit 2,⟨36,aN 6 (.own 0::aN 18 [.con ar,.con tI]),[.rowv tI]⟩,[ab])]}
def kS (ρ:Type):Ü ρ:=⟨[],100,2,uK,fun(p:Val (.pair ar tI)) (v:Val ay) a b=>ñ p.1 p.2 v.1 v.2 (fun c d=>a (c,d)) (b 0)⟩
def xz:List (Nat×Û):=[]
def lP (ρ:Type):List (Ü ρ):=[kT ρ,kS ρ]
def gS (ρ:Type):Env ρ:=Ý xz (lP ρ)
def IG:Û:=⟨[ab],[.bool],fun(x:Val ab)=>ml x⟩
def Qk:Ç:={pin:=0,cs:=[ab,ab,tI],vs:=[tI],head:=⟨32,.con ab::aN 4 [.con ab,.con tI,.var tI],[]⟩,exits:=[(.ret,⟨32,[.con ab,.any,.var .bool,.any,.any,.con ab,.con tI],[]⟩,[.bool]),(.exit 0,⟨32,.con ab::aN 4 [.con ab,.con tI],[]⟩,[])]}
def yS (ρ:Type):Ü ρ:=⟨[],182,0,Qk,fun(p:Val (.pair ab aK)) (v:Val tI) b a=>ob p.1 p.2.1 p.2.2 v (fun c=>b c) (a 0) (a 1)⟩
def Xy:List (Nat×Û):=[(144,kp)]
def Co (ρ:Type):List (Ü ρ):=[yS ρ]
def yT (ρ:Type):Env ρ:=Ý Xy (Co ρ)
def zJ:Û:=⟨[ab,ab],[ab],fun(x:Val aL)=>Ŧ x.1 x.2⟩
def Xw:Ç:={pin:=2,cs:=[tI,ab,ab],vs:=[tI],head:=⟨19,.own 1::.fn 226 [(0,0)]::aN 5 [.con tI,.var tI],[bp,.rowc tI]⟩,exits:=[(.ret,⟨19,[.own 1,.fn 226 [(0,0)],.any,.any,.var tI,.any,.any,.con tI],[bp,.rowc tI]⟩,[tI]),(.exit 0,⟨19,.own 1::.fn 226 [(0,0)]::aN 5 [.con tI],[bp,.rowc tI]⟩,[])]}
def G9 (ρ:Type):Ü ρ:=⟨[1,3,1,2],115,0,Xw,fun(p:Val (.pair tI aL)) (v:Val tI) b a=>vy p.1 p.2.1 p.2.2 v (fun c=>b c) (a 0) (a 1)⟩
def Xv:Ç:={pin:=2,cs:=[ab],vs:=[tI,tI,ab],head:=⟨42,[.own 1,.fn 226 [(0,0)],.any,.any,.any,.var tI,.var tI],[bp,.rowv tI]⟩,exits:=[(.exit 0,⟨42,[.own 1,.fn 226 [(0,0)],.any,.any,.any,.var tI],[bp,.rowv tI]⟩,[tI,ab])]}
def G8 (ρ:Type):Ü ρ:=⟨[1,3],225,0,Xv,fun(p:Val ab) (v:Val (.pair tI ay)) a b=>kg p v.1 v.2.1 v.2.2 (fun c d e=>a (c,d,e)) (b 0)⟩
def adr:List (Nat×Û):=[(49,ω)]
def Lv (ρ:Type):List (Ü ρ):=[G9 ρ,G8 ρ]
def zT (ρ:Type):Env ρ:=Ý adr (Lv ρ)
def aeQ:Û:=⟨[Ä,tI,tI],[Ń,.bool],fun(x:Val aJ)=>Aq x.1 x.2.1 x.2.2⟩
def Hn:Ç:={pin:=4,cs:=[af,tI,tI,tI,ae,aa,af,ac,aa,tI,tI,tI,tI,tI,tI],vs:=[tI],head:=⟨19,.con af::.fn 251 [(1,0),(2,0)]::aN 5 [.con tI,.var tI],[bm,bq,bq,bo]⟩,exits:=[(.ret,⟨19,[.con af,.fn 251 [(1,0),(2,0)],.any,.any,.var tI,.any,.any,.con tI],[bm,bq,bq,bo]⟩,[tI]),(.exit 0,⟨19,.con af::.fn 251 [(1,0),(2,0)]::aN 5 [.con tI],[bm,bq,bq,bo]⟩,[])]}
def Hm (ρ:Type):Ü ρ:=⟨[1,3],236,0,Hn,fun(p:Val (tyL Hn.cs)) (v:Val tI) b a=>vC p.1 p.2.1 p.2.2.2.2.2.2.2.2.2.1 p.2.2.2.2.2.2.2.2.2.2.1 v (fun c=>b c) (a 0) (a 1)⟩
def adt:List (Nat×Û):=[(144,kp)]
def Lz (ρ:Type):List (Ü ρ):=[Hm ρ]
def JN (ρ:Type):Env ρ:=Ý adt (Lz ρ)
def L4:Û:=⟨[Ä,aw,tI],[tI],fun(x:Val bj)=>ľ x.1 x.2.1 x.2.2⟩
def m8:Ç:={pin:=2,cs:=[ac,tI,tI,tI,ae,aa,af,ac,aa,tI,tI,ab,ab,tI,tI,tI,tI],vs:=[tI],head:=⟨19,.con ac::.fn 221 [(1,0)]::aN 5 [.con tI,.var tI],[bm,br]⟩,exits:=[(.ret,⟨19,[.con ac,.fn 221 [(1,0)],.any,.any,.var tI,.any,.any,.con tI],[bm,br]⟩,[tI]),(.exit 0,⟨19,.con ac::.fn 221 [(1,0)]::aN 5 [.con tI],[bm,br]⟩,[])]}
def m7 (ρ:Type):Ü ρ:=⟨[4,5,1,2],187,0,m8,fun(p:Val (tyL m8.cs)) (v:Val tI) b a=>iB p.1 p.2.1 p.2.2.2.2.2.2.2.2.2.1 v (fun c=>b c) (a 0) (a 1)⟩
def mX:Ç:={pin:=0,cs:=[aw,ab,tI,tI,tI,ab,tI,tI,tI,ae,aa,af,ac,aa,tI,tI,ab,ab,tI,tI,tI,tI,ab],vs:=[tI],head:=⟨140,.any::.con aw::.any::.box 0 0::aN 3 (.box 1 0::.con ab::.any::.con tI::aN 65 [.own 2,.con tI,.con tI,.any,.any,.any,.con ab,.con tI,.var tI]),bY⟩,exits:=[(.ret,⟨140,.any::.con aw::.any::.box 0 0::aN 2 (.var tI::.box 1 0::.con ab::.any::.con tI::aN 65 [.own 2,.con tI,.con tI,.any,.any,.any,.con ab,.con tI]),bY⟩,[tI]),(.exit 2,⟨140,.any::.con aw::.any::.box 0 0::aN 3 (.box 1 0::.con ab::.any::.con tI::aN 65 [.own 2,.con tI,.con tI,.any,.any,.any,.con ab,.con tI]),bY⟩,[])]}
def mW (ρ:Type):Ü ρ:=⟨[],180,2,mX,fun(p:Val (tyL mX.cs)) (v:Val tI) b a=>let A:=p.2.2.2.2.2;iA p.1 p.2.2.1 A.1 A.2.1 A.2.2.2.2.2.2.2.2.2.2.1 v (fun c=>b c) (a 0) (a 1)⟩
def mZ:Ç:={pin:=0,cs:=[aw,ab,tI,tI,tI,ae,aa,af,ac,aa,tI,tI,ab,ab,tI,tI,tI,tI,ab],vs:=[tI],head:=⟨140,.any::.con aw::.any::.box 0 0::aN 3 (.box 1 0::.con ab::aN 67 [.own 2,.con tI,.var tI]),bY⟩,exits:=[(.ret,⟨140,.any::.con aw::.any::.box 0 0::aN 2 (.var tI::.box 1 0::.con ab::aN 67 [.own 2,.con tI]),bY⟩,[tI]),(.exit 0,⟨140,.any::.con aw::.any::.box 0 0::aN 3 (.box 1 0::.con ab::aN 67 [.own 2,.con tI]),bY⟩,[])]}
def mY (ρ:Type):Ü ρ:=⟨[],180,0,mZ,fun(p:Val (tyL mZ.cs)) (v:Val tI) b a=>ň p.1 p.2.1 p.2.2.1 p.2.2.2.2.2.2.2.2.2.2.2.1 p.2.2.2.2.2.2.2.2.2.2.2.2.2.2.2.2.2.2 v (fun c=>b c) (a 0) (a 1)⟩
def mV:Ç:={pin:=0,cs:=[ab,tI,tI,tI,ae,aa,af,ac,aa,tI,tI,ab,ab,tI,tI,tI,tI],vs:=[tI],head:=⟨140,aN 3 (.box 0 0::aN 3 (.box 1 0::aN 90 [.con ab,.con tI,.var tI])),[bm,br]⟩,exits:=[(.ret,⟨140,aN 3 (.box 0 0::aN 2 (.var tI::.box 1 0::aN 90 [.con ab,.con tI])),[bm,br]⟩,[tI]),(.exit 4,⟨140,aN 3 (.box 0 0::aN 3 (.box 1 0::aN 90 [.con ab,.con tI])),[bm,br]⟩,[])]}
def mU (ρ:Type):Ü ρ:=⟨[],180,4,mV,fun(p:Val (tyL mV.cs)) (v:Val tI) b a=>let A:=p.2.2.2.2;Ň p.1 p.2.1 p.2.2.1 p.2.2.2.1 A.1 A.2.1 A.2.2.1 A.2.2.2.1 A.2.2.2.2.1 A.2.2.2.2.2.2.1 v (fun c=>b c) (a 0) (a 1)⟩
def D3:List (Nat×Û):=[(100,Ŗ),(109,sJ),(144,kp),(176,EQ),(177,mr),(182,IG),(183,zJ),(222,aeQ)]
def nJ (ρ:Type):List (Ü ρ):=[m7 ρ,mW ρ,mY ρ,mU ρ]
def ř (ρ:Type):Env ρ:=Ý D3 (nJ ρ)
def ń:Û:=⟨[Ä],[tI],fun(x:Val Ä)=>ó x⟩
def oR:Û:=⟨[Ä,aa,aa],[Ä],fun(x:Val (.pair Ä (.pair aa aa)))=>QS x.1 x.2.1 x.2.2⟩
noncomputable def aau:Ç:={pin:=8,cs:=[ab,tI,tI,tI,ae,aa,af,ac,aa,tI,tI,ao,tI,tI],vs:=[tI,ao],head:=⟨34,.any::.any::.any::.box 2 0::aN 21 [.con ab,.con tI,.var tI],[.cells [.con tI,.con tI,.con ae,.con aa,.con af,.con ac,.con aa],.cells [.con tI,.con tI,.nils,.nils,.nils,.nils,.nils],.cells [.omp 5],.cells [.omp 6],.cells [.nilfn,.fn 151 [(2,0),(0,0)],.fn 151 [(2,0),(0,0)],.fn 152 [(3,0),(0,0),(2,0)]],.mapv tI .bool,.mapc tI .bool,.cells [.con tI,.con tI]]⟩,exits:=[(.exit 0,⟨34,.any::.any::.any::.box 2 0::aN 21 [.con ab,.con tI],[.cells [.con tI,.con tI,.con ae,.con aa,.con af,.con ac,.con aa],.cells [.con tI,.con tI,.nils,.nils,.nils,.nils,.nils],.cells [.omp 5],.cells [.omp 6],.cells [.nilfn,.fn 151 [(2,0),(0,0)],.fn 151 [(2,0),(0,0)],.fn 152 [(3,0),(0,0),(2,0)]],.mapv tI .bool,.mapc tI .bool,.cells [.con tI,.con tI]]⟩,[ao])]}
noncomputable def K8 (ρ:Type):Ü ρ:=⟨[7,5],152,0,aau,fun(p:Val (.pair ab (.pair tI (.pair tI (.pair tI (.pair ae (.pair aa (.pair af (.pair ac (.pair aa (.pair tI (.pair tI (.pair ao Ã))))))))))))) (v:Val (.pair tI ao)) kn kx=>tp p.1 p.2.1 v.1 v.2 (fun u0 u1=>kn (u0,u1)) (kx 0)⟩
noncomputable def aav:Ç:={pin:=0,cs:=[aa,aa,tI,tI,tI,ae,aa,af,ac,aa,tI,tI],vs:=[tI,ao,ao],head:=⟨130,.any::.any::.con aa::.box 0 0::.any::.any::.box 1 0::.box 2 0::.box 3 0::.any::.box 4 0::aN 19 [.con aa,.con tI,.var tI],[.cells [.con tI,.con tI,.con ae,.con aa,.con af,.con ac,.con aa],.cells [.con tI,.con tI,.nils,.nils,.nils,.nils,.nils],.cells [.omp 5],.cells [.omp 6],.cells [.nilfn,.fn 151 [(2,0),(0,0)],.fn 151 [(2,0),(0,0)],.fn 152 [(3,0),(0,0),(2,0)]],.mapv tI .bool,.mapv tI .bool]⟩,exits:=[(.exit 0,⟨130,.any::.any::.con aa::.box 0 0::.any::.any::.box 1 0::.box 2 0::.box 3 0::.any::.box 4 0::aN 19 [.con aa,.con tI],[.cells [.con tI,.con tI,.con ae,.con aa,.con af,.con ac,.con aa],.cells [.con tI,.con tI,.nils,.nils,.nils,.nils,.nils],.cells [.omp 5],.cells [.omp 6],.cells [.nilfn,.fn 151 [(2,0),(0,0)],.fn 151 [(2,0),(0,0)],.fn 152 [(3,0),(0,0),(2,0)]],.mapv tI .bool,.mapv tI .bool]⟩,[ao,ao])]}
noncomputable def K9 (ρ:Type):Ü ρ:=⟨[],79,0,aav,fun(p:Val (.pair aa (.pair aa (.pair tI (.pair tI (.pair tI (.pair ae (.pair aa (.pair af (.pair ac ba)))))))))) (v:Val (.pair tI (.pair ao ao))) kn kx=>zO p.2.1 p.2.2.1 p.2.2.2.2.2.1 p.2.2.2.2.2.2.2.2.1 v.1 v.2.1 v.2.2 (fun u0 u1 u2=>kn (u0,u1,u2)) (kx 0)⟩
noncomputable def aat:Ç:={pin:=0,cs:=[aa,aa,tI,tI,tI,ae,aa,af,ac,aa,tI,tI,ao],vs:=[tI,ao],head:=⟨130,.any::.any::.con aa::.box 0 0::.any::.any::.box 1 0::.box 2 0::.box 3 0::aN 34 [.con aa,.con tI,.var tI],[.cells [.con tI,.con tI,.con ae,.con aa,.con af,.con ac,.con aa],.cells [.con tI,.con tI,.nils,.nils,.nils,.nils,.nils],.cells [.omp 4],.cells [.omp 5],.mapv tI .bool,.mapc tI .bool]⟩,exits:=[(.exit 2,⟨130,.any::.any::.con aa::.box 0 0::.any::.any::.box 1 0::.box 2 0::.box 3 0::aN 34 [.con aa,.con tI],[.cells [.con tI,.con tI,.con ae,.con aa,.con af,.con ac,.con aa],.cells [.con tI,.con tI,.nils,.nils,.nils,.nils,.nils],.cells [.omp 4],.cells [.omp 5],.mapv tI .bool,.mapc tI .bool]⟩,[ao])]}
noncomputable def K7 (ρ:Type):Ü ρ:=⟨[],79,2,aat,fun(p:Val (.pair aa (.pair aa (.pair tI (.pair tI (.pair tI (.pair ae (.pair aa (.pair af (.pair ac (.pair aa (.pair tI (.pair tI ao))))))))))))) (v:Val (.pair tI ao)) kn kx=>tm p.2.1 p.2.2.1 v.1 v.2 (fun u0 u1=>kn (u0,u1)) (kx 0)⟩
noncomputable def aas:Ç:={pin:=0,cs:=[aa,tI,tI,tI,ae,aa,af,ac,aa,tI,tI,ae,aa,af,ac,aa,tI,tI,aa,ao,ao,ae],vs:=[tI,aa],head:=⟨130,.any::.any::.any::.box 0 0::.any::.any::.box 1 0::.box 2 0::.box 3 0::aN 6 (.box 4 0::aN 52 [.con aa,.con tI,.var tI]),[.cells [.con tI,.con tI,.con ae,.con aa,.con af,.con ac,.con aa],.cells [.con tI,.con tI,.con ae,.con aa,.con af,.con ac,.con aa],.cells [.omp 5],.cells [.omp 6],.cells [.con tI,.con tI,.own 7,.own 8,.nils,.nils,.con aa],.mapc tI .bool,.mapc tI .bool,.rowc Ð,.rowv Ã]⟩,exits:=[(.exit 6,⟨130,.any::.any::.any::.box 0 0::.any::.any::.box 1 0::.box 2 0::.box 3 0::aN 6 (.box 4 0::aN 52 [.con aa,.con tI]),[.cells [.con tI,.con tI,.con ae,.con aa,.con af,.con ac,.con aa],.cells [.con tI,.con tI,.con ae,.con aa,.con af,.con ac,.con aa],.cells [.omp 5],.cells [.omp 6],.cells [.con tI,.con tI,.own 7,.own 8,.nils,.nils,.con aa],.mapc tI .bool,.mapc tI .bool,.rowc Ð,.rowv Ã]⟩,[aa])]}
noncomputable def qV (ρ:Type):Ü ρ:=⟨[],79,6,aas,fun(p:Val (.pair aa (.pair tI (.pair tI (.pair tI (.pair ae (.pair aa (.pair af (.pair ac (.pair aa (.pair tI (.pair tI (.pair ae (.pair aa (.pair af (.pair ac (.pair aa (.pair tI (.pair tI (.pair aa (.pair ao (.pair ao ae)))))))))))))))))))))) (v:Val aI) kn kx=>tk p.1 p.2.1 p.2.2.2.2.2.2.2.2.2.2.2.2.2.2.2.2.2.2.2.1 v.1 v.2 (fun u0 u1=>kn (u0,u1)) (kx 0)⟩
noncomputable def aar:Ç:={pin:=0,cs:=[af,tI,tI,tI,ae,aa,af,ac,aa,tI,tI,ae,aa,af,ac,aa,tI,tI,aa,ao,ao,ae,aa],vs:=[tI,af],head:=⟨130,.any::.any::.any::.box 0 0::.any::.any::.box 1 0::.box 2 0::.box 3 0::aN 6 (.box 4 0::aN 70 [.con af,.con tI,.var tI]),[.cells [.con tI,.con tI,.con ae,.con aa,.con af,.con ac,.con aa],.cells [.con tI,.con tI,.con ae,.con aa,.con af,.con ac,.con aa],.cells [.omp 5],.cells [.omp 6],.cells [.con tI,.con tI,.own 7,.own 8,.own 9,.nils,.con aa],.mapc tI .bool,.mapc tI .bool,.rowc Ð,.rowc Ã,.rowv Ń]⟩,exits:=[(.exit 8,⟨130,.any::.any::.any::.box 0 0::.any::.any::.box 1 0::.box 2 0::.box 3 0::aN 6 (.box 4 0::aN 70 [.con af,.con tI]),[.cells [.con tI,.con tI,.con ae,.con aa,.con af,.con ac,.con aa],.cells [.con tI,.con tI,.con ae,.con aa,.con af,.con ac,.con aa],.cells [.omp 5],.cells [.omp 6],.cells [.con tI,.con tI,.own 7,.own 8,.own 9,.nils,.con aa],.mapc tI .bool,.mapc tI .bool,.rowc Ð,.rowc Ã,.rowv Ń]⟩,[af])]}
noncomputable def qU (ρ:Type):Ü ρ:=⟨[],79,8,aar,fun(p:Val (.pair af (.pair tI (.pair tI (.pair tI (.pair ae (.pair aa (.pair af (.pair ac (.pair aa (.pair tI (.pair tI (.pair ae (.pair aa (.pair af (.pair ac (.pair aa (.pair tI (.pair tI (.pair aa (.pair ao (.pair ao (.pair ae aa))))))))))))))))))))))) (v:Val (.pair tI af)) kn kx=>tj p.1 p.2.1 p.2.2.2.2.2.2.2.2.2.2.2.2.2.2.2.2.2.2.2.1 v.1 v.2 (fun u0 u1=>kn (u0,u1)) (kx 0)⟩
noncomputable def aaq:Ç:={pin:=0,cs:=[ac,tI,tI,tI,ae,aa,af,ac,aa,tI,tI,aa,ao,ae,aa,af],vs:=[tI,ac],head:=⟨130,aN 6 (.box 0 0::.any::.box 1 0::aN 6 (.box 2 0::aN 88 [.con ac,.con tI,.var tI])),[.cells [.con tI,.con tI,.con ae,.con aa,.con af,.con ac,.con aa],.cells [.omp 3],.cells [.con tI,.con tI,.own 4,.own 5,.own 6,.own 7,.con aa],.mapc tI .bool,.rowc Ð,.rowc Ã,.rowc Ń,.rowv Ì]⟩,exits:=[(.exit 10,⟨130,aN 6 (.box 0 0::.any::.box 1 0::aN 6 (.box 2 0::aN 88 [.con ac,.con tI])),[.cells [.con tI,.con tI,.con ae,.con aa,.con af,.con ac,.con aa],.cells [.omp 3],.cells [.con tI,.con tI,.own 4,.own 5,.own 6,.own 7,.con aa],.mapc tI .bool,.rowc Ð,.rowc Ã,.rowc Ń,.rowv Ì]⟩,[ac])]}
noncomputable def qT (ρ:Type):Ü ρ:=⟨[],79,10,aaq,fun(p:Val (.pair ac (.pair tI (.pair tI (.pair tI (.pair ae (.pair aa (.pair af (.pair ac (.pair aa (.pair tI (.pair tI (.pair aa (.pair ao (.pair ae (.pair aa af)))))))))))))))) (v:Val (.pair tI ac)) kn kx=>tg p.1 p.2.1 p.2.2.2.2.2.2.2.2.2.2.2.2.1 v.1 v.2 (fun u0 u1=>kn (u0,u1)) (kx 0)⟩
noncomputable def Jh:List (Nat×Û):=[(100,Ŗ)]
noncomputable def DH (ρ:Type):List (Ü ρ):=[K8 ρ,K9 ρ,K7 ρ,qV ρ,qU ρ,qT ρ]
noncomputable def Ų (ρ:Type):Env ρ:=Ý Jh (DH ρ)
noncomputable def tf:Tpl:=⟨130,.any::.any::.any::.box 0 0::.any::.any::.box 1 0::.box 2 0::.box 3 0::aN 6 (.box 4 0::aN 43 [.fn 212 [(5,0),(6,0)]]),[.cells [.var tI,.var tI,.var ae,.var aa,.var af,.var ac,.var aa],.cells [.var tI,.var tI,.var ae,.var aa,.var af,.var ac,.var aa],.cells [.omp 7],.cells [.omp 8],.cells [.con tI,.con tI,.own 9,.nils,.nils,.nils,.con aa],.cells [.var tI,.var tI,.var ae,.var aa,.var af,.var ac,.var aa],.cells [.omp 7],.mapv tI .bool,.mapv tI .bool,.rowv Ð]⟩
noncomputable def Pp:Tpl:=⟨130,.any::.any::.any::.box 0 0::.any::.any::.box 1 0::.box 2 0::.box 3 0::aN 6 (.box 4 0::.box 10 0::aN 42 [.fn 212 [(5,0),(6,0)]]),[.cells [.var tI,.var tI,.var ae,.var aa,.var af,.var ac,.var aa],.cells [.var tI,.var tI,.var ae,.var aa,.var af,.var ac,.var aa],.cells [.omp 7],.cells [.omp 8],.cells [.con tI,.con tI,.own 9,.nils,.nils,.nils,.con aa],.cells [.var tI,.var tI,.var ae,.var aa,.var af,.var ac,.var aa],.cells [.omp 7],.mapv tI .bool,.mapv tI .bool,.rowv Ð,.cells [.var tI,.var tI,.var tI,.var tI,.var tI,.var tI,.var tI,.var tI]]⟩
noncomputable def qR (ρ:Type):List (Ü ρ):=[qV ρ,qU ρ,qT ρ]
noncomputable def Ĝ (ρ:Type):Env ρ:={Ý Jh (qR ρ) with inl:=fun _=>false}
noncomputable def pw:Tpl:=⟨130,aN 6 [.box 0 0],[.cells [.var tI,.var tI,.var ae,.var aa,.var af,.var ac,.var aa]]⟩
abbrev jy:List Ty:=[tI,tI,ae,aa,af,ac,aa]
noncomputable def kv (y:Val Ä):Val ah:=(y.1.1,y.1.2,y.2.1,y.2.2.1,y.2.2.2.1,y.2.2.2.2.1,y.2.2.2.2.2)
noncomputable def Ġ:Code:=(rD Tryz.prog 79).getD .skip
abbrev iX:List Ty:=[tI,tI,aa]
abbrev md:List Ty:=[tI,tI,ae,aa,af,ac,aa,tI,tI,ae,aa,af,ac,aa,tI,tI,ae,aa,af,ac,aa,ao,ao,ae]
abbrev zN:List Ty:=[tI,tI,ae,aa,af,ac,aa,tI,tI,ae,aa,af,ac,aa,tI,tI,ae,aa,af,ac,aa,ao,ao,ae,tI,tI,tI,tI,tI,tI,tI,tI]
abbrev ô (v:Val ai):List (Val Ð):=v.2.2.2.2.2.2.2.2.2.2.2.2.2.2.2.2.1
abbrev Ř (v:Val ai):List (Int×Bool):=v.2.2.2.2.2.2.2.2.2.2.2.2.2.2.2.2.2.2.2.2.2.1
abbrev uW (v:Val ai):List (Val Ð):=v.2.2.2.2.2.2.2.2.2.2.2.2.2.2.2.2.2.2.2.2.2.2.2
noncomputable def ğ (v:Val ai) (z:List (Val Ð)):Val ai:=(v.1,v.2.1,v.2.2.1,v.2.2.2.1,v.2.2.2.2.1,v.2.2.2.2.2.1,v.2.2.2.2.2.2.1,v.2.2.2.2.2.2.2.1,v.2.2.2.2.2.2.2.2.1,v.2.2.2.2.2.2.2.2.2.1,v.2.2.2.2.2.2.2.2.2.2.1,v.2.2.2.2.2.2.2.2.2.2.2.1,v.2.2.2.2.2.2.2.2.2.2.2.2.1,v.2.2.2.2.2.2.2.2.2.2.2.2.2.1,v.2.2.2.2.2.2.2.2.2.2.2.2.2.2.1,v.2.2.2.2.2.2.2.2.2.2.2.2.2.2.2.1,v.2.2.2.2.2.2.2.2.2.2.2.2.2.2.2.2.1,v.2.2.2.2.2.2.2.2.2.2.2.2.2.2.2.2.2.1,v.2.2.2.2.2.2.2.2.2.2.2.2.2.2.2.2.2.2.1,v.2.2.2.2.2.2.2.2.2.2.2.2.2.2.2.2.2.2.2.1,v.2.2.2.2.2.2.2.2.2.2.2.2.2.2.2.2.2.2.2.2.1,v.2.2.2.2.2.2.2.2.2.2.2.2.2.2.2.2.2.2.2.2.2.1,v.2.2.2.2.2.2.2.2.2.2.2.2.2.2.2.2.2.2.2.2.2.2.1,z)
noncomputable def DI (v:Val ai) (x:Val Ð):Val (.pair tI (.pair tI (.pair ae (.pair aa (.pair af (.pair ac (.pair aa (.pair tI (.pair tI (.pair ae (.pair aa (.pair af (.pair ac (.pair aa (.pair tI (.pair tI (.pair ae (.pair aa (.pair af (.pair ac (.pair aa (.pair ao (.pair ao (.pair ae au)))))))))))))))))))))))):=(v.1,v.2.1,v.2.2.1,v.2.2.2.1,v.2.2.2.2.1,v.2.2.2.2.2.1,v.2.2.2.2.2.2.1,v.2.2.2.2.2.2.2.1,v.2.2.2.2.2.2.2.2.1,v.2.2.2.2.2.2.2.2.2.1,v.2.2.2.2.2.2.2.2.2.2.1,v.2.2.2.2.2.2.2.2.2.2.2.1,v.2.2.2.2.2.2.2.2.2.2.2.2.1,v.2.2.2.2.2.2.2.2.2.2.2.2.2.1,v.2.2.2.2.2.2.2.2.2.2.2.2.2.2.1,v.2.2.2.2.2.2.2.2.2.2.2.2.2.2.2.1,v.2.2.2.2.2.2.2.2.2.2.2.2.2.2.2.2.1,v.2.2.2.2.2.2.2.2.2.2.2.2.2.2.2.2.2.1,v.2.2.2.2.2.2.2.2.2.2.2.2.2.2.2.2.2.2.1,v.2.2.2.2.2.2.2.2.2.2.2.2.2.2.2.2.2.2.2.1,v.2.2.2.2.2.2.2.2.2.2.2.2.2.2.2.2.2.2.2.2.1,v.2.2.2.2.2.2.2.2.2.2.2.2.2.2.2.2.2.2.2.2.2.1,v.2.2.2.2.2.2.2.2.2.2.2.2.2.2.2.2.2.2.2.2.2.2.1,v.2.2.2.2.2.2.2.2.2.2.2.2.2.2.2.2.2.2.2.2.2.2.2,x.1,x.2.1,x.2.2.1,x.2.2.2.1.1,x.2.2.2.1.2,x.2.2.2.2.1.1,x.2.2.2.2.1.2,x.2.2.2.2.2)
def TX:Û:=⟨[Ì],[.bool],fun(x:Val Ì)=>Aa x⟩
def V4:List (Nat×Û):=[]
def Bl (ρ:Type):List (Ü ρ):=[]
def KH (ρ:Type):Env ρ:=Ý V4 (Bl ρ)
def aeH:Û:=⟨[Ä],[.bool],fun(x:Val Ä)=>Nv x⟩
def V2:Ç:={pin:=0,cs:=[tI,tI,ae,aa,af,ac,aa],vs:=[tI],head:=⟨50,[.any,.box 0 0,.any,.var tI],[bm]⟩,exits:=[(.ret,⟨50,[.any,.box 0 0,.var .bool],[bm]⟩,[.bool]),(.exit 0,⟨50,[.any,.box 0 0],[bm]⟩,[])]}
def E5 (ρ:Type):Ü ρ:=⟨[],7,0,V2,fun(p:Val ah) (v:Val tI) b a=>uH p.2.2.2.2.2.1 v (fun c=>b c) (a 0) (a 1)⟩
def acL:List (Nat×Û):=[(33,TX)]
def KG (ρ:Type):List (Ü ρ):=[E5 ρ]
def IM (ρ:Type):Env ρ:=Ý acL (KG ρ)
def Ů:Û:=⟨[aa,Ã],[tI],fun(x:Val ba)=>ý x.1 x.2⟩
def lH:Ç:={pin:=0,cs:=[aa,tI,tI,tI],vs:=[tI],head:=⟨19,[.con aa,.any,.any,.box 0 0,.any,.any,.any,.con tI,.var tI],[bt]⟩,exits:=[(.ret,⟨19,[.con aa,.any,.any,.box 0 0,.var tI,.any,.any,.con tI],[bt]⟩,[tI]),(.exit 0,⟨19,[.con aa,.any,.any,.box 0 0,.any,.any,.any,.con tI],[bt]⟩,[])]}
def π (ρ:Type):Ü ρ:=⟨[],119,0,lH,fun(p:Val (.pair aa Ą)) (v:Val tI) b a=>ģ p.1 p.2.1 p.2.2.1 p.2.2.2 v (fun c=>b c) (a 0) (a 1)⟩
def mN:List (Nat×Û):=[]
def gV (ρ:Type):List (Ü ρ):=[π ρ]
def Ŝ (ρ:Type):Env ρ:=Ý mN (gV ρ)
def iN:Û:=⟨[Ä,Ã],[tI,tI],fun(x:Val aJ)=>Ģ x.1 x.2⟩
def aa8:List (Nat×Û):=[(43,ń),(113,EP),(119,Ů)]
def Ht (ρ:Type):List (Ü ρ):=[]
def Qr (ρ:Type):Env ρ:=Ý aa8 (Ht ρ)
def jg:Û:=⟨[ak,Ã],[tI],fun(x:Val aU)=>Š x.1 x.2⟩
def Sy:List (Nat×Û):=[(53,iN)]
def ya (ρ:Type):List (Ü ρ):=[]
def FQ (ρ:Type):Env ρ:=Ý Sy (ya ρ)
def Nh:Û:=⟨[Ò,tI],[.bool],fun(x:Val (.pair Ò tI))=>rA x.1 x.2⟩
def ac8:List (Nat×Û):=[]
def Ld (ρ:Type):List (Ü ρ):=[]
def Us (ρ:Type):Env ρ:=Ý ac8 (Ld ρ)
def sH:Û:=⟨[Ò],[tI,tI],fun(x:Val Ò)=>ni x⟩
def S7:Ç:={pin:=0,cs:=[aj,tI,tI,aj],vs:=[tI],head:=⟨57,.any::.box 0 0::aN 17 [.con aj,.con tI,.var tI],[bu]⟩,exits:=[(.ret,⟨57,.any::.box 0 0::.var tI::.var tI::aN 15 [.con aj,.con tI],[bu]⟩,[tI,tI]),(.exit 0,⟨57,.any::.box 0 0::aN 17 [.con aj,.con tI],[bu]⟩,[])]}
def Cb (ρ:Type):Ü ρ:=⟨[],146,0,S7,fun(p:Val (.pair aj aO)) (v:Val tI) b a=>qZ p.1 p.2.1 p.2.2.1 p.2.2.2 v (fun c=>b c) (a 0) (a 1)⟩
def aaG:List (Nat×Û):=[(173,Nh)]
def GF (ρ:Type):List (Ü ρ):=[Cb ρ]
def DR (ρ:Type):Env ρ:=Ý aaG (GF ρ)
def qk:Û:=⟨[Ò,ao],[ab,.bool],fun(x:Val (.pair Ò ao))=>kE x.1 x.2⟩
def tM:Ç:={pin:=2,cs:=[ao,aj,tI,tI,aj,ab,tI,aj,am,ab],vs:=[tI,tI],head:=⟨140,.any::.con ao::.own 1::.box 2 0::aN 3 (.box 3 0::.own 4::.own 5::.var tI::aN 14 [.con aj,.con tI,.var tI]),[bu,.rowc tI,bu,.cells [.nils],.rowc .bool,.rowc tI]⟩,exits:=[(.exit 0,⟨140,.any::.con ao::.own 1::.box 2 0::aN 3 (.box 3 0::.own 4::.own 5::.var tI::aN 14 [.con aj,.con tI]),[bu,.rowc tI,bu,.cells [.nils],.rowc .bool,.rowc tI]⟩,[tI])]}
def tK (ρ:Type):Ü ρ:=⟨[2,3],210,0,tM,fun(p:Val (tyL tM.cs)) (v:Val Ã) a b=>gY p.2.1 p.2.2.1 v.1 v.2 (fun c d=>a (c,d)) (b 0)⟩
def tJ:Ç:={pin:=2,cs:=[ao,tI,tI,tI,aj,ab,tI,aj,ab],vs:=[tI,am,ab],head:=⟨140,.any::.con ao::.own 1::.box 2 0::aN 3 (.box 3 0::.own 4::.own 5::.con tI::aN 27 [.con tI,.var tI]),bZ⟩,exits:=[(.exit 2,⟨140,.any::.con ao::.own 1::.box 2 0::aN 3 (.box 3 0::.own 4::.own 5::.con tI::aN 27 [.con tI]),bZ⟩,[am,ab])]}
def tG (ρ:Type):Ü ρ:=⟨[2,3],210,2,tJ,fun(p:Val (tyL tJ.cs)) (v:Val (.pair tI aQ)) a b=>ő p.2.2.1 p.2.2.2.2.2.1 v.1 v.2.1 v.2.2 (fun c d e=>a (c,d,e)) (b 0)⟩
def tD:Ç:={pin:=2,cs:=[ao,tI,tI,aj,tI,tI,aj,tI,aj,ab],vs:=[tI,ab,am,ab],head:=⟨140,.any::.con ao::.own 1::.box 2 0::aN 3 (.box 3 0::.own 4::.own 5::.con tI::aN 3 (.con tI::aN 62 [.con aj,.con tI,.var tI])),b7⟩,exits:=[(.ret,⟨140,.any::.con ao::.own 1::.box 2 0::aN 2 (.var .bool::.box 3 0::.own 4::.own 5::.con tI::aN 3 (.con tI::aN 62 [.con aj,.con tI])),b7⟩,[.bool,ab,am,ab]),(.exit 6,⟨140,.any::.con ao::.own 1::.box 2 0::aN 3 (.box 3 0::.own 4::.own 5::.con tI::aN 3 (.con tI::aN 62 [.con aj,.con tI])),b7⟩,[ab,am,ab])]}
def tC (ρ:Type):Ü ρ:=⟨[2,3],210,6,tD,fun(p:Val (tyL tD.cs)) (v:Val (.pair tI (.pair ab aQ))) b a=>jj p.1 p.2.1 p.2.2.1 p.2.2.2.1 p.2.2.2.2.1 v.1 v.2.1 v.2.2.1 v.2.2.2 (fun c d e f=>b (c,d,e,f)) (a 0) (a 1)⟩
def tF:Ç:={pin:=2,cs:=[ao,tI,tI,aj,tI,aj],vs:=[ab,am,ab,ab],head:=⟨140,[.any,.con ao,.own 1,.box 2 0,.any,.any,.any,.box 3 0,.own 4,.own 5,.con tI],b8⟩,exits:=[(.ret,⟨140,[.any,.con ao,.own 1,.box 2 0,.any,.any,.var .bool,.box 3 0,.own 4,.own 5,.con tI],b8⟩,[.bool,ab,am,ab,ab])]}
def tE (ρ:Type):Ü ρ:=⟨[2,3],210,4,tF,fun(p:Val (tyL tF.cs)) (v:Val aY) a b=>ĥ p.1 p.2.1 p.2.2.2.2.1 p.2.2.2.2.2 v.1 v.2.1 v.2.2.1 v.2.2.2 (fun c d e f=>a (c,d,e,f)) (b 0)⟩
def Jv:Ç:={pin:=0,cs:=[tI,tI],vs:=[tI,ab],head:=⟨34,aN 6 (.own 0::.con tI::aN 13 [.con tI,.var tI]),[.rowv tI]⟩,exits:=[(.exit 0,⟨34,aN 6 (.own 0::.con tI::aN 13 [.con tI]),[.rowv tI]⟩,[ab])]}
def tB (ρ:Type):Ü ρ:=⟨[],147,0,Jv,fun(p:Val Ã) (v:Val ay) a b=>ji p.1 p.2 v.1 v.2 (fun c d=>a (c,d)) (b 0)⟩
def PD:List (Nat×Û):=[]
def wL (ρ:Type):List (Ü ρ):=[tK ρ,tG ρ,tC ρ,tE ρ,tB ρ]
def δ (ρ:Type):Env ρ:=Ý PD (wL ρ)
def Zw:Û:=⟨[Ò,ab],[tI],fun(x:Val bh)=>HV x.1 x.2⟩
def S0:Ç:={pin:=0,cs:=[ab,tI,tI,aj],vs:=[tI],head:=⟨37,aN 2 (.box 0 0::aN 16 [.con ab,.con tI,.var tI]),[bu]⟩,exits:=[(.ret,⟨37,aN 2 (.box 0 0::.any::.var tI::aN 14 [.con ab,.con tI]),[bu]⟩,[tI]),(.exit 0,⟨37,aN 2 (.box 0 0::aN 16 [.con ab,.con tI]),[bu]⟩,[])]}
def BZ (ρ:Type):Ü ρ:=⟨[],184,0,S0,fun(p:Val (.pair ab aO)) (v:Val tI) b a=>qX p.1 p.2.1 p.2.2.1 p.2.2.2 v (fun c=>b c) (a 0) (a 1)⟩
def aaE:List (Nat×Û):=[(146,sH),(147,qk),(173,Nh)]
def GB (ρ:Type):List (Ü ρ):=[BZ ρ]
def DQ (ρ:Type):Env ρ:=Ý aaE (GB ρ)
def Ub:Û:=⟨[Ò,ao,tI],[ab],fun(x:Val (.pair Ò (.pair ao tI)))=>Ao x.1 x.2.1 x.2.2⟩
def yL:Ç:={pin:=0,cs:=[ao,tI,tI,tI,aj],vs:=[tI,ab],head:=⟨29,.any::.con ao::.con tI::.box 0 0::aN 3 (.own 1::aN 5 [.con tI,.var tI]),[bu,.rowv tI]⟩,exits:=[(.exit 0,⟨29,.any::.con ao::.con tI::.box 0 0::aN 3 (.own 1::aN 5 [.con tI]),[bu,.rowv tI]⟩,[ab])]}
def yK (ρ:Type):Ü ρ:=⟨[],185,0,yL,fun(p:Val (tyL yL.cs)) (v:Val ay) a b=>oa p.2.2.1 v.1 v.2 (fun c d=>a (c,d)) (b 0)⟩
def yJ:Ç:={pin:=2,cs:=[ao,aj,tI,tI,aj,ab,tI,aj,am,ab],vs:=[tI,tI],head:=⟨140,.any::.con ao::.own 1::.box 2 0::aN 3 (.box 3 0::.own 4::.own 5::.var tI::aN 14 [.con aj,.con tI,.var tI]),[bu,.rowc tI,bu,.cells [.nils],.rowc .bool,.rowc tI]⟩,exits:=[(.exit 0,⟨140,.any::.con ao::.own 1::.box 2 0::aN 3 (.box 3 0::.own 4::.own 5::.var tI::aN 14 [.con aj,.con tI]),[bu,.rowc tI,bu,.cells [.nils],.rowc .bool,.rowc tI]⟩,[tI])]}
def yI (ρ:Type):Ü ρ:=⟨[8,3],210,0,yJ,fun(p:Val (tyL yJ.cs)) (v:Val Ã) a b=>vl p.2.1 p.2.2.1 v.1 v.2 (fun c d=>a (c,d)) (b 0)⟩
def yH:Ç:={pin:=2,cs:=[ao,tI,tI,tI,aj,ab,tI,aj,ab],vs:=[tI,am,ab],head:=⟨140,.any::.con ao::.own 1::.box 2 0::aN 3 (.box 3 0::.own 4::.own 5::.con tI::aN 27 [.con tI,.var tI]),bZ⟩,exits:=[(.exit 2,⟨140,.any::.con ao::.own 1::.box 2 0::aN 3 (.box 3 0::.own 4::.own 5::.con tI::aN 27 [.con tI]),bZ⟩,[am,ab])]}
def yG (ρ:Type):Ü ρ:=⟨[8,3],210,2,yH,fun(p:Val (tyL yH.cs)) (v:Val (.pair tI aQ)) a b=>vk p.2.2.1 p.2.2.2.2.2.1 v.1 v.2.1 v.2.2 (fun c d e=>a (c,d,e)) (b 0)⟩
def yD:Ç:={pin:=2,cs:=[ao,tI,tI,aj,tI,tI,aj,tI,aj,ab],vs:=[tI,ab,am,ab],head:=⟨140,.any::.con ao::.own 1::.box 2 0::aN 3 (.box 3 0::.own 4::.own 5::.con tI::aN 3 (.con tI::aN 62 [.con aj,.con tI,.var tI])),b7⟩,exits:=[(.ret,⟨140,.any::.con ao::.own 1::.box 2 0::aN 2 (.var .bool::.box 3 0::.own 4::.own 5::.con tI::aN 3 (.con tI::aN 62 [.con aj,.con tI])),b7⟩,[.bool,ab,am,ab]),(.exit 6,⟨140,.any::.con ao::.own 1::.box 2 0::aN 3 (.box 3 0::.own 4::.own 5::.con tI::aN 3 (.con tI::aN 62 [.con aj,.con tI])),b7⟩,[ab,am,ab])]}
def yC (ρ:Type):Ü ρ:=⟨[8,3],210,6,yD,fun(p:Val (tyL yD.cs)) (v:Val (.pair tI (.pair ab aQ))) b a=>GA p.1 p.2.1 p.2.2.1 p.2.2.2.1 p.2.2.2.2.1 v.1 v.2.1 v.2.2.1 v.2.2.2 (fun c d e f=>b (c,d,e,f)) (a 0) (a 1)⟩
def yF:Ç:={pin:=2,cs:=[ao,tI,tI,aj,tI,aj],vs:=[ab,am,ab,ab],head:=⟨140,[.any,.con ao,.own 1,.box 2 0,.any,.any,.any,.box 3 0,.own 4,.own 5,.con tI],b8⟩,exits:=[(.ret,⟨140,[.any,.con ao,.own 1,.box 2 0,.any,.any,.var .bool,.box 3 0,.own 4,.own 5,.con tI],b8⟩,[.bool,ab,am,ab,ab])]}
def yE (ρ:Type):Ü ρ:=⟨[8,3],210,4,yF,fun(p:Val (tyL yF.cs)) (v:Val aY) a b=>vh p.1 p.2.1 p.2.2.2.2.1 p.2.2.2.2.2 v.1 v.2.1 v.2.2.1 v.2.2.2 (fun c d e f=>a (c,d,e,f)) (b 0)⟩
def Xa:List (Nat×Û):=[]
def BX (ρ:Type):List (Ü ρ):=[yK ρ,yI ρ,yG ρ,yC ρ,yE ρ]
def jk (ρ:Type):Env ρ:=Ý Xa (BX ρ)
def EL:Û:=⟨[Ò,tI,tI],[tI,tI],fun(x:Val bc)=>pQ x.1 x.2.1 x.2.2⟩
def aaI:List (Nat×Û):=[(184,Zw),(185,Ub)]
def GJ (ρ:Type):List (Ü ρ):=[]
def PU (ρ:Type):Env ρ:=Ý aaI (GJ ρ)
def iW:Û:=⟨[ak,tI,tI],[tI],fun(x:Val aU)=>Ë x.1 x.2.1 x.2.2⟩
def Jc:List (Nat×Û):=[(118,EL)]
def qO (ρ:Type):List (Ü ρ):=[]
def wA (ρ:Type):Env ρ:=Ý Jc (qO ρ)
def rH:Û:=⟨[ak,Ã],[tI],fun(x:Val aU)=>η x.1 x.2⟩
def Jb:List (Nat×Û):=[(50,jg),(52,iW)]
def qN (ρ:Type):List (Ü ρ):=[]
def wz (ρ:Type):Env ρ:=Ý Jb (qN ρ)
def lT:Û:=⟨[ak,Ã],[tI],fun(x:Val aU)=>hO x.1 x.2⟩
def A1:List (Nat×Û):=[(50,jg),(52,iW)]
def mS (ρ:Type):List (Ü ρ):=[]
def pq (ρ:Type):Env ρ:=Ý A1 (mS ρ)
def jt:Û:=⟨[ak,Ã],[Ã],fun(x:Val aU)=>ū x.1 x.2⟩
def A0:List (Nat×Û):=[(96,rH),(97,lT)]
def mR (ρ:Type):List (Ü ρ):=[]
def kd (ρ:Type):Env ρ:={Ý A0 (mR ρ) with hint:=JZ [(12,96),(16,97)]}
def mu:Û:=⟨[Ä,Ã],[Ä,tI],fun(x:Val aJ)=>Ÿ x.1 x.2⟩
def Hs:Ç:={pin:=6,cs:=[tI,tI,tI,ae,aa,af,ac,aa,tI,tI,tI,tI,tI,tI,ae,aa,af,ac,aa,tI,tI,tI,tI,ac,tI,tI,ae,aa,af,aa],vs:=[tI,ac],head:=⟨50,.any::.box 6 0::.box 7 0::.own 8::aN 21 [.own 8,.con tI,.var tI],b9⟩,exits:=[(.exit 0,⟨50,.any::.box 6 0::.box 7 0::.own 8::aN 21 [.own 8,.con tI],b9⟩,[ac])]}
def Hr (ρ:Type):Ü ρ:=⟨[1,2,4,1],186,0,Hs,fun(p:Val (tyL Hs.cs)) (v:Val (.pair tI ac)) a b=>vE p.1 v.1 v.2 (fun c d=>a (c,d)) (b 0)⟩
def adw:List (Nat×Û):=[(43,ń)]
def LD (ρ:Type):List (Ü ρ):=[Hr ρ]
def JQ (ρ:Type):Env ρ:=Ý adw (LD ρ)
def xr:Û:=⟨[aX,ab,tI],[tI],fun(x:Val (.pair aX aK))=>iq x.1 x.2.1 x.2.2⟩
def Qj:List (Nat×Û):=[(119,Ů)]
def wT (ρ:Type):List (Ü ρ):=[]
def Cn (ρ:Type):Env ρ:=Ý Qj (wT ρ)
def aeP:Û:=⟨[Ä,Ð,tI,tI],[tI],fun(x:Val (.pair Ä (.pair Ð Ã)))=>Ap x.1 x.2.1 x.2.2.1 x.2.2.2⟩
def G7:Ç:={pin:=0,cs:=[tI,tI,af,tI,tI,tI,ae,aa,af,ac,aa,tI,tI,tI,tI,tI,tI,tI,tI],vs:=[tI,tI],head:=⟨88,aN 2 (.con tI::.con tI::.box 0 0::.box 1 0::aN 3 (.var tI::aN 7 [.con af,.con tI,.var tI])),[bm,bn]⟩,exits:=[(.exit 0,⟨88,aN 2 (.con tI::.con tI::.box 0 0::.box 1 0::aN 3 (.var tI::aN 7 [.con af,.con tI])),[bm,bn]⟩,[tI])]}
def G6 (ρ:Type):Ü ρ:=⟨[],207,0,G7,fun(p:Val (tyL G7.cs)) (v:Val Ã) a b=>vx p.1 p.2.1 p.2.2.1 p.2.2.2.1 p.2.2.2.2.2.2.2.2.2.2.2.1 v.1 v.2 (fun c d=>a (c,d)) (b 0)⟩
def G5:Ç:={pin:=0,cs:=[tI,tI,tI,aa,tI,tI,tI,tI,tI,tI,tI,tI,tI],vs:=[tI,ab],head:=⟨88,aN 2 (.con tI::.con tI::.any::.box 0 0::aN 3 (.con tI::aN 3 (.own 1::aN 39 [.con aa,.con tI,.var tI]))),bW⟩,exits:=[(.exit 2,⟨88,aN 2 (.con tI::.con tI::.any::.box 0 0::aN 3 (.con tI::aN 3 (.own 1::aN 39 [.con aa,.con tI]))),bW⟩,[ab])]}
def G4 (ρ:Type):Ü ρ:=⟨[],207,2,G5,fun(p:Val (tyL G5.cs)) (v:Val ay) a b=>vw p.1 p.2.1 p.2.2.2.1 p.2.2.2.2.1 p.2.2.2.2.2.1 v.1 v.2 (fun c d=>a (c,d)) (b 0)⟩
def adq:List (Nat×Û):=[(144,kp)]
def Lu (ρ:Type):List (Ü ρ):=[G6 ρ,G4 ρ]
def zS (ρ:Type):Env ρ:=Ý adq (Lu ρ)
def wj:Û:=⟨[aw,ab],[Ã],fun(x:Val (.pair aw ab))=>iT x.1 x.2⟩
def DX:List (Nat×Û):=[]
def nH (ρ:Type):List (Ü ρ):=[]
def rj (ρ:Type):Env ρ:=Ý DX (nH ρ)
def sI:Û:=⟨[aa],[tI],fun(x:Val aa)=>jU x⟩
def S8:Ç:={pin:=0,cs:=[aa,tI],vs:=[tI],head:=⟨15,aN 5 [.con aa,.con tI,.var tI],[]⟩,exits:=[(.ret,⟨15,[.any,.any,.var tI,.any,.any,.con aa,.con tI],[]⟩,[tI]),(.exit 0,⟨15,aN 5 [.con aa,.con tI],[]⟩,[])]}
def Ci (ρ:Type):Ü ρ:=⟨[],261,0,S8,fun(p:Val (.pair aa tI)) (v:Val tI) b a=>rh p.1 p.2 v (fun c=>b c) (a 0) (a 1)⟩
def aaJ:List (Nat×Û):=[(218,EM)]
def GK (ρ:Type):List (Ü ρ):=[Ci ρ]
def DS (ρ:Type):Env ρ:=Ý aaJ (GK ρ)
def CV:Û:=⟨[tI,tI],[Ã,tI],fun(x:Val Ã)=>pR x.1 x.2⟩
def S9:List (Nat×Û):=[(249,VE),(250,acE)]
def yM (ρ:Type):List (Ü ρ):=[]
def GM (ρ:Type):Env ρ:=Ý S9 (yM ρ)
def ahT:Û:=⟨[Ã,Ã],[Ã,tI],fun(x:Val è)=>X3 x.1 x.2⟩
def agk:List (Nat×Û):=[(261,sI),(285,CV)]
def P5 (ρ:Type):List (Ü ρ):=[]
def aaP (ρ:Type):Env ρ:=Ý agk (P5 ρ)
def EO:Û:=⟨[Ã,Ã],[Ã],fun(x:Val è)=>vU x.1 x.2⟩
def MQ:List (Nat×Û):=[(275,ahT)]
def tO (ρ:Type):List (Ü ρ):=[]
def yP (ρ:Type):Env ρ:=Ý MQ (tO ρ)
def acF:Û:=⟨[Ã,Ã],[tI],fun(x:Val è)=>QU x.1 x.2⟩
def agj:List (Nat×Û):=[]
def P2 (ρ:Type):List (Ü ρ):=[]
def aaN (ρ:Type):Env ρ:=Ý agj (P2 ρ)
def Bh:Û:=⟨[è],[.bool],fun(x:Val è)=>sh x⟩
def JD:List (Nat×Û):=[(261,sI),(291,acF)]
def ri (ρ:Type):List (Ü ρ):=[]
def wQ (ρ:Type):Env ρ:=Ý JD (ri ρ)
def ahU:Û:=⟨[Ã,Ã],[Ã,tI],fun(x:Val è)=>QW x.1 x.2⟩
def agl:List (Nat×Û):=[(261,sI),(285,CV)]
def P7 (ρ:Type):List (Ü ρ):=[]
def aaR (ρ:Type):Env ρ:=Ý agl (P7 ρ)
def Zz:Û:=⟨[è,Ã],[è,tI],fun(x:Val (.pair è Ã))=>QV x.1 x.2⟩
def Lp:List (Nat×Û):=[(218,EM),(286,Bh),(289,ahU),(291,acF)]
def vm (ρ:Type):List (Ü ρ):=[]
def Ln:List aj4:=[⟨[3,2],287,0,4⟩]
def aaQ (ρ:Type):Env ρ:=Ý Lp (vm ρ)
def DU (ρ:Type):Env ρ:=aik Lp (vm ρ) Ln
def EN:Û:=⟨[Ã,Ã],[è],fun(x:Val è)=>oi x.1 x.2⟩
def MP:List (Nat×Û):=[(276,Zz)]
def tN (ρ:Type):List (Ü ρ):=[]
def yO (ρ:Type):Env ρ:=Ý MP (tN ρ)
def IH:Û:=⟨[Ä,Ì],[è],fun(x:Val aE)=>oH x.1 x.2⟩
def XB:List (Nat×Û):=[(111,CW),(183,zJ),(258,wj),(259,EO),(260,EN)]
def Cq (ρ:Type):List (Ü ρ):=[]
def Lx (ρ:Type):Env ρ:=Ý XB (Cq ρ)
def Oc:Û:=⟨[Ä,Ì],[Ã],fun(x:Val aE)=>uj x.1 x.2⟩
def aa2:List (Nat×Û):=[]
def Hc (ρ:Type):List (Ü ρ):=[]
def Qo (ρ:Type):Env ρ:=Ý aa2 (Hc ρ)
def N9:Û:=⟨[tI,tI],[tI],fun(x:Val Ã)=>uf x.1 x.2⟩
def aaM:List (Nat×Û):=[]
def GN (ρ:Type):List (Ü ρ):=[]
def P1 (ρ:Type):Env ρ:=Ý aaM (GN ρ)
def Oa:Û:=⟨[Ã],[tI,tI],fun(x:Val Ã)=>zn x⟩
def aaS:List (Nat×Û):=[(261,sI),(262,N9)]
def GR (ρ:Type):List (Ü ρ):=[]
def P8 (ρ:Type):Env ρ:=Ý aaS (GR ρ)
def VF:Û:=⟨[Ã],[tI,tI],fun(x:Val Ã)=>HW x⟩
def adn:List (Nat×Û):=[(261,sI),(262,N9)]
def Lq (ρ:Type):List (Ü ρ):=[]
def UB (ρ:Type):Env ρ:=Ý adn (Lq ρ)
def VG:Û:=⟨[Ä,Ì],[Ã],fun(x:Val aE)=>vT x.1 x.2⟩
def ado:List (Nat×Û):=[(243,IH),(244,Oc),(245,Oa),(246,VF)]
def Ls (ρ:Type):List (Ü ρ):=[]
def UC (ρ:Type):Env ρ:=Ý ado (Ls ρ)
def VH:Û:=⟨[Ä],[aX],fun(x:Val Ä)=>HY x⟩
def G1:Ç:={pin:=2,cs:=[tI,ab,tI,ae,tI,tI,tI,tI,ae,aa,af,ac,aa,tI,tI,ae,aa,af,ac,aa,aa,tI,tI,tI,tI,tI,tI,tI,tI,tI],vs:=[tI,aj,aa],head:=⟨144,.box 1 0::.any::.con tI::.box 2 0::.con ab::.con tI::.var tI::aN 24 [.con ae,.con tI,.con tI],[bm,bB,bn,.rowv Ą,.rowv Ã]⟩,exits:=[(.exit 2,⟨144,.box 1 0::.any::.con tI::.box 2 0::.con ab::.con tI::aN 25 [.con ae,.con tI,.con tI],[bm,bB,bn,.rowv Ą,.rowv Ã]⟩,[aj,aa])]}
def G0 (ρ:Type):Ü ρ:=⟨[2,1],142,2,G1,fun(p:Val (tyL G1.cs)) (v:Val aR) a b=>let A:=p.2.2.2.2.2.2.2.2.2.2.2.2.2;let B:=A.2.2.2.2;let C:=B.2.2.2.2.2;let D:=C.2.2.2.2;vu p.1 p.2.1 p.2.2.1 A.1 A.2.1 A.2.2.1 A.2.2.2.1 B.1 B.2.1 B.2.2.1 C.1 C.2.1 C.2.2.1 C.2.2.2.1 D.1 D.2.1 D.2.2.1 D.2.2.2 v.1 v.2.1 v.2.2 (fun c d e=>a (c,d,e)) (b 0)⟩
def G3:Ç:={pin:=2,cs:=[ae,tI,tI,tI,ae,aa,af,ac,aa,tI,tI,ae,aa,af,ac,aa,aa,tI],vs:=[tI,aj,aa],head:=⟨144,.box 1 0::aN 30 [.con ae,.con tI,.var tI],ca⟩,exits:=[(.exit 0,⟨144,.box 1 0::aN 30 [.con ae,.con tI],ca⟩,[aj,aa])]}
def G2 (ρ:Type):Ü ρ:=⟨[2,1],142,0,G3,fun(p:Val (tyL G3.cs)) (v:Val aR) a b=>let A:=p.2.2.2.2.2.2.2.2.2;let B:=A.2.2.2.2;vv p.1 p.2.1 A.1 A.2.1 A.2.2.1 A.2.2.2.1 B.1 B.2.1 B.2.2.1 B.2.2.2.1 B.2.2.2.2 v.1 v.2.1 v.2.2 (fun c d e=>a (c,d,e)) (b 0)⟩
def GZ:Ç:={pin:=2,cs:=[ac,tI,tI,tI,ae,aa,af,ac,aa,tI,tI,ae,aa,af,ac,aa,aa,tI],vs:=[tI,aj,aa],head:=⟨144,.box 1 0::aN 107 [.con ac,.con tI,.var tI],ca⟩,exits:=[(.exit 4,⟨144,.box 1 0::aN 107 [.con ac,.con tI],ca⟩,[aj,aa])]}
def GY (ρ:Type):Ü ρ:=⟨[2,1],142,4,GZ,fun(p:Val (tyL GZ.cs)) (v:Val aR) a b=>let A:=p.2.2.2.2.2.2.2.2.2;let B:=A.2.2.2.2;vt p.1 p.2.1 A.1 A.2.1 A.2.2.1 A.2.2.2.1 B.1 B.2.1 B.2.2.1 B.2.2.2.1 B.2.2.2.2 v.1 v.2.1 v.2.2 (fun c d e=>a (c,d,e)) (b 0)⟩
def adp:List (Nat×Û):=[(113,EP),(181,VI),(183,zJ),(205,xr),(207,aeP),(208,VG)]
def Lt (ρ:Type):List (Ü ρ):=[G0 ρ,G2 ρ,GY ρ]
def tP (ρ:Type):Env ρ:=Ý adp (Lt ρ)
def ŗ:Û:=⟨[Ä],[Ò,aa,tI],fun(x:Val Ä)=>ē x⟩
def XH:List (Nat×Û):=[(43,ń),(74,VH)]
def Cr (ρ:Type):List (Ü ρ):=[]
def LB (ρ:Type):Env ρ:=Ý XH (Cr ρ)
def ŋ:Û:=⟨[Ò],[.bool,tI],fun(x:Val Ò)=>ā x⟩
def JA:List (Nat×Û):=[(146,sH),(147,qk)]
def qY (ρ:Type):List (Ü ρ):=[]
def wN (ρ:Type):Env ρ:=Ý JA (qY ρ)
def xq:Û:=⟨[Ä,Ã],[Ã,tI],fun(x:Val aJ)=>kD x.1 x.2⟩
def tv:Ç:={pin:=4,cs:=[tI,tI,tI,ae,aa,af,ac,aa,tI,tI,tI,tI,aa],vs:=[tI,tI,tI,ae,aa,af,ac,aa],head:=⟨68,aN 2 (.box 4 0::aN 20 [.own 3,.con tI,.var tI]),cd⟩,exits:=[(.ret,⟨68,aN 2 (.box 4 0::.any::.nilp::.var tI::aN 17 [.own 3,.con tI]),cd⟩,[tI,tI,tI,ae,aa,af,ac,aa]),(.exit 0,⟨68,aN 2 (.box 4 0::aN 20 [.own 3,.con tI]),cd⟩,[tI,tI,ae,aa,af,ac,aa])]}
def tr (ρ:Type):Ü ρ:=⟨[1,3],41,0,tv,fun(p:Val (tyL tv.cs)) (v:Val aF) b a=>Ĉ p.1 p.2.2.2.2.2.2.2.2.2.2.2.2 v.1 v.2.1 v.2.2.1 v.2.2.2.1 v.2.2.2.2.1 v.2.2.2.2.2.1 v.2.2.2.2.2.2.1 v.2.2.2.2.2.2.2 (fun c d e f g h i j=>b (c,d,e,f,g,h,i,j)) (a 0) (a 1)⟩
def Py:List (Nat×Û):=[(42,jt),(43,ń),(53,iN),(54,mu),(77,ŗ),(108,ŋ)]
def wD (ρ:Type):List (Ü ρ):=[tr ρ]
def rP (ρ:Type):Env ρ:=Ý Py (wD ρ)
def II:Û:=⟨[ab,ab],[ab,ab,tI],fun(x:Val aL)=>uk x.1 x.2⟩
def XL:List (Nat×Û):=[(182,IG),(183,zJ)]
def Cs (ρ:Type):List (Ü ρ):=[]
def LF (ρ:Type):Env ρ:=Ý XL (Cs ρ)
def VA:Û:=⟨[ab,tI],[.bool],fun(x:Val aK)=>rz x.1 x.2⟩
def ac0:List (Nat×Û):=[(114,II)]
def K3 (ρ:Type):List (Ü ρ):=[]
def Ur (ρ:Type):Env ρ:=Ý ac0 (K3 ρ)
def N5:Û:=⟨[tI],[.bool],fun(x:Val tI)=>ud x⟩
def aao:List (Nat×Û):=[]
def Gc (ρ:Type):List (Ü ρ):=[]
def Pm (ρ:Type):Env ρ:=Ý aao (Gc ρ)
def N4:Û:=⟨[tI,ar],[aa],fun(x:Val (.pair tI ar))=>š x.1 x.2⟩
def SJ:Ç:={pin:=0,cs:=[tI,ab,tI],vs:=[tI,aa],head:=⟨23,.con tI::aN 4 [.own 0,.any,.any,.any,.con ab,.con tI,.var tI],[.rowv Ã]⟩,exits:=[(.exit 0,⟨23,.con tI::aN 4 [.own 0,.any,.any,.any,.con ab,.con tI],[.rowv Ã]⟩,[aa])]}
def BK (ρ:Type):Ü ρ:=⟨[],46,0,SJ,fun(p:Val (.pair tI aK)) (v:Val aI) a b=>qP p.1 p.2.1 p.2.2 v.1 v.2 (fun c d=>a (c,d)) (b 0)⟩
def aan:List (Nat×Û):=[(100,Ŗ)]
def Gb (ρ:Type):List (Ü ρ):=[BK ρ]
def DG (ρ:Type):Env ρ:=Ý aan (Gb ρ)
def VC:Û:=⟨[Ä,tI,ab],[Ã,tI],fun(x:Val (.pair Ä ay))=>HQ x.1 x.2.1 x.2.2⟩
def Gn:Ç:={pin:=3,cs:=[aa,tI,tI,tI,ae,aa,af,ac,aa,tI,tI,ar],vs:=[tI,tI,tI,ae,aa,af,ac,aa],head:=⟨68,aN 2 (.box 3 0::aN 20 [.con aa,.con tI,.var tI]),[bm,bt,.rowf ab 0,bD]⟩,exits:=[(.ret,⟨68,aN 2 (.box 3 0::.any::.nilp::.var tI::aN 17 [.con aa,.con tI]),[bm,bt,.rowf ab 0,bD]⟩,[tI,tI,tI,ae,aa,af,ac,aa]),(.exit 0,⟨68,aN 2 (.box 3 0::aN 20 [.con aa,.con tI]),[bm,bt,.rowf ab 0,bD]⟩,[tI,tI,ae,aa,af,ac,aa])]}
def Gm (ρ:Type):Ü ρ:=⟨[7,2],41,0,Gn,fun(p:Val (tyL Gn.cs)) (v:Val aF) b a=>pA p.1 p.2.1 v.1 v.2.1 v.2.2.1 v.2.2.2.1 v.2.2.2.2.1 v.2.2.2.2.2.1 v.2.2.2.2.2.2.1 v.2.2.2.2.2.2.2 (fun c d e f g h i j=>b (c,d,e,f,g,h,i,j)) (a 0) (a 1)⟩
def Gl:Ç:={pin:=0,cs:=[ak,aa,tI,tI,tI],vs:=[tI,tI,tI],head:=⟨87,aN 6 (.box 0 0::aN 3 (.con ak::aN 2 (.box 1 0::aN 51 [.con aa,.con tI,.var tI]))),[bt,.cells [.var tI,.var tI]]⟩,exits:=[(.exit 0,⟨87,aN 6 (.box 0 0::aN 3 (.con ak::aN 2 (.box 1 0::aN 51 [.con aa,.con tI]))),[bt,.cells [.var tI,.var tI]]⟩,[tI,tI])]}
def Gk (ρ:Type):Ü ρ:=⟨[],10,0,Gl,fun(p:Val (tyL Gl.cs)) (v:Val Ą) a b=>uZ p.1 p.2.1 p.2.2.1 v.1 v.2.1 v.2.2 (fun c d e=>a (c,d,e)) (b 0)⟩
def ac5:List (Nat×Û):=[(42,jt),(43,ń),(44,VA),(45,N5),(46,N4),(53,iN),(54,mu),(77,ŗ),(108,ŋ)]
def Lb (ρ:Type):List (Ü ρ):=[Gm ρ,Gk ρ]
def zP (ρ:Type):Env ρ:=Ý ac5 (Lb ρ)
def CT:Û:=⟨[Ä,Ã,Ã],[Ã,tI],fun(x:Val (.pair Ä è))=>mj x.1 x.2.1 x.2.2⟩
def wK:Ç:={pin:=5,cs:=[tI,tI,tI,ae,aa,af,ac,aa,tI,tI,tI,tI,tI,tI,aa],vs:=[tI,tI,tI,ae,aa,af,ac,aa],head:=⟨68,aN 2 (.box 5 0::aN 20 [.own 4,.con tI,.var tI]),ce⟩,exits:=[(.ret,⟨68,aN 2 (.box 5 0::.any::.nilp::.var tI::aN 17 [.own 4,.con tI]),ce⟩,[tI,tI,tI,ae,aa,af,ac,aa]),(.exit 0,⟨68,aN 2 (.box 5 0::aN 20 [.own 4,.con tI]),ce⟩,[tI,tI,ae,aa,af,ac,aa])]}
def wJ (ρ:Type):Ü ρ:=⟨[1,4],41,0,wK,fun(p:Val (tyL wK.cs)) (v:Val aF) b a=>rU p.1 p.2.2.2.2.2.2.2.2.2.2.2.2.2.2 v.1 v.2.1 v.2.2.1 v.2.2.2.1 v.2.2.2.2.1 v.2.2.2.2.2.1 v.2.2.2.2.2.2.1 v.2.2.2.2.2.2.2 (fun c d e f g h i j=>b (c,d,e,f,g,h,i,j)) (a 0) (a 1)⟩
def SW:List (Nat×Û):=[(43,ń),(50,jg),(52,iW),(53,iN),(54,mu),(77,ŗ),(108,ŋ)]
def yz (ρ:Type):List (Ü ρ):=[wJ ρ]
def ve (ρ:Type):Env ρ:=Ý SW (yz ρ)
def N8:Û:=⟨[Ò,tI,tI],[ar],fun(x:Val bc)=>zk x.1 x.2.1 x.2.2⟩
def Uz:Ç:={pin:=0,cs:=[tI,tI,tI,tI,aj],vs:=[tI,ab],head:=⟨45,.any::.con tI::.con tI::.box 0 0::aN 3 (.own 1::aN 7 [.con tI,.var tI]),[bu,.rowv tI]⟩,exits:=[(.exit 0,⟨45,.any::.con tI::.con tI::.box 0 0::aN 3 (.own 1::aN 7 [.con tI]),[bu,.rowv tI]⟩,[ab])]}
def Uy (ρ:Type):Ü ρ:=⟨[],148,0,Uz,fun(p:Val (tyL Uz.cs)) (v:Val ay) a b=>zQ p.2.2.1 v.1 v.2 (fun c d=>a (c,d)) (b 0)⟩
def Uw:Ç:={pin:=4,cs:=[ab,tI,ar,tI,aj],vs:=[tI,ab],head:=⟨53,.con ab::.box 1 0::aN 2 (.own 4::aN 7 [.con tI,.var tI]),cf⟩,exits:=[(.exit 0,⟨53,.con ab::.box 1 0::aN 2 (.own 4::aN 7 [.con tI]),cf⟩,[ab])]}
def Uv (ρ:Type):Ü ρ:=⟨[12,8],211,0,Uw,fun(p:Val (tyL Uw.cs)) (v:Val ay) a b=>W9 p.2.1 v.1 v.2 (fun c d=>a (c,d)) (b 0)⟩
def Uu:Ç:={pin:=4,cs:=[ab,aj,tI,ar,tI,aj],vs:=[tI,ab],head:=⟨53,.con ab::aN 3 (.own 4::aN 16 [.con aj,.con tI,.var tI]),cf⟩,exits:=[(.exit 2,⟨53,.con ab::aN 3 (.own 4::aN 16 [.con aj,.con tI]),cf⟩,[ab])]}
def Ut (ρ:Type):Ü ρ:=⟨[12,8],211,2,Uu,fun(p:Val (tyL Uu.cs)) (v:Val ay) a b=>Gz p.1 p.2.1 p.2.2.1 v.1 v.2 (fun c d=>a (c,d)) (b 0)⟩
def agh:Ç:={pin:=0,cs:=[tI,tI,aj],vs:=[tI,ar],head:=⟨45,aN 9 (.own 0::.fn 211 [(1,0)]::aN 18 [.con tI,.var tI]),[.rowv ab,bu]⟩,exits:=[(.exit 2,⟨45,aN 9 (.own 0::.fn 211 [(1,0)]::aN 18 [.con tI]),[.rowv ab,bu]⟩,[ar])]}
def Ux (ρ:Type):Ü ρ:=⟨[],148,2,agh,fun(p:Val aO) (v:Val (.pair tI ar)) a b=>Np p.1 p.2.1 p.2.2 v.1 v.2 (fun c d=>a (c,d)) (b 0)⟩
def ak8:List (Nat×Û):=[]
def aaD (ρ:Type):List (Ü ρ):=[Uy ρ,Uv ρ,Ut ρ,Ux ρ]
def Jy (ρ:Type):Env ρ:=Ý ak8 (aaD ρ)
def Zx:Û:=⟨[Ò],[ab,tI],fun(x:Val Ò)=>zl x⟩
def S6:Ç:={pin:=0,cs:=[tI,tI,aj],vs:=[tI,aT],head:=⟨93,.any::.box 0 0::aN 6 (.own 1::aN 24 [.con tI,.var tI]),[bu,.rowv ar]⟩,exits:=[(.exit 0,⟨93,.any::.box 0 0::aN 6 (.own 1::aN 24 [.con tI]),[bu,.rowv ar]⟩,[aT])]}
def Ca (ρ:Type):Ü ρ:=⟨[],78,0,S6,fun(p:Val aO) (v:Val (.pair tI aT)) a b=>Li p.1 p.2.1 p.2.2 v.1 v.2 (fun c d=>a (c,d)) (b 0)⟩
def B3:Ç:={pin:=3,cs:=[tI,ar,aj,tI,tI,aj,aT,tI,tI,tI,tI,aj],vs:=[tI,tI,tI,ab],head:=⟨73,.any::.var tI::.con tI::.con ar::.fn 149 []::.box 3 0::aN 5 (.own 4::.var tI::aN 7 [.con aj,.con tI,.var tI]),cg⟩,exits:=[(.exit 2,⟨73,.any::.var tI::.con tI::.con ar::.fn 149 []::.box 3 0::aN 5 (.own 4::.var tI::aN 7 [.con aj,.con tI]),cg⟩,[tI,tI,ab])]}
def B0 (ρ:Type):Ü ρ:=⟨[22,10],150,2,B3,fun(p:Val (tyL B3.cs)) (v:Val aP) a b=>Le p.1 p.2.1 p.2.2.1 p.2.2.2.1 v.1 v.2.1 v.2.2.1 v.2.2.2 (fun c d e f=>a (c,d,e,f)) (b 0)⟩
def B5:Ç:={pin:=3,cs:=[ar,tI,aj,aT,tI,tI,tI,tI,aj],vs:=[tI,tI,tI,ab],head:=⟨73,.any::.var tI::.var tI::.con ar::.fn 149 []::.box 3 0::aN 5 [.own 4,.var tI],cg⟩,exits:=[(.exit 0,⟨73,aN 3 (.con ar::.fn 149 []::.box 3 0::aN 5 [.own 4]),cg⟩,[ab])]}
def B4 (ρ:Type):Ü ρ:=⟨[22,10],150,0,B5,fun(p:Val (tyL B5.cs)) (v:Val aP) a b=>Lf p.1 p.2.2.2.2.2.2.2.2 v.1 v.2.1 v.2.2.1 v.2.2.2 (fun c d e f=>a (c,d,e,f)) (b 0)⟩
def B7:Ç:={pin:=0,cs:=[tI,aj,tI,tI,aj,aT],vs:=[tI],head:=⟨93,.any::.box 0 0::aN 6 (.own 1::.any::.fn 149 []::.con tI::aN 37 [.con aj,.con tI,.var tI]),[bu,.rowc ar]⟩,exits:=[(.exit 2,⟨93,.any::.box 0 0::aN 6 (.own 1::.any::.fn 149 []::.con tI::aN 37 [.con aj,.con tI]),[bu,.rowc ar]⟩,[]),(.ret,⟨93,.any::.box 0 0::.own 2::.var tI::aN 4 (.own 1::.any::.fn 149 []::.con tI::aN 37 [.con aj,.con tI]),[bu,.rowc ar,.rowv tI]⟩,[tI,ab]),(.exit 4,⟨93,.any::.box 0 0::aN 6 (.own 1::.any::.fn 149 []::.con tI::aN 37 [.con aj,.con tI]),[bu,.rowc ar]⟩,[])]}
def B6 (ρ:Type):Ü ρ:=⟨[],78,4,B7,fun(p:Val (tyL B7.cs)) (v:Val tI) b a=>Lg p.1 p.2.1 p.2.2.1 p.2.2.2.1 p.2.2.2.2.1 p.2.2.2.2.2 v (fun c=>b c) (a 0) (a 1) (a 2)⟩
def B9:Ç:={pin:=0,cs:=[tI,aj,aT],vs:=[tI],head:=⟨93,.any::.box 0 0::aN 6 [.own 1,.any,.fn 149 [],.var tI],[bu,.rowc ar]⟩,exits:=[(.exit 2,⟨93,.any::.box 0 0::aN 6 [.own 1,.any,.fn 149 []],[bu,.rowc ar]⟩,[]),(.ret,⟨93,.any::.box 0 0::.own 2::.var tI::aN 4 [.own 1,.any,.fn 149 []],[bu,.rowc ar,.rowv tI]⟩,[tI,ab])]}
def B8 (ρ:Type):Ü ρ:=⟨[],78,2,B9,fun(p:Val (tyL B9.cs)) (v:Val tI) b a=>Lh p.1 p.2.1 p.2.2 v (fun c=>b c) (a 0) (a 1)⟩
def aaF:List (Nat×Û):=[(146,sH),(147,qk),(148,N8)]
def GD (ρ:Type):List (Ü ρ):=[Ca ρ,B0 ρ,B4 ρ,B6 ρ,B8 ρ]
def kf (ρ:Type):Env ρ:=Ý aaF (GD ρ)
def CS:Û:=⟨[Ä,ab],[aa],fun(x:Val (.pair Ä ab))=>pN x.1 x.2⟩
def Mr:Ç:={pin:=0,cs:=[aa,ab,tI],vs:=[tI,aa],head:=⟨32,aN 6 (.con aa::.any::.own 0::aN 8 [.con ab,.con tI,.var tI]),[.rowv Ã]⟩,exits:=[(.exit 0,⟨32,aN 6 (.con aa::.any::.own 0::aN 8 [.con ab,.con tI]),[.rowv Ã]⟩,[aa])]}
def wo (ρ:Type):Ü ρ:=⟨[],80,0,Mr,fun(p:Val (.pair aa aK)) (v:Val aI) a b=>mA p.1 p.2.1 p.2.2 v.1 v.2 (fun c d=>a (c,d)) (b 0)⟩
def Sx:List (Nat×Û):=[(77,ŗ)]
def xX (ρ:Type):List (Ü ρ):=[wo ρ]
def uR (ρ:Type):Env ρ:=Ý Sx (xX ρ)
def Zv:Û:=⟨[Ä],[ι,tI],fun(x:Val Ä)=>HT x⟩
def aaA:List (Nat×Û):=[(77,ŗ),(78,Zx),(79,oR),(80,CS)]
def Gr (ρ:Type):List (Ü ρ):=[]
def Pz (ρ:Type):Env ρ:=Ý aaA (Gr ρ)
def KB:Û:=⟨[],[Ä],fun(_:Unit)=>zf⟩
def Ov:List (Nat×Û):=[]
def wk (ρ:Type):List (Ü ρ):=[]
def Bk (ρ:Type):Env ρ:=Ý Ov (wk ρ)
def CQ:Û:=⟨[Ã,Ã],[tI],fun(x:Val è)=>pM x.1 x.2⟩
def Sw:List (Nat×Û):=[]
def xW (ρ:Type):List (Ü ρ):=[]
def FC (ρ:Type):Env ρ:=Ý Sw (xW ρ)
def Zu:Û:=⟨[Ä,Ã,Ã],[tI,tI],fun(x:Val (.pair Ä è))=>HS x.1 x.2.1 x.2.2⟩
def BV:Ç:={pin:=4,cs:=[tI,tI,tI,ae,aa,af,ac,aa,tI,tI,tI,tI,aa],vs:=[tI,tI,tI,ae,aa,af,ac,aa],head:=⟨68,aN 2 (.box 4 0::aN 20 [.own 3,.con tI,.var tI]),cd⟩,exits:=[(.ret,⟨68,aN 2 (.box 4 0::.any::.nilp::.var tI::aN 17 [.own 3,.con tI]),cd⟩,[tI,tI,tI,ae,aa,af,ac,aa]),(.exit 0,⟨68,aN 2 (.box 4 0::aN 20 [.own 3,.con tI]),cd⟩,[tI,tI,ae,aa,af,ac,aa])]}
def BU (ρ:Type):Ü ρ:=⟨[1,3],41,0,BV,fun(p:Val (tyL BV.cs)) (v:Val aF) b a=>yk p.1 p.2.2.2.2.2.2.2.2.2.2.2.2 v.1 v.2.1 v.2.2.1 v.2.2.2.1 v.2.2.2.2.1 v.2.2.2.2.2.1 v.2.2.2.2.2.2.1 v.2.2.2.2.2.2.2 (fun c d e f g h i j=>b (c,d,e,f,g,h,i,j)) (a 0) (a 1)⟩
def aaz:List (Nat×Û):=[(42,jt),(43,ń),(53,iN),(54,mu),(77,ŗ),(93,CQ),(108,ŋ)]
def Gp (ρ:Type):List (Ü ρ):=[BU ρ]
def DL (ρ:Type):Env ρ:=Ý aaz (Gp ρ)
def Zy:Û:=⟨[Ò,tI,tI],[ab,tI],fun(x:Val bc)=>zm x.1 x.2.1 x.2.2⟩
def Ch:Ç:={pin:=3,cs:=[ar,tI,tI,aj,tI,tI],vs:=[tI],head:=⟨19,.con ar::.fn 164 [(1,0),(2,0)]::aN 5 [.con tI,.var tI],[bu,bq,bq]⟩,exits:=[(.ret,⟨19,[.con ar,.fn 164 [(1,0),(2,0)],.any,.any,.var tI,.any,.any,.con tI],[bu,bq,bq]⟩,[tI]),(.exit 0,⟨19,.con ar::.fn 164 [(1,0),(2,0)]::aN 5 [.con tI],[bu,bq,bq]⟩,[])]}
def Cg (ρ:Type):Ü ρ:=⟨[5,2],163,0,Ch,fun(p:Val (tyL Ch.cs)) (v:Val tI) b a=>rg p.1 p.2.1 p.2.2.2.2.1 p.2.2.2.2.2 v (fun c=>b c) (a 0) (a 1)⟩
def Cd:Ç:={pin:=3,cs:=[tI,ar,aj,tI,tI,aj,tI,tI,tI,aj],vs:=[tI,tI,tI,ab],head:=⟨73,.any::.var tI::.con tI::.con ar::.fn 165 [(2,0)]::.box 3 0::aN 5 (.own 4::.var tI::aN 7 [.con aj,.con tI,.var tI]),ci⟩,exits:=[(.exit 2,⟨73,.any::.var tI::.con tI::.con ar::.fn 165 [(2,0)]::.box 3 0::aN 5 (.own 4::.var tI::aN 7 [.con aj,.con tI]),ci⟩,[tI,tI,ab])]}
def Cc (ρ:Type):Ü ρ:=⟨[6,5],150,2,Cd,fun(p:Val (tyL Cd.cs)) (v:Val aP) a b=>Lj p.1 p.2.1 p.2.2.1 p.2.2.2.1 p.2.2.2.2.2.2.2.1 v.1 v.2.1 v.2.2.1 v.2.2.2 (fun c d e f=>a (c,d,e,f)) (b 0)⟩
def Cf:Ç:={pin:=3,cs:=[ar,tI,aj,tI,tI,tI,aj],vs:=[tI,tI,tI,ab],head:=⟨73,.any::.var tI::.var tI::.con ar::.fn 165 [(2,0)]::.box 3 0::aN 5 [.own 4,.var tI],ci⟩,exits:=[(.exit 0,⟨73,aN 3 (.con ar::.fn 165 [(2,0)]::.box 3 0::aN 5 [.own 4]),ci⟩,[ab])]}
def Ce (ρ:Type):Ü ρ:=⟨[6,5],150,0,Cf,fun(p:Val (tyL Cf.cs)) (v:Val aP) a b=>rf p.1 p.2.2.2.2.1 p.2.2.2.2.2.2 v.1 v.2.1 v.2.2.1 v.2.2.2 (fun c d e f=>a (c,d,e,f)) (b 0)⟩
def aaH:List (Nat×Û):=[(118,EL),(148,N8)]
def GI (ρ:Type):List (Ü ρ):=[Cg ρ,Cc ρ,Ce ρ]
def pB (ρ:Type):Env ρ:=Ý aaH (GI ρ)
def EK:Û:=⟨[ak,aW,(.ptr .bool)],[ab],fun(x:Val (.pair ak (.pair aW (.ptr .bool))))=>lr x.1 x.2.1 x.2.2⟩
def MG:List (Nat×Û):=[(50,jg),(95,Zy)]
def tz (ρ:Type):List (Ü ρ):=[]
def yy (ρ:Type):Env ρ:=Ý MG (tz ρ)
def N7:Û:=⟨[Ä,Ã,.bool],[ι,tI],fun(x:Val (.pair Ä (.pair Ã .bool)))=>vS x.1 x.2.1 x.2.2⟩
def wI:Ç:={pin:=5,cs:=[tI,tI,tI,ae,aa,af,ac,aa,tI,tI,tI,tI,.bool,tI,aa],vs:=[tI,tI,tI,ae,aa,af,ac,aa],head:=⟨68,aN 2 (.box 5 0::aN 20 [.own 4,.con tI,.var tI]),cj⟩,exits:=[(.ret,⟨68,aN 2 (.box 5 0::.any::.nilp::.var tI::aN 17 [.own 4,.con tI]),cj⟩,[tI,tI,tI,ae,aa,af,ac,aa]),(.exit 0,⟨68,aN 2 (.box 5 0::aN 20 [.own 4,.con tI]),cj⟩,[tI,tI,ae,aa,af,ac,aa])]}
def wH (ρ:Type):Ü ρ:=⟨[1,3],41,0,wI,fun(p:Val (tyL wI.cs)) (v:Val aF) b a=>rS p.1 p.2.2.2.2.2.2.2.2.2.2.2.2.2.2 v.1 v.2.1 v.2.2.1 v.2.2.2.1 v.2.2.2.2.1 v.2.2.2.2.2.1 v.2.2.2.2.2.2.1 v.2.2.2.2.2.2.2 (fun c d e f g h i j=>b (c,d,e,f,g,h,i,j)) (a 0) (a 1)⟩
def wG:Ç:={pin:=10,cs:=[tI,tI,tI,ae,aa,af,ac,aa,tI,tI,tI,tI,.bool,tI,aa,tI,tI,ae,aa,af,ac,aa,tI,aj,aa,tI,tI,ae,aa,af,ac,aa,tI,tI,ae,aa,af,ac,aa],vs:=[tI],head:=⟨68,aN 2 (.box 10 0::aN 20 [.nils,.con tI,.var tI]),cm⟩,exits:=[(.exit 0,⟨68,aN 2 (.box 10 0::aN 20 [.nils,.con tI]),cm⟩,[])]}
def wF (ρ:Type):Ü ρ:=⟨[6,1],41,0,wG,fun(p:Val (tyL wG.cs)) (v:Val tI) a b=>rR p.1 v (fun c=>a c) (b 0)⟩
def SV:List (Nat×Û):=[(43,ń),(53,iN),(54,mu),(77,ŗ),(79,oR),(80,CS),(94,EK),(96,rH),(97,lT),(108,ŋ)]
def yx (ρ:Type):List (Ü ρ):=[wH ρ,wF ρ]
def ld (ρ:Type):Env ρ:={Ý SV (yx ρ) with hint:=JZ [(34,94),(56,94)]}
def VK:Û:=⟨[Ä,Ì],[Ä,tI],fun(x:Val aE)=>ol x.1 x.2⟩
def Hp:Ç:={pin:=8,cs:=[tI,tI,tI,ae,aa,af,ac,aa,tI,tI,ab,ab,tI,tI,tI,tI,tI,tI,tI,tI,ae,aa,af,ac,aa,tI,tI,tI,tI,ac,tI,tI,ae,aa,af,aa],vs:=[tI,ac],head:=⟨50,.any::.box 8 0::.box 9 0::.own 10::aN 21 [.own 10,.con tI,.var tI],cn⟩,exits:=[(.exit 0,⟨50,.any::.box 8 0::.box 9 0::.own 10::aN 21 [.own 10,.con tI],cn⟩,[ac])]}
def Ho (ρ:Type):Ü ρ:=⟨[2,2,4,1],186,0,Hp,fun(p:Val (tyL Hp.cs)) (v:Val (.pair tI ac)) a b=>vD p.1 v.1 v.2 (fun c d=>a (c,d)) (b 0)⟩
def adu:List (Nat×Û):=[(43,ń)]
def LA (ρ:Type):List (Ü ρ):=[Ho ρ]
def JO (ρ:Type):Env ρ:=Ý adu (LA ρ)
def ZB:Û:=⟨[Ä,Ì,Ã],[Ã,tI],fun(x:Val (.pair Ä (.pair Ì Ã)))=>uh x.1 x.2.1 x.2.2⟩
def aaV:List (Nat×Û):=[(243,IH),(244,Oc),(245,Oa),(246,VF)]
def GU (ρ:Type):List (Ü ρ):=[]
def Qc (ρ:Type):Env ρ:=Ý aaV (GU ρ)
def Od:Û:=⟨[Ä,Ì],[Ã,tI],fun(x:Val aE)=>vW x.1 x.2⟩
def Tv:List (Nat×Û):=[(74,VH),(118,EL),(167,VK),(183,zJ),(205,xr),(215,ZB)]
def yW (ρ:Type):List (Ü ρ):=[]
def Hq (ρ:Type):Env ρ:=Ý Tv (yW ρ)
def ZA:Û:=⟨[Ä,tI],[Ì,tI],fun(x:Val aM)=>HX x.1 x.2⟩
def aaU:List (Nat×Û):=[(43,ń)]
def GS (ρ:Type):List (Ü ρ):=[]
def Qa (ρ:Type):Env ρ:=Ý aaU (GS ρ)
def aeR:Û:=⟨[Ä,tI],[Ã,tI],fun(x:Val aM)=>Ny x.1 x.2⟩
def adv:List (Nat×Û):=[(208,VG),(217,ZA)]
def LC (ρ:Type):List (Ü ρ):=[]
def UD (ρ:Type):Env ρ:=Ý adv (LC ρ)
def KD:Û:=⟨[ab,ak,(.ptr Ì)],[tI],fun(x:Val (.pair ab (.pair ak (.ptr Ì))))=>nh x.1 x.2.1 x.2.2⟩
def Pl:List (Nat×Û):=[(50,jg)]
def wC (ρ:Type):List (Ü ρ):=[]
def BN (ρ:Type):Env ρ:=Ý Pl (wC ρ)
def KC:Û:=⟨[tI,tI,ak,(.ptr tI),aW,(.ptr tI)],[Ą],fun(x:Val (.pair tI (.pair tI (.pair ak (.pair (.ptr tI) (.pair aW (.ptr tI)))))))=>ng x.1 x.2.1 x.2.2.1 x.2.2.2.1 x.2.2.2.2.1 x.2.2.2.2.2⟩
def Pk:List (Nat×Û):=[(52,iW)]
def wB (ρ:Type):List (Ü ρ):=[]
def BM (ρ:Type):Env ρ:=Ý Pk (wB ρ)
def IF:Û:=⟨[ak,Ã,Ì],[Ŭ,tI],fun(x:Val (.pair ak aZ))=>t8 x.1 x.2.1 x.2.2⟩
def yc:Ç:={pin:=0,cs:=[tI,ab,ab,aa,aj,tI,tI,tI,tI,tI,ab,ab,tI,tI,tI,tI,tI,tI,tI,tI,tI,tI,tI,tI,tI,tI,tI,tI,tI,tI,ae,aa,af,ac,aa,tI],vs:=[tI,aj],head:=⟨127,aN 4 (.box 0 0::.box 1 0::.box 2 0::.any::.box 3 0::aN 2 (.con tI::.box 4 0::.any::.con ab::.con ab::aN 2 (.con aa::.any::.box 5 0::aN 65 [.con aj,.con tI,.var tI]))),[bt,br,bn,bt,bt,bI,.rowv Ą]⟩,exits:=[(.exit 0,⟨127,aN 4 (.box 0 0::.box 1 0::.box 2 0::.any::.box 3 0::aN 2 (.con tI::.box 4 0::.any::.con ab::.con ab::aN 2 (.con aa::.any::.box 5 0::aN 65 [.con aj,.con tI]))),[bt,br,bn,bt,bt,bI,.rowv Ą]⟩,[aj])]}
def yb (ρ:Type):Ü ρ:=⟨[],98,0,yc,fun(p:Val (tyL yc.cs)) (v:Val Ò) a b=>kY p.1 p.2.2.2.1 p.2.2.2.2.1 p.2.2.2.2.2.1 v.1 v.2 (fun c d=>a (c,d)) (b 0)⟩
def WN:List (Nat×Û):=[(50,jg),(77,ŗ),(114,II),(166,Od),(167,VK),(168,aeR),(169,KD),(170,KC)]
def BL (ρ:Type):List (Ü ρ):=[yb ρ]
def qQ (ρ:Type):Env ρ:={Ý WN (BL ρ) with hint:=JZ [(110,169),(113,169),(120,170),(123,170)]}
def uC:Û:=⟨[Ą],[ab],fun(x:Val Ą)=>iF x⟩
def Mx:List (Nat×Û):=[]
def tc (ρ:Type):List (Ü ρ):=[]
def yf (ρ:Type):Env ρ:=Ý Mx (tc ρ)
def T8:Û:=⟨[Ą,tI],[tI],fun(x:Val (.pair Ą tI))=>ue x.1 x.2⟩
def WP:List (Nat×Û):=[]
def BO (ρ:Type):List (Ü ρ):=[]
def K5 (ρ:Type):Env ρ:=Ý WP (BO ρ)
def rE:Û:=⟨[Ŭ,tI],[Ã],fun(x:Val (.pair Ŭ tI))=>ō x.1 x.2⟩
def I7:List (Nat×Û):=[(172,T8)]
def qB (ρ:Type):List (Ü ρ):=[]
def wn (ρ:Type):Env ρ:=Ý I7 (qB ρ)
def rG:Û:=⟨[Ŭ,ab],[ab],fun(x:Val (.pair Ŭ ab))=>jS x.1 x.2⟩
def oY:Ç:={pin:=0,cs:=[tI,ab,tI,tI,tI,tI,tI,tI,tI,tI,tI,tI],vs:=[tI,ab],head:=⟨48,aN 2 (.box 0 0::aN 2 (.own 1::.any::.con tI::.var tI::aN 7 [.con ab,.con tI,.con tI])),bW⟩,exits:=[(.exit 2,⟨48,aN 2 (.box 0 0::aN 2 (.own 1::.any::.con tI::aN 8 [.con ab,.con tI,.con tI])),bW⟩,[ab])]}
def oX (ρ:Type):Ü ρ:=⟨[],106,2,oY,fun(p:Val (tyL oY.cs)) (v:Val ay) a b=>gX p.1 p.2.2.2.2.1 p.2.2.2.2.2.1 v.1 v.2 (fun c d=>a (c,d)) (b 0)⟩
def o8:Ç:={pin:=0,cs:=[ab,tI,tI,tI,tI,tI,tI,tI,tI,tI],vs:=[tI,ab],head:=⟨48,aN 2 (.box 0 0::aN 2 (.own 1::aN 10 [.con ab,.con tI,.var tI])),bW⟩,exits:=[(.exit 0,⟨48,aN 2 (.box 0 0::aN 2 (.own 1::aN 10 [.con ab,.con tI])),bW⟩,[ab])]}
def oZ (ρ:Type):Ü ρ:=⟨[],106,0,o8,fun(p:Val (tyL o8.cs)) (v:Val ay) a b=>jx p.1 p.2.1 p.2.2.1 p.2.2.2.1 v.1 v.2 (fun c d=>a (c,d)) (b 0)⟩
def I8:List (Nat×Û):=[]
def qC (ρ:Type):List (Ü ρ):=[oX ρ,oZ ρ]
def j1 (ρ:Type):Env ρ:=Ý I8 (qC ρ)
def xp:Û:=⟨[Ŭ],[tI],fun(x:Val Ŭ)=>ln x⟩
def nF:Ç:={pin:=0,cs:=[ab,tI,tI,tI,tI,tI,tI,tI,tI,tI],vs:=[tI,tI],head:=⟨34,.any::.box 0 0::.any::.var tI::aN 12 [.con ab,.con tI,.var tI],[bn]⟩,exits:=[(.exit 0,⟨34,.any::.box 0 0::.any::.var tI::aN 12 [.con ab,.con tI],[bn]⟩,[tI])]}
def nE (ρ:Type):Ü ρ:=⟨[],99,0,nF,fun(p:Val (tyL nF.cs)) (v:Val Ã) a b=>let A:=p.2.2.2.2;jb p.1 p.2.1 p.2.2.1 p.2.2.2.1 A.1 A.2.1 A.2.2.1 A.2.2.2.1 A.2.2.2.2.1 A.2.2.2.2.2 v.1 v.2 (fun c d=>a (c,d)) (b 0)⟩
def Fz:List (Nat×Û):=[(100,Ŗ),(101,uC),(105,rE),(106,rG)]
def oV (ρ:Type):List (Ü ρ):=[nE ρ]
def l5 (ρ:Type):Env ρ:=Ý Fz (oV ρ)
def Zt:Û:=⟨[Ä,Ã,Ì],[tI,tI],fun(x:Val (.pair Ä aZ))=>zj x.1 x.2.1 x.2.2⟩
def BQ:Ç:={pin:=4,cs:=[tI,tI,tI,ae,aa,af,ac,aa,tI,tI,tI,tI,ab,ab,tI,tI,tI,tI,aa],vs:=[tI,tI,tI,ae,aa,af,ac,aa],head:=⟨68,aN 2 (.box 4 0::aN 20 [.own 3,.con tI,.var tI]),cp⟩,exits:=[(.ret,⟨68,aN 2 (.box 4 0::.any::.nilp::.var tI::aN 17 [.own 3,.con tI]),cp⟩,[tI,tI,tI,ae,aa,af,ac,aa]),(.exit 0,⟨68,aN 2 (.box 4 0::aN 20 [.own 3,.con tI]),cp⟩,[tI,tI,ae,aa,af,ac,aa])]}
def BP (ρ:Type):Ü ρ:=⟨[1,3],41,0,BQ,fun(p:Val (tyL BQ.cs)) (v:Val aF) b a=>yh p.1 p.2.2.2.2.2.2.2.2.2.2.2.2.2.2.2.2.2.2 v.1 v.2.1 v.2.2.1 v.2.2.2.1 v.2.2.2.2.1 v.2.2.2.2.2.1 v.2.2.2.2.2.2.1 v.2.2.2.2.2.2.2 (fun c d e f g h i j=>b (c,d,e,f,g,h,i,j)) (a 0) (a 1)⟩
def aaw:List (Nat×Û):=[(43,ń),(53,iN),(54,mu),(77,ŗ),(98,IF),(99,xp),(108,ŋ)]
def Gf (ρ:Type):List (Ü ρ):=[BP ρ]
def DJ (ρ:Type):Env ρ:=Ý aaw (Gf ρ)
def EJ:Û:=⟨[tI],[tI],fun(x:Val tI)=>lp x⟩
def Mz:List (Nat×Û):=[]
def tq (ρ:Type):List (Ü ρ):=[]
def yi (ρ:Type):Env ρ:=Ý Mz (tq ρ)
def EI:Û:=⟨[Ą,tI],[ab],fun(x:Val (.pair Ą tI))=>iG x.1 x.2⟩
def My:List (Nat×Û):=[]
def td (ρ:Type):List (Ü ρ):=[]
def yg (ρ:Type):Env ρ:=Ý My (td ρ)
def N6:Û:=⟨[Ä,Ã,Ã,Ì],[.bool,tI],fun(x:Val (.pair Ä (.pair Ã aZ)))=>pO x.1 x.2.1 x.2.2.1 x.2.2.2⟩
def Ι:Ç:={pin:=5,cs:=[tI,tI,tI,ae,aa,af,ac,aa,tI,tI,tI,tI,tI,tI,ab,ab,tI,tI,tI,tI,aa],vs:=[tI,tI,tI,ae,aa,af,ac,aa],head:=⟨68,aN 2 (.box 5 0::aN 20 [.own 4,.con tI,.var tI]),cq⟩,exits:=[(.ret,⟨68,aN 2 (.box 5 0::.any::.nilp::.var tI::aN 17 [.own 4,.con tI]),cq⟩,[tI,tI,tI,ae,aa,af,ac,aa]),(.exit 0,⟨68,aN 2 (.box 5 0::aN 20 [.own 4,.con tI]),cq⟩,[tI,tI,ae,aa,af,ac,aa])]}
def nv (ρ:Type):Ü ρ:=⟨[1,3],41,0,Ι,fun(p:Val az) (v:Val aF) b a=>rO p.1 p.2.2.2.2.2.2.2.2.2.2.2.2.2.2.2.2.2.2.2.2 v.1 v.2.1 v.2.2.1 v.2.2.2.1 v.2.2.2.2.1 v.2.2.2.2.2.1 v.2.2.2.2.2.2.1 v.2.2.2.2.2.2.2 (fun c d e f g h i j=>b (c,d,e,f,g,h,i,j)) (a 0) (a 1)⟩
def Θ:Ç:={pin:=12,cs:=[ab,tI,tI,tI,ae,aa,af,ac,aa,tI,tI,tI,tI,tI,tI,ab,ab,tI,tI,tI,tI,aa,tI,tI,ae,aa,af,ac,aa,tI,aj,tI,tI,tI,tI,tI,tI,tI,tI,ar,ar,ar],vs:=[tI],head:=⟨19,.con ab::.fn 104 [(8,0),(2,0)]::aN 5 [.con tI,.var tI],cr⟩,exits:=[(.ret,⟨19,[.con ab,.fn 104 [(8,0),(2,0)],.any,.any,.var tI,.any,.any,.con tI],cr⟩,[tI]),(.exit 0,⟨19,.con ab::.fn 104 [(8,0),(2,0)]::aN 5 [.con tI],cr⟩,[])]}
def nu (ρ:Type):Ü ρ:=⟨[18,4,1,2],115,0,Θ,fun(p:Val aq) (v:Val tI) b a=>let A:=p.2.2.2.2.2.2.2.2.2.2.2;let B:=A.2.2.2.2.2.2.2.2.2.2.2.2.2.2.2.2.2.2.2.2;let C:=B.2.2.2.2;mB p.1 p.2.1 A.1 A.2.1 B.1 B.2.1 B.2.2.1 B.2.2.2.1 C.1 C.2.1 C.2.2.1 C.2.2.2.1 v (fun c=>b c) (a 0) (a 1)⟩
def BT:List (Nat×Û):=[(43,ń),(53,iN),(54,mu),(77,ŗ),(93,CQ),(98,IF),(100,Ŗ),(101,uC),(102,EJ),(103,EI),(105,rE),(106,rG),(108,ŋ)]
def pz (ρ:Type):List (Ü ρ):=[nv ρ,nu ρ]
def rN:List aj4:=[⟨[],38,0,4⟩]
def Ē (ρ:Type):Env ρ:={Ý BT (pz ρ) with hint:=JZ [(51,102),(55,102)]}
def uX (ρ:Type):Env ρ:={{aik BT (pz ρ) rN with loops:=aa9 (Ē ρ) rN} with hint:=JZ [(51,102),(55,102)]}
def CU:Û:=⟨[Ò,ab],[tI],fun(x:Val bh)=>pP x.1 x.2⟩
def MI:Ç:={pin:=1,cs:=[ab,tI,tI,aj],vs:=[tI],head:=⟨19,.con ab::.fn 213 [(0,0)]::aN 5 [.con tI,.var tI],[bu]⟩,exits:=[(.ret,⟨19,[.con ab,.fn 213 [(0,0)],.any,.any,.var tI,.any,.any,.con tI],[bu]⟩,[tI]),(.exit 0,⟨19,.con ab::.fn 213 [(0,0)]::aN 5 [.con tI],[bu]⟩,[])]}
def wM (ρ:Type):Ü ρ:=⟨[3,2,1,2],115,0,MI,fun(p:Val (.pair ab aO)) (v:Val tI) b a=>mC p.1 p.2.1 p.2.2.2 v (fun c=>b c) (a 0) (a 1)⟩
def SY:List (Nat×Û):=[]
def yB (ρ:Type):List (Ü ρ):=[wM ρ]
def vg (ρ:Type):Env ρ:=Ý SY (yB ρ)
def VD:Û:=⟨[Ò,tI,ab],[tI,tI,.bool],fun(x:Val (.pair Ò ay))=>HU x.1 x.2.1 x.2.2⟩
def W6:Ç:={pin:=0,cs:=[ab,tI,tI,aj],vs:=[tI,tI,tI],head:=⟨37,.any::.var tI::.any::.box 0 0::aN 5 [.var tI,.any,.any,.any,.con ab,.con tI,.var tI],[bu]⟩,exits:=[(.ret,⟨37,aN 3 (.box 0 0::aN 2 (.var tI::.var tI::.var .bool::aN 4 [.con ab,.con tI])),[bu]⟩,[tI,tI,.bool]),(.exit 0,⟨37,.any::.var tI::.any::.box 0 0::aN 5 [.var tI,.any,.any,.any,.con ab,.con tI],[bu]⟩,[tI,tI])]}
def Gt (ρ:Type):Ü ρ:=⟨[],156,0,W6,fun(p:Val (.pair ab aO)) (v:Val Ą) b a=>vf p.1 p.2.1 p.2.2.2 v.1 v.2.1 v.2.2 (fun c d e=>b (c,d,e)) (a 0) (a 1)⟩
def ac7:List (Nat×Û):=[]
def Lc (ρ:Type):List (Ü ρ):=[Gt ρ]
def Ju (ρ:Type):Env ρ:=Ý ac7 (Lc ρ)
def Bf:Û:=⟨[Ò,ab],[tI],fun(x:Val bh)=>mF x.1 x.2⟩
def JB:List (Nat×Û):=[(146,sH),(155,CU),(156,VD)]
def rc (ρ:Type):List (Ü ρ):=[]
def wO (ρ:Type):Env ρ:=Ý JB (rc ρ)
def Be:Û:=⟨[ι],[tI],fun(x:Val ι)=>mE x⟩
def Jo:List (Nat×Û):=[(43,ń),(77,ŗ),(81,Bf)]
def qW (ρ:Type):List (Ü ρ):=[]
def wE (ρ:Type):Env ρ:=Ý Jo (qW ρ)
def Bg:Û:=⟨[Ò,tI,tI,ab],[tI,tI],fun(x:Val (.pair Ò (.pair tI ay)))=>jT x.1 x.2.1 x.2.2.1 x.2.2.2⟩
def JC:List (Nat×Û):=[(146,sH),(155,CU),(156,VD),(173,Nh)]
def re (ρ:Type):List (Ü ρ):=[]
def wP (ρ:Type):Env ρ:=Ý JC (re ρ)
def uD:Û:=⟨[ι],[tI],fun(x:Val ι)=>lq x⟩
def MF:List (Nat×Û):=[(43,ń),(53,iN),(77,ŗ),(107,Bg)]
def tx (ρ:Type):List (Ü ρ):=[]
def yw (ρ:Type):Env ρ:=Ý MF (tx ρ)
def iM:Û:=⟨[ae,Ð],[tI],fun(x:Val (.pair ae Ð))=>ş x.1 x.2⟩
def ž:Ç:={pin:=0,cs:=[ae,tI,tI,tI,tI,tI,tI,tI,tI,tI],vs:=[tI],head:=⟨19,[.con ae,.any,.any,.box 0 0,.any,.any,.any,.con tI,.var tI],[bn]⟩,exits:=[(.ret,⟨19,[.con ae,.any,.any,.box 0 0,.var tI,.any,.any,.con tI],[bn]⟩,[tI]),(.exit 0,⟨19,[.con ae,.any,.any,.box 0 0,.any,.any,.any,.con tI],[bn]⟩,[])]}
def Ž (ρ:Type):Ü ρ:=⟨[],233,0,ž,fun(p:Val (tyL ž.cs)) (v:Val tI) b a=>let A:=p.2.2.2.2;Ă p.1 p.2.1 p.2.2.1 p.2.2.2.1 A.1 A.2.1 A.2.2.1 A.2.2.2.1 A.2.2.2.2.1 A.2.2.2.2.2 v (fun c=>b c) (a 0) (a 1)⟩
def lJ:List (Nat×Û):=[]
def Ρ (ρ:Type):List (Ü ρ):=[Ž ρ]
def ņ (ρ:Type):Env ρ:=Ý lJ (Ρ ρ)
def ο:Û:=⟨[ae,Ð],[.bool],fun(x:Val (.pair ae Ð))=>Ğ x.1 x.2⟩
def ka:List (Nat×Û):=[(233,iM)]
def Ũ (ρ:Type):List (Ü ρ):=[]
def Β (ρ:Type):Env ρ:=Ý ka (Ũ ρ)
def jK:Û:=⟨[aa,Ã],[tI],fun(x:Val ba)=>ζ x.1 x.2⟩
def mM:Ç:={pin:=0,cs:=[aa,tI,tI,tI],vs:=[tI],head:=⟨19,[.con aa,.any,.any,.box 0 0,.any,.any,.any,.con tI,.var tI],[bt]⟩,exits:=[(.ret,⟨19,[.con aa,.any,.any,.box 0 0,.var tI,.any,.any,.con tI],[bt]⟩,[tI]),(.exit 0,⟨19,[.con aa,.any,.any,.box 0 0,.any,.any,.any,.con tI],[bt]⟩,[])]}
def ij (ρ:Type):Ü ρ:=⟨[],235,0,mM,fun(p:Val (.pair aa Ą)) (v:Val tI) b a=>Ę p.1 p.2.1 p.2.2.1 p.2.2.2 v (fun c=>b c) (a 0) (a 1)⟩
def nP:List (Nat×Û):=[]
def iP (ρ:Type):List (Ü ρ):=[ij ρ]
def ů (ρ:Type):Env ρ:=Ý nP (iP ρ)
def i8:Û:=⟨[aa,Ã],[.bool],fun(x:Val ba)=>Ě x.1 x.2⟩
def lZ:List (Nat×Û):=[(235,jK)]
def υ (ρ:Type):List (Ü ρ):=[]
def ik (ρ:Type):Env ρ:=Ý lZ (υ ρ)
def jf:Û:=⟨[af,Ń],[tI],fun(x:Val (.pair af Ń))=>Ŵ x.1 x.2⟩
def lI:Ç:={pin:=0,cs:=[af,tI,tI,tI,tI,tI],vs:=[tI],head:=⟨19,[.con af,.any,.any,.box 0 0,.any,.any,.any,.con tI,.var tI],[bo]⟩,exits:=[(.ret,⟨19,[.con af,.any,.any,.box 0 0,.var tI,.any,.any,.con tI],[bo]⟩,[tI]),(.exit 0,⟨19,[.con af,.any,.any,.box 0 0,.any,.any,.any,.con tI],[bo]⟩,[])]}
def ς (ρ:Type):Ü ρ:=⟨[],237,0,lI,fun(p:Val (.pair af bi)) (v:Val tI) b a=>č p.1 p.2.1 p.2.2.1 p.2.2.2.1 p.2.2.2.2.1 p.2.2.2.2.2 v (fun c=>b c) (a 0) (a 1)⟩
def mO:List (Nat×Û):=[]
def gW (ρ:Type):List (Ü ρ):=[ς ρ]
def ŝ (ρ:Type):Env ρ:=Ý mO (gW ρ)
def ii:Û:=⟨[af,Ń],[.bool],fun(x:Val (.pair af Ń))=>Ď x.1 x.2⟩
def kR:List (Nat×Û):=[(237,jf)]
def Α (ρ:Type):List (Ü ρ):=[]
def χ (ρ:Type):Env ρ:=Ý kR (Α ρ)
def VB:Û:=⟨[Ä,Ä],[.bool],fun(x:Val (.pair Ä Ä))=>Ak x.1 x.2⟩
def Ga:Ç:={pin:=0,cs:=[ae,tI,tI,tI,ae,aa,af,ac,aa,tI,tI,ae,aa,af,ac,aa],vs:=[tI,ao],head:=⟨87,aN 2 (.box 0 0::.box 1 0::.any::.box 2 0::aN 10 [.con ae,.con tI,.var tI]),[bm,bm,bJ,.mapv tI .bool]⟩,exits:=[(.exit 0,⟨87,aN 2 (.box 0 0::.box 1 0::.any::.box 2 0::aN 10 [.con ae,.con tI]),[bm,bm,bJ,.mapv tI .bool]⟩,[ao])]}
def F9 (ρ:Type):Ü ρ:=⟨[],55,0,Ga,fun(p:Val (tyL Ga.cs)) (v:Val (.pair tI ao)) a b=>uT p.1 p.2.1 v.1 v.2 (fun c d=>a (c,d)) (b 0)⟩
def F4:Ç:={pin:=6,cs:=[ab,ab,tI,tI,tI,ae,aa,af,ac,aa,tI,tI,ae,aa,af,ac,aa,ao,tI,tI,ab,ab,tI,tI,tI,tI,tI,tI,ab,ab,tI,tI,tI,tI],vs:=[tI],head:=⟨26,.con ab::.con ab::aN 10 [.con tI,.var tI],cu⟩,exits:=[(.ret,⟨26,.con ab::.con ab::aN 2 (.var .bool::aN 7 [.con tI]),cu⟩,[.bool]),(.exit 0,⟨26,.con ab::.con ab::aN 10 [.con tI],cu⟩,[])]}
def F3 (ρ:Type):Ü ρ:=⟨[14,3,1,2,4,5,1,38],126,0,F4,fun(p:Val (tyL F4.cs)) (v:Val tI) b a=>mc p.1 p.2.1 p.2.2.1 v (fun c=>b c) (a 0) (a 1)⟩
def F2:Ç:={pin:=6,cs:=[ab,ab,tI,tI,tI,ae,aa,af,ac,aa,tI,tI,ae,aa,af,ac,aa,ao,tI,tI,ab,ab,tI,tI,tI,tI,tI,tI,ab,ab,tI,tI,tI,tI],vs:=[tI],head:=⟨26,.con ab::.con ab::aN 10 [.con tI,.var tI],cu⟩,exits:=[(.ret,⟨26,.con ab::.con ab::aN 2 (.var .bool::aN 7 [.con tI]),cu⟩,[.bool]),(.exit 0,⟨26,.con ab::.con ab::aN 10 [.con tI],cu⟩,[])]}
def F1 (ρ:Type):Ü ρ:=⟨[14,3,1,2,4,5,1,45],126,0,F2,fun(p:Val (tyL F2.cs)) (v:Val tI) b a=>uS p.1 p.2.1 p.2.2.1 v (fun c=>b c) (a 0) (a 1)⟩
def F6:Ç:={pin:=5,cs:=[ac,tI,tI,tI,ae,aa,af,ac,aa,tI,tI,ae,aa,af,ac,aa,ao,tI,tI,ab,ab,tI,tI,tI,tI],vs:=[tI],head:=⟨19,.con ac::.fn 125 [(4,0)]::aN 5 [.con tI,.var tI],cw⟩,exits:=[(.ret,⟨19,[.con ac,.fn 125 [(4,0)],.any,.any,.var tI,.any,.any,.con tI],cw⟩,[tI]),(.exit 0,⟨19,.con ac::.fn 125 [(4,0)]::aN 5 [.con tI],cw⟩,[])]}
def F5 (ρ:Type):Ü ρ:=⟨[14,3,1,2],187,0,F6,fun(p:Val (tyL F6.cs)) (v:Val tI) b a=>let A:=p.2.2.2.2.2.2.2.2.2.2.2.2.2.2.2.2.2;let B:=A.2.2.2.2;pu p.1 p.2.1 A.1 A.2.1 A.2.2.1 A.2.2.2.1 B.1 B.2.1 B.2.2.1 B.2.2.2 v (fun c=>b c) (a 0) (a 1)⟩
def F8:Ç:={pin:=0,cs:=[ac,tI,tI,tI,ae,aa,af,ac,aa,tI,tI,ae,aa,af,ac,aa,ao],vs:=[tI],head:=⟨87,aN 2 (.box 0 0::.box 1 0::aN 4 (.fn 122 []::.fn 123 [(2,0)]::.fn 124 [(2,0)]::aN 18 [.con ac,.con tI,.var tI])),cz⟩,exits:=[(.ret,⟨87,aN 2 (.box 0 0::.box 1 0::.var .bool::aN 3 (.fn 122 []::.fn 123 [(2,0)]::.fn 124 [(2,0)]::aN 18 [.con ac,.con tI])),cz⟩,[.bool]),(.exit 2,⟨87,aN 2 (.box 0 0::.box 1 0::aN 4 (.fn 122 []::.fn 123 [(2,0)]::.fn 124 [(2,0)]::aN 18 [.con ac,.con tI])),cz⟩,[])]}
def F7 (ρ:Type):Ü ρ:=⟨[],55,2,F8,fun(p:Val (tyL F8.cs)) (v:Val tI) b a=>pv p.1 p.2.1 p.2.2.2.2.2.2.2.2.2.2.2.2.2.2.1 v (fun c=>b c) (a 0) (a 1)⟩
def F0:Ç:={pin:=6,cs:=[ae,tI,tI,tI,ae,aa,af,ac,aa,tI,tI,ae,aa,af,ac,aa,ao,ae],vs:=[tI],head:=⟨19,.con ae::.fn 189 [(5,0),(4,0)]::aN 5 [.con tI,.var tI],cA⟩,exits:=[(.ret,⟨19,[.con ae,.fn 189 [(5,0),(4,0)],.any,.any,.var tI,.any,.any,.con tI],cA⟩,[tI]),(.exit 0,⟨19,.con ae::.fn 189 [(5,0),(4,0)]::aN 5 [.con tI],cA⟩,[])]}
def FZ (ρ:Type):Ü ρ:=⟨[17,11,1,2,1,2],232,0,F0,fun(p:Val (tyL F0.cs)) (v:Val tI) b a=>pr p.1 p.2.1 p.2.2.2.2.2.2.2.2.2.2.2.2.2.2.2.2.2 v (fun c=>b c) (a 0) (a 1)⟩
def FY:Ç:={pin:=8,cs:=[aa,tI,tI,tI,ae,aa,af,ac,aa,tI,tI,ae,aa,af,ac,aa,ao,ae,aa],vs:=[tI],head:=⟨19,.con aa::.fn 192 [(7,0),(6,0)]::aN 5 [.con tI,.var tI],cB⟩,exits:=[(.ret,⟨19,[.con aa,.fn 192 [(7,0),(6,0)],.any,.any,.var tI,.any,.any,.con tI],cB⟩,[tI]),(.exit 0,⟨19,.con aa::.fn 192 [(7,0),(6,0)]::aN 5 [.con tI],cB⟩,[])]}
def FX (ρ:Type):Ü ρ:=⟨[17,19,1,2,1,2],234,0,FY,fun(p:Val (tyL FY.cs)) (v:Val tI) b a=>ke p.1 p.2.1 p.2.2.2.2.2.2.2.2.2.2.2.2.2.2.2.2.1 p.2.2.2.2.2.2.2.2.2.2.2.2.2.2.2.2.2.2 v (fun c=>b c) (a 0) (a 1)⟩
def FW:Ç:={pin:=10,cs:=[aa,tI,tI,tI,ae,aa,af,ac,aa,tI,tI,ae,aa,af,ac,aa,ao,ae,aa,aa],vs:=[tI],head:=⟨19,.con aa::.fn 192 [(9,0),(8,0)]::aN 5 [.con tI,.var tI],cD⟩,exits:=[(.ret,⟨19,[.con aa,.fn 192 [(9,0),(8,0)],.any,.any,.var tI,.any,.any,.con tI],cD⟩,[tI]),(.exit 0,⟨19,.con aa::.fn 192 [(9,0),(8,0)]::aN 5 [.con tI],cD⟩,[])]}
def FV (ρ:Type):Ü ρ:=⟨[17,27,1,2,1,2],234,0,FW,fun(p:Val (tyL FW.cs)) (v:Val tI) b a=>l9 p.1 p.2.1 p.2.2.2.2.2.2.2.2.2.2.2.2.2.2.2.2.1 p.2.2.2.2.2.2.2.2.2.2.2.2.2.2.2.2.2.2.2 v (fun c=>b c) (a 0) (a 1)⟩
def FU:Ç:={pin:=12,cs:=[af,tI,tI,tI,ae,aa,af,ac,aa,tI,tI,ae,aa,af,ac,aa,ao,ae,aa,aa,af],vs:=[tI],head:=⟨19,.con af::.fn 195 [(11,0),(10,0)]::aN 5 [.con tI,.var tI],cE⟩,exits:=[(.ret,⟨19,[.con af,.fn 195 [(11,0),(10,0)],.any,.any,.var tI,.any,.any,.con tI],cE⟩,[tI]),(.exit 0,⟨19,.con af::.fn 195 [(11,0),(10,0)]::aN 5 [.con tI],cE⟩,[])]}
def FT (ρ:Type):Ü ρ:=⟨[17,35,1,2,1,2],236,0,FU,fun(p:Val (tyL FU.cs)) (v:Val tI) b a=>Ķ p.1 p.2.1 p.2.2.2.2.2.2.2.2.2.2.2.2.2.2.2.2.1 p.2.2.2.2.2.2.2.2.2.2.2.2.2.2.2.2.2.2.2.2 v (fun c=>b c) (a 0) (a 1)⟩
def FS:Ç:={pin:=14,cs:=[af,tI,tI,tI,ae,aa,af,ac,aa,tI,tI,ae,aa,af,ac,aa,ao,ae,aa,aa,af,af],vs:=[tI],head:=⟨19,.con af::.fn 195 [(13,0),(12,0)]::aN 5 [.con tI,.var tI],cF⟩,exits:=[(.ret,⟨19,[.con af,.fn 195 [(13,0),(12,0)],.any,.any,.var tI,.any,.any,.con tI],cF⟩,[tI]),(.exit 0,⟨19,.con af::.fn 195 [(13,0),(12,0)]::aN 5 [.con tI],cF⟩,[])]}
def FR (ρ:Type):Ü ρ:=⟨[17,43,1,2,1,2],236,0,FS,fun(p:Val (tyL FS.cs)) (v:Val tI) b a=>ĕ p.1 p.2.1 p.2.2.2.2.2.2.2.2.2.2.2.2.2.2.2.2.1 p.2.2.2.2.2.2.2.2.2.2.2.2.2.2.2.2.2.2.2.2.2 v (fun c=>b c) (a 0) (a 1)⟩
def ac1:List (Nat×Û):=[(190,ο),(193,i8),(196,ii)]
def K4 (ρ:Type):List (Ü ρ):=[F9 ρ,F3 ρ,F1 ρ,F5 ρ,F7 ρ,FZ ρ,FX ρ,FV ρ,FT ρ,FR ρ]
def Η (ρ:Type):Env ρ:=Ý ac1 (K4 ρ)
def T9:Û:=⟨[Ä,ι],[.bool,tI],fun(x:Val (.pair Ä ι))=>Al x.1 x.2⟩
def WX:List (Nat×Û):=[(25,Be),(40,uD),(43,ń),(55,VB)]
def BS (ρ:Type):List (Ü ρ):=[]
def La (ρ:Type):Env ρ:=Ý WX (BS ρ)
def N0:Û:=⟨[],[.bool],fun(_:Unit)=>þ⟩
def RM:List (Nat×Û):=[(9,xq),(10,VC),(12,CT),(24,Zv),(34,KB),(35,Zu),(36,N7),(37,Zt),(38,N6),(39,T9),(40,uD)]
def xw (ρ:Type):List (Ü ρ):=[]
def E4 (ρ:Type):Env ρ:=Ý RM (xw ρ)
def EH:Û:=⟨[ak,ab,ab],[tI],fun(x:Val (.pair ak aL))=>Τ x.1 x.2.1 x.2.2⟩
def FM:Ç:={pin:=6,cs:=[ab,tI,ak,ab,ab,am],vs:=[tI,tI],head:=⟨81,aN 3 (.box 4 0::.box 0 0::aN 3 (.var tI::aN 9 [.con ab,.con tI,.var tI])),cG⟩,exits:=[(.exit 0,⟨81,aN 3 (.box 4 0::.box 0 0::aN 3 (.var tI::aN 9 [.con ab,.con tI])),cG⟩,[tI])]}
def qM (ρ:Type):Ü ρ:=⟨[4,1],117,0,FM,fun(p:Val ax) (v:Val Ã) a b=>iR p.1 p.2.1 p.2.2.1 p.2.2.2.2.2 v.1 v.2 (fun c d=>a (c,d)) (b 0)⟩
def FL:Ç:={pin:=6,cs:=[ab,tI,ak,ab,ab,am],vs:=[tI,tI],head:=⟨81,aN 3 (.box 4 0::.box 0 0::aN 3 (.var tI::aN 9 [.con ab,.con tI,.var tI])),cG⟩,exits:=[(.exit 0,⟨81,aN 3 (.box 4 0::.box 0 0::aN 3 (.var tI::aN 9 [.con ab,.con tI])),cG⟩,[tI])]}
def qL (ρ:Type):Ü ρ:=⟨[4,1,10,9],117,0,FL,fun(p:Val ax) (v:Val Ã) a b=>wy p.1 p.2.1 p.2.2.1 p.2.2.2.2.2 v.1 v.2 (fun c d=>a (c,d)) (b 0)⟩
def FJ:Ç:={pin:=6,cs:=[ab,tI,ak,ab,ab,am],vs:=[tI,tI],head:=⟨81,aN 3 (.box 4 0::.box 0 0::aN 3 (.var tI::aN 9 [.con ab,.con tI,.var tI])),cG⟩,exits:=[(.exit 0,⟨81,aN 3 (.box 4 0::.box 0 0::aN 3 (.var tI::aN 9 [.con ab,.con tI])),cG⟩,[tI])]}
def qJ (ρ:Type):Ü ρ:=⟨[4,1,16,11],117,0,FJ,fun(p:Val ax) (v:Val Ã) a b=>wx p.1 p.2.1 p.2.2.1 p.2.2.2.2.2 v.1 v.2 (fun c d=>a (c,d)) (b 0)⟩
def FI:Ç:={pin:=6,cs:=[ab,tI,ak,ab,ab,am],vs:=[tI,tI],head:=⟨81,aN 3 (.box 4 0::.box 0 0::aN 3 (.var tI::aN 9 [.con ab,.con tI,.var tI])),cG⟩,exits:=[(.exit 0,⟨81,aN 3 (.box 4 0::.box 0 0::aN 3 (.var tI::aN 9 [.con ab,.con tI])),cG⟩,[tI])]}
def qI (ρ:Type):Ü ρ:=⟨[4,1,16,11,10,9],117,0,FI,fun(p:Val ax) (v:Val Ã) a b=>ww p.1 p.2.1 p.2.2.1 p.2.2.2.2.2 v.1 v.2 (fun c d=>a (c,d)) (b 0)⟩
def FG:Ç:={pin:=6,cs:=[ab,tI,ak,ab,ab,am],vs:=[tI,tI],head:=⟨81,aN 3 (.box 4 0::.box 0 0::aN 3 (.var tI::aN 9 [.con ab,.con tI,.var tI])),cG⟩,exits:=[(.exit 0,⟨81,aN 3 (.box 4 0::.box 0 0::aN 3 (.var tI::aN 9 [.con ab,.con tI])),cG⟩,[tI])]}
def qG (ρ:Type):Ü ρ:=⟨[4,1,16,11,16,11],117,0,FG,fun(p:Val ax) (v:Val Ã) a b=>wu p.1 p.2.1 p.2.2.1 p.2.2.2.2.2 v.1 v.2 (fun c d=>a (c,d)) (b 0)⟩
def FF:Ç:={pin:=6,cs:=[ab,tI,ak,ab,ab,am],vs:=[tI,tI],head:=⟨81,aN 3 (.box 4 0::.box 0 0::aN 3 (.var tI::aN 9 [.con ab,.con tI,.var tI])),cG⟩,exits:=[(.exit 0,⟨81,aN 3 (.box 4 0::.box 0 0::aN 3 (.var tI::aN 9 [.con ab,.con tI])),cG⟩,[tI])]}
def qF (ρ:Type):Ü ρ:=⟨[4,1,16,11,16,11,10,9],117,0,FF,fun(p:Val ax) (v:Val Ã) a b=>wt p.1 p.2.1 p.2.2.1 p.2.2.2.2.2 v.1 v.2 (fun c d=>a (c,d)) (b 0)⟩
def FD:Ç:={pin:=6,cs:=[ab,tI,ak,ab,ab,am],vs:=[tI,tI],head:=⟨81,aN 3 (.box 4 0::.box 0 0::aN 3 (.var tI::aN 9 [.con ab,.con tI,.var tI])),cG⟩,exits:=[(.exit 0,⟨81,aN 3 (.box 4 0::.box 0 0::aN 3 (.var tI::aN 9 [.con ab,.con tI])),cG⟩,[tI])]}
def qD (ρ:Type):Ü ρ:=⟨[4,1,16,11,16,11,16,11],117,0,FD,fun(p:Val ax) (v:Val Ã) a b=>wp p.1 p.2.1 p.2.2.1 p.2.2.2.2.2 v.1 v.2 (fun c d=>a (c,d)) (b 0)⟩
def FE:Ç:={pin:=6,cs:=[tI,ab,tI,ak,ab,ab],vs:=[tI,tI,am],head:=⟨81,.con tI::.box 1 0::.any::.box 4 0::.box 0 0::.box 5 0::aN 5 (.var tI::aN 36 [.con ab,.con tI,.var tI]),cH⟩,exits:=[(.exit 2,⟨81,.con tI::.box 1 0::.any::.box 4 0::.box 0 0::.box 5 0::aN 5 (.var tI::aN 36 [.con ab,.con tI]),cH⟩,[tI,am])]}
def qE (ρ:Type):Ü ρ:=⟨[4,1,16,11,16,11],117,2,FE,fun(p:Val aG) (v:Val aD) a b=>wq p.1 p.2.1 p.2.2.1 p.2.2.2.1 p.2.2.2.2.1 p.2.2.2.2.2 v.1 v.2.1 v.2.2 (fun c d e=>a (c,d,e)) (b 0)⟩
def FH:Ç:={pin:=6,cs:=[tI,ab,tI,ak,ab,ab],vs:=[tI,tI,am],head:=⟨81,.con tI::.box 1 0::.any::.box 4 0::.box 0 0::.box 5 0::aN 5 (.var tI::aN 36 [.con ab,.con tI,.var tI]),cH⟩,exits:=[(.exit 2,⟨81,.con tI::.box 1 0::.any::.box 4 0::.box 0 0::.box 5 0::aN 5 (.var tI::aN 36 [.con ab,.con tI]),cH⟩,[tI,am])]}
def qH (ρ:Type):Ü ρ:=⟨[4,1,16,11],117,2,FH,fun(p:Val aG) (v:Val aD) a b=>nt p.1 p.2.1 p.2.2.1 p.2.2.2.1 p.2.2.2.2.1 p.2.2.2.2.2 v.1 v.2.1 v.2.2 (fun c d e=>a (c,d,e)) (b 0)⟩
def DD:Ç:={pin:=6,cs:=[ab,tI,ak,ab,ab,am],vs:=[tI,tI],head:=⟨81,aN 3 (.box 4 0::.box 0 0::aN 3 (.var tI::aN 9 [.con ab,.con tI,.var tI])),cG⟩,exits:=[(.exit 0,⟨81,aN 3 (.box 4 0::.box 0 0::aN 3 (.var tI::aN 9 [.con ab,.con tI])),cG⟩,[tI])]}
def pp (ρ:Type):Ü ρ:=⟨[4,1,16,11,10,9,10,9],117,0,DD,fun(p:Val ax) (v:Val Ã) a b=>ta p.1 p.2.1 p.2.2.1 p.2.2.2.2.2 v.1 v.2 (fun c d=>a (c,d)) (b 0)⟩
def DB:Ç:={pin:=6,cs:=[ab,tI,ak,ab,ab,am],vs:=[tI,tI],head:=⟨81,aN 3 (.box 4 0::.box 0 0::aN 3 (.var tI::aN 9 [.con ab,.con tI,.var tI])),cG⟩,exits:=[(.exit 0,⟨81,aN 3 (.box 4 0::.box 0 0::aN 3 (.var tI::aN 9 [.con ab,.con tI])),cG⟩,[tI])]}
def pn (ρ:Type):Ü ρ:=⟨[4,1,16,11,10,9,16,11],117,0,DB,fun(p:Val ax) (v:Val Ã) a b=>s8 p.1 p.2.1 p.2.2.1 p.2.2.2.2.2 v.1 v.2 (fun c d=>a (c,d)) (b 0)⟩
def DC:Ç:={pin:=6,cs:=[tI,ab,tI,ak,ab,ab],vs:=[tI,tI,am],head:=⟨81,.con tI::.box 1 0::.any::.box 4 0::.box 0 0::.box 5 0::aN 5 (.var tI::aN 36 [.con ab,.con tI,.var tI]),cH⟩,exits:=[(.exit 2,⟨81,.con tI::.box 1 0::.any::.box 4 0::.box 0 0::.box 5 0::aN 5 (.var tI::aN 36 [.con ab,.con tI]),cH⟩,[tI,am])]}
def po (ρ:Type):Ü ρ:=⟨[4,1,16,11,10,9],117,2,DC,fun(p:Val aG) (v:Val aD) a b=>s9 p.1 p.2.1 p.2.2.1 p.2.2.2.1 p.2.2.2.2.1 p.2.2.2.2.2 v.1 v.2.1 v.2.2 (fun c d e=>a (c,d,e)) (b 0)⟩
def FK:Ç:={pin:=6,cs:=[tI,ab,tI,ak,ab,ab],vs:=[tI,tI,am],head:=⟨81,.con tI::.box 1 0::.any::.box 4 0::.box 0 0::.box 5 0::aN 5 (.var tI::aN 36 [.con ab,.con tI,.var tI]),cH⟩,exits:=[(.exit 2,⟨81,.con tI::.box 1 0::.any::.box 4 0::.box 0 0::.box 5 0::aN 5 (.var tI::aN 36 [.con ab,.con tI]),cH⟩,[tI,am])]}
def qK (ρ:Type):Ü ρ:=⟨[4,1],117,2,FK,fun(p:Val aG) (v:Val aD) a b=>j2 p.1 p.2.1 p.2.2.1 p.2.2.2.1 p.2.2.2.2.1 p.2.2.2.2.2 v.1 v.2.1 v.2.2 (fun c d e=>a (c,d,e)) (b 0)⟩
def DA:Ç:={pin:=6,cs:=[ab,tI,ak,ab,ab,am],vs:=[tI,tI],head:=⟨81,aN 3 (.box 4 0::.box 0 0::aN 3 (.var tI::aN 9 [.con ab,.con tI,.var tI])),cG⟩,exits:=[(.exit 0,⟨81,aN 3 (.box 4 0::.box 0 0::aN 3 (.var tI::aN 9 [.con ab,.con tI])),cG⟩,[tI])]}
def pm (ρ:Type):Ü ρ:=⟨[4,1,10,9,10,9],117,0,DA,fun(p:Val ax) (v:Val Ã) a b=>s7 p.1 p.2.1 p.2.2.1 p.2.2.2.2.2 v.1 v.2 (fun c d=>a (c,d)) (b 0)⟩
def Dy:Ç:={pin:=6,cs:=[ab,tI,ak,ab,ab,am],vs:=[tI,tI],head:=⟨81,aN 3 (.box 4 0::.box 0 0::aN 3 (.var tI::aN 9 [.con ab,.con tI,.var tI])),cG⟩,exits:=[(.exit 0,⟨81,aN 3 (.box 4 0::.box 0 0::aN 3 (.var tI::aN 9 [.con ab,.con tI])),cG⟩,[tI])]}
def pk (ρ:Type):Ü ρ:=⟨[4,1,10,9,16,11],117,0,Dy,fun(p:Val ax) (v:Val Ã) a b=>sZ p.1 p.2.1 p.2.2.1 p.2.2.2.2.2 v.1 v.2 (fun c d=>a (c,d)) (b 0)⟩
def Dx:Ç:={pin:=6,cs:=[ab,tI,ak,ab,ab,am],vs:=[tI,tI],head:=⟨81,aN 3 (.box 4 0::.box 0 0::aN 3 (.var tI::aN 9 [.con ab,.con tI,.var tI])),cG⟩,exits:=[(.exit 0,⟨81,aN 3 (.box 4 0::.box 0 0::aN 3 (.var tI::aN 9 [.con ab,.con tI])),cG⟩,[tI])]}
def pj (ρ:Type):Ü ρ:=⟨[4,1,10,9,16,11,10,9],117,0,Dx,fun(p:Val ax) (v:Val Ã) a b=>sY p.1 p.2.1 p.2.2.1 p.2.2.2.2.2 v.1 v.2 (fun c d=>a (c,d)) (b 0)⟩
def Dv:Ç:={pin:=6,cs:=[ab,tI,ak,ab,ab,am],vs:=[tI,tI],head:=⟨81,aN 3 (.box 4 0::.box 0 0::aN 3 (.var tI::aN 9 [.con ab,.con tI,.var tI])),cG⟩,exits:=[(.exit 0,⟨81,aN 3 (.box 4 0::.box 0 0::aN 3 (.var tI::aN 9 [.con ab,.con tI])),cG⟩,[tI])]}
def pf (ρ:Type):Ü ρ:=⟨[4,1,10,9,16,11,16,11],117,0,Dv,fun(p:Val ax) (v:Val Ã) a b=>sW p.1 p.2.1 p.2.2.1 p.2.2.2.2.2 v.1 v.2 (fun c d=>a (c,d)) (b 0)⟩
def Dw:Ç:={pin:=6,cs:=[tI,ab,tI,ak,ab,ab],vs:=[tI,tI,am],head:=⟨81,.con tI::.box 1 0::.any::.box 4 0::.box 0 0::.box 5 0::aN 5 (.var tI::aN 36 [.con ab,.con tI,.var tI]),cH⟩,exits:=[(.exit 2,⟨81,.con tI::.box 1 0::.any::.box 4 0::.box 0 0::.box 5 0::aN 5 (.var tI::aN 36 [.con ab,.con tI]),cH⟩,[tI,am])]}
def ph (ρ:Type):Ü ρ:=⟨[4,1,10,9,16,11],117,2,Dw,fun(p:Val aG) (v:Val aD) a b=>sX p.1 p.2.1 p.2.2.1 p.2.2.2.1 p.2.2.2.2.1 p.2.2.2.2.2 v.1 v.2.1 v.2.2 (fun c d e=>a (c,d,e)) (b 0)⟩
def Dz:Ç:={pin:=6,cs:=[tI,ab,tI,ak,ab,ab],vs:=[tI,tI,am],head:=⟨81,.con tI::.box 1 0::.any::.box 4 0::.box 0 0::.box 5 0::aN 5 (.var tI::aN 36 [.con ab,.con tI,.var tI]),cH⟩,exits:=[(.exit 2,⟨81,.con tI::.box 1 0::.any::.box 4 0::.box 0 0::.box 5 0::aN 5 (.var tI::aN 36 [.con ab,.con tI]),cH⟩,[tI,am])]}
def pl (ρ:Type):Ü ρ:=⟨[4,1,10,9],117,2,Dz,fun(p:Val aG) (v:Val aD) a b=>l6 p.1 p.2.1 p.2.2.1 p.2.2.2.1 p.2.2.2.2.1 p.2.2.2.2.2 v.1 v.2.1 v.2.2 (fun c d e=>a (c,d,e)) (b 0)⟩
def Du:Ç:={pin:=6,cs:=[ab,tI,ak,ab,ab,am],vs:=[tI,tI],head:=⟨81,aN 3 (.box 4 0::.box 0 0::aN 3 (.var tI::aN 9 [.con ab,.con tI,.var tI])),cG⟩,exits:=[(.exit 0,⟨81,aN 3 (.box 4 0::.box 0 0::aN 3 (.var tI::aN 9 [.con ab,.con tI])),cG⟩,[tI])]}
def pd (ρ:Type):Ü ρ:=⟨[4,1,10,9,10,9,10,9],117,0,Du,fun(p:Val ax) (v:Val Ã) a b=>sV p.1 p.2.1 p.2.2.1 p.2.2.2.2.2 v.1 v.2 (fun c d=>a (c,d)) (b 0)⟩
def Dr:Ç:={pin:=6,cs:=[ab,tI,ak,ab,ab,am],vs:=[tI,tI],head:=⟨81,aN 3 (.box 4 0::.box 0 0::aN 3 (.var tI::aN 9 [.con ab,.con tI,.var tI])),cG⟩,exits:=[(.exit 0,⟨81,aN 3 (.box 4 0::.box 0 0::aN 3 (.var tI::aN 9 [.con ab,.con tI])),cG⟩,[tI])]}
def o9 (ρ:Type):Ü ρ:=⟨[4,1,10,9,10,9,16,11],117,0,Dr,fun(p:Val ax) (v:Val Ã) a b=>sT p.1 p.2.1 p.2.2.1 p.2.2.2.2.2 v.1 v.2 (fun c d=>a (c,d)) (b 0)⟩
def Ds:Ç:={pin:=6,cs:=[tI,ab,tI,ak,ab,ab],vs:=[tI,tI,am],head:=⟨81,.con tI::.box 1 0::.any::.box 4 0::.box 0 0::.box 5 0::aN 5 (.var tI::aN 36 [.con ab,.con tI,.var tI]),cH⟩,exits:=[(.exit 2,⟨81,.con tI::.box 1 0::.any::.box 4 0::.box 0 0::.box 5 0::aN 5 (.var tI::aN 36 [.con ab,.con tI]),cH⟩,[tI,am])]}
def pb (ρ:Type):Ü ρ:=⟨[4,1,10,9,10,9],117,2,Ds,fun(p:Val aG) (v:Val aD) a b=>sU p.1 p.2.1 p.2.2.1 p.2.2.2.1 p.2.2.2.2.1 p.2.2.2.2.2 v.1 v.2.1 v.2.2 (fun c d e=>a (c,d,e)) (b 0)⟩
def Ms:List (Nat×Û):=[(52,iW)]
def sS (ρ:Type):List (Ü ρ):=[qM ρ,qL ρ,qJ ρ,qI ρ,qG ρ,qF ρ,qD ρ,qE ρ,qH ρ,pp ρ,pn ρ,po ρ,qK ρ,pm ρ,pk ρ,pj ρ,pf ρ,ph ρ,pl ρ,pd ρ,o9 ρ,pb ρ]
def à (ρ:Type):Env ρ:=Ý Ms (sS ρ)
def Ua:Û:=⟨[Ä,tI,ab,ab],[Ã,tI],fun(x:Val (.pair Ä (.pair tI aL)))=>oG x.1 x.2.1 x.2.2.1 x.2.2.2⟩
def yv:Ç:={pin:=3,cs:=[ab,tI,tI,tI,ae,aa,af,ac,aa,ab,tI,tI],vs:=[tI],head:=⟨19,.con ab::.fn 48 [(1,0)]::aN 5 [.con tI,.var tI],[bm,bp,bt]⟩,exits:=[(.ret,⟨19,[.con ab,.fn 48 [(1,0)],.any,.any,.var tI,.any,.any,.con tI],[bm,bp,bt]⟩,[tI]),(.exit 0,⟨19,.con ab::.fn 48 [(1,0)]::aN 5 [.con tI],[bm,bp,bt]⟩,[])]}
def yu (ρ:Type):Ü ρ:=⟨[4,2,1,2],115,0,yv,fun(p:Val (tyL yv.cs)) (v:Val tI) b a=>la p.1 p.2.1 p.2.2.2.2.2.2.2.2.2.1 v (fun c=>b c) (a 0) (a 1)⟩
def yr:Ç:={pin:=4,cs:=[aa,tI,tI,tI,ae,aa,af,ac,aa,ab,tI,tI,ar],vs:=[tI,tI,tI,ae,aa,af,ac,aa],head:=⟨68,aN 2 (.box 4 0::aN 20 [.con aa,.con tI,.var tI]),cI⟩,exits:=[(.ret,⟨68,aN 2 (.box 4 0::.any::.nilp::.var tI::aN 17 [.con aa,.con tI]),cI⟩,[tI,tI,tI,ae,aa,af,ac,aa]),(.exit 0,⟨68,aN 2 (.box 4 0::aN 20 [.con aa,.con tI]),cI⟩,[tI,tI,ae,aa,af,ac,aa])]}
def yq (ρ:Type):Ü ρ:=⟨[7,6],41,0,yr,fun(p:Val (tyL yr.cs)) (v:Val aF) b a=>kZ p.1 p.2.1 v.1 v.2.1 v.2.2.1 v.2.2.2.1 v.2.2.2.2.1 v.2.2.2.2.2.1 v.2.2.2.2.2.2.1 v.2.2.2.2.2.2.2 (fun c d e f g h i j=>b (c,d,e,f,g,h,i,j)) (a 0) (a 1)⟩
def yp:Ç:={pin:=0,cs:=[tI,ab,ak,aa,tI,tI,tI,ae,aa,af,ac,aa,ab,tI,tI],vs:=[tI,ab],head:=⟨143,.any::.con tI::.con ab::.any::.box 0 0::aN 2 (.box 1 0::.box 2 0::aN 3 (.con ak::.any::.own 3::.nils::aN 57 [.con aa,.con tI,.var tI])),[bm,bp,bt,.rowv tI]⟩,exits:=[(.exit 0,⟨143,.any::.con tI::.con ab::.any::.box 0 0::aN 2 (.box 1 0::.box 2 0::aN 3 (.con ak::.any::.own 3::.nils::aN 57 [.con aa,.con tI])),[bm,bp,bt,.rowv tI]⟩,[ab])]}
def yo (ρ:Type):Ü ρ:=⟨[],11,0,yp,fun(p:Val (tyL yp.cs)) (v:Val ay) a b=>iz p.2.2.1 p.2.2.2.1 p.2.2.2.2.1 v.1 v.2 (fun c d=>a (c,d)) (b 0)⟩
def yn:Ç:={pin:=0,cs:=[ab,ak,aa,tI,tI,tI,ae,aa,af,ac,aa,ab,tI,tI,ab],vs:=[tI,ab],head:=⟨143,aN 2 (.con ab::.any::.box 0 0::aN 2 (.box 1 0::.box 2 0::aN 3 (.con ak::.any::.own 3::.own 4::aN 73 [.con aa,.con tI,.var tI]))),[bm,bp,bt,.rowc tI,.rowv tI]⟩,exits:=[(.exit 2,⟨143,aN 2 (.con ab::.any::.box 0 0::aN 2 (.box 1 0::.box 2 0::aN 3 (.con ak::.any::.own 3::.own 4::aN 73 [.con aa,.con tI]))),[bm,bp,bt,.rowc tI,.rowv tI]⟩,[ab])]}
def ym (ρ:Type):Ü ρ:=⟨[],11,2,yn,fun(p:Val (tyL yn.cs)) (v:Val ay) a b=>n0 p.2.1 p.2.2.1 p.2.2.2.1 v.1 v.2 (fun c d=>a (c,d)) (b 0)⟩
def W4:List (Nat×Û):=[(43,ń),(44,VA),(45,N5),(46,N4),(49,ω),(50,jg),(51,EH),(53,iN),(54,mu),(77,ŗ),(108,ŋ)]
def BW (ρ:Type):List (Ü ρ):=[yu ρ,yq ρ,yo ρ,ym ρ]
def kw (ρ:Type):Env ρ:=Ý W4 (BW ρ)
def Zj:Û:=⟨[Ä,aa],[Ä,.bool],fun(x:Val (.pair Ä aa))=>Œ x.1 x.2⟩
def RL:Ç:={pin:=0,cs:=[aa],vs:=[tI,tI,tI,ae,aa,af,ac,aa,tI,tI,ae,aa,af,ac,aa],head:=⟨42,[.any,.con aa,.box 0 0,.any,.box 1 0,.any,.var tI],[bD,bD]⟩,exits:=[(.ret,⟨42,[.any,.con aa,.box 0 0,.any,.box 1 0,.var .bool],[bD,bD]⟩,[.bool,tI,tI,ae,aa,af,ac,aa,tI,tI,ae,aa,af,ac,aa]),(.exit 0,⟨42,[.any,.con aa,.box 0 0,.any,.box 1 0],[bD,bD]⟩,[tI,tI,ae,aa,af,ac,aa,tI,tI,ae,aa,af,ac,aa])]}
def Bj (ρ:Type):Ü ρ:=⟨[],13,0,RL,fun(p:Val aa) (v:Val (.pair tI aC)) b a=>mK p v.1 v.2.1 v.2.2.1 v.2.2.2.1 v.2.2.2.2.1 v.2.2.2.2.2.1 v.2.2.2.2.2.2.1 v.2.2.2.2.2.2.2.1 v.2.2.2.2.2.2.2.2.1 v.2.2.2.2.2.2.2.2.2.1 v.2.2.2.2.2.2.2.2.2.2.1 v.2.2.2.2.2.2.2.2.2.2.2.1 v.2.2.2.2.2.2.2.2.2.2.2.2.1 v.2.2.2.2.2.2.2.2.2.2.2.2.2.1 v.2.2.2.2.2.2.2.2.2.2.2.2.2.2 (fun c d e f g h i j k l m n o q r=>b (c,d,e,f,g,h,i,j,k,l,m,n,o,q,r)) (a 0) (a 1)⟩
def ZV:List (Nat×Û):=[(53,iN),(54,mu)]
def EY (ρ:Type):List (Ü ρ):=[Bj ρ]
def C0 (ρ:Type):Env ρ:=Ý ZV (EY ρ)
def aeO:Û:=⟨[Ä,Ä],[.bool,tI],fun(x:Val (.pair Ä Ä))=>Ĺ x.1 x.2⟩
def Pv:List (Nat×Û):=[(43,ń),(55,VB)]
def yj (ρ:Type):List (Ü ρ):=[]
def Pu:List aj4:=[⟨[],14,0,4⟩]
def ac6 (ρ:Type):Env ρ:=Ý Pv (yj ρ)
def Jm (ρ:Type):Env ρ:=aik Pv (yj ρ) Pu
def mH:Û:=⟨[Ã,tI,tI],[.bool],fun(x:Val è)=>jo x.1 x.2.1 x.2.2⟩
def Oy:List (Nat×Û):=[]
def wm (ρ:Type):List (Ü ρ):=[]
def Bn (ρ:Type):Env ρ:=Ý Oy (wm ρ)
def IE:Û:=⟨[tI,tI,tI],[.bool],fun(x:Val Ą)=>lm x.1 x.2.1 x.2.2⟩
def agb:List (Nat×Û):=[]
def OY (ρ:Type):List (Ü ρ):=[]
def Z7 (ρ:Type):Env ρ:=Ý agb (OY ρ)
def EG:Û:=⟨[tI],[.bool],fun(x:Val tI)=>vQ x⟩
def acR:List (Nat×Û):=[(132,IE)]
def KQ (ρ:Type):List (Ü ρ):=[]
def Ul (ρ:Type):Env ρ:=Ý acR (KQ ρ)
def Vy:Û:=⟨[tI,tI],[tI],fun(x:Val Ã)=>Ai x.1 x.2⟩
def WE:Ç:={pin:=0,cs:=[],vs:=[tI,tI],head:=⟨14,[.var tI,.var tI],[]⟩,exits:=[(.exit 0,⟨14,[.var tI],[]⟩,[tI])]}
def Fx (ρ:Type):Ü ρ:=⟨[],197,0,WE,fun(p:Unit) (v:Val Ã) a b=>uQ v.1 v.2 (fun c d=>a (c,d)) (b 0)⟩
def acX:List (Nat×Û):=[]
def KW (ρ:Type):List (Ü ρ):=[Fx ρ]
def I5 (ρ:Type):Env ρ:=Ý acX (KW ρ)
def Vz:Û:=⟨[tI],[tI],fun(x:Val tI)=>HP x⟩
def acZ:List (Nat×Û):=[]
def KZ (ρ:Type):List (Ü ρ):=[]
def Uq (ρ:Type):Env ρ:=Ý acZ (KZ ρ)
def T5:Û:=⟨[Ã],[.bool],fun(x:Val Ã)=>Ag x⟩
def Wz:List (Nat×Û):=[(197,Vy),(198,Vz)]
def BH (ρ:Type):List (Ü ρ):=[]
def KR (ρ:Type):Env ρ:=Ý Wz (BH ρ)
def T1:Û:=⟨[Ð],[.bool],fun(x:Val Ð)=>Ad x⟩
def Wb:List (Nat×Û):=[(56,mH),(62,EG),(131,T5),(132,IE)]
def Br (ρ:Type):List (Ü ρ):=[]
def KL (ρ:Type):Env ρ:=Ý Wb (Br ρ)
def xo:Û:=⟨[Ä,tI],[tI],fun(x:Val aM)=>pK x.1 x.2⟩
def Sk:Ç:={pin:=0,cs:=[tI,tI,tI,ae,aa,af,ac,aa],vs:=[tI],head:=⟨22,[.any,.con tI,.box 0 0,.any,.any,.var tI],[bm]⟩,exits:=[(.ret,⟨22,[.any,.con tI,.box 0 0,.any,.var tI],[bm]⟩,[tI]),(.exit 0,⟨22,[.any,.con tI,.box 0 0],[bm]⟩,[])]}
def BD (ρ:Type):Ü ρ:=⟨[],134,0,Sk,fun(p:Val aF) (v:Val tI) b a=>qA p.1 p.2.2.2.1 v (fun c=>b c) (a 0) (a 1)⟩
def Z9:List (Nat×Û):=[]
def Ft (ρ:Type):List (Ü ρ):=[BD ρ]
def Dc (ρ:Type):Env ρ:=Ý Z9 (Ft ρ)
def sG:Û:=⟨[Ä,tI,tI],[tI],fun(x:Val aJ)=>mi x.1 x.2.1 x.2.2⟩
def Wi:List (Nat×Û):=[(134,xo)]
def Bv (ρ:Type):List (Ü ρ):=[]
def KN (ρ:Type):Env ρ:=Ý Wi (Bv ρ)
def Zk:Û:=⟨[Ä],[tI],fun(x:Val Ä)=>HK x⟩
def RP:Ç:={pin:=0,cs:=[tI,tI,ae,aa,af,ac,aa],vs:=[tI],head:=⟨37,[.any,.box 0 0,.any,.var tI],[bm]⟩,exits:=[(.ret,⟨37,[.any,.box 0 0,.var tI],[bm]⟩,[tI]),(.exit 0,⟨37,[.any,.box 0 0],[bm]⟩,[])]}
def Bm (ρ:Type):Ü ρ:=⟨[],58,0,RP,fun(p:Val ah) (v:Val tI) b a=>let A:=p.2.2.2.2;qp p.1 p.2.1 p.2.2.1 p.2.2.2.1 A.1 A.2.1 A.2.2 v (fun c=>b c) (a 0) (a 1)⟩
def ZX:List (Nat×Û):=[(62,EG),(63,sG)]
def E7 (ρ:Type):List (Ü ρ):=[Bm ρ]
def C2 (ρ:Type):Env ρ:=Ý ZX (E7 ρ)
def TZ:Û:=⟨[Ä],[tI],fun(x:Val Ä)=>Ac x⟩
def OA:Ç:={pin:=0,cs:=[tI,tI,tI,ae,aa,af,ac,aa,tI,tI,tI,tI],vs:=[tI],head:=⟨111,[.any,.box 0 0,.any,.con tI,.box 1 0,.any,.var tI],bX⟩,exits:=[(.ret,⟨111,[.any,.box 0 0,.var tI,.con tI,.box 1 0],bX⟩,[tI]),(.exit 2,⟨111,[.any,.box 0 0,.any,.con tI,.box 1 0],bX⟩,[])]}
def xC (ρ:Type):Ü ρ:=⟨[],59,2,OA,fun(p:Val aH) (v:Val tI) b a=>let A:=p.2.2.2.2.2;nQ p.1 A.1 A.2.2.2.1 A.2.2.2.2.1 A.2.2.2.2.2.1 v (fun c=>b c) (a 0) (a 1)⟩
def Oz:Ç:={pin:=0,cs:=[tI,tI,tI,ae,aa,af,ac,aa,tI,tI,tI,tI],vs:=[tI],head:=⟨111,[.any,.box 0 0,.any,.con tI,.box 1 0,.any,.any,.var tI],bX⟩,exits:=[(.ret,⟨111,[.any,.box 0 0,.var tI,.con tI,.box 1 0],bX⟩,[tI]),(.exit 4,⟨111,[.any,.box 0 0,.any,.con tI,.box 1 0],bX⟩,[])]}
def xB (ρ:Type):Ü ρ:=⟨[],59,4,Oz,fun(p:Val aH) (v:Val tI) b a=>let A:=p.2.2.2.2;let B:=A.2.2.2.2;kV A.1 B.1 B.2.1 B.2.2.1 v (fun c=>b c) (a 0) (a 1)⟩
def OB:Ç:={pin:=0,cs:=[tI,tI,ae,aa,af,ac,aa],vs:=[tI],head:=⟨111,[.any,.box 0 0,.any,.var tI],[bm]⟩,exits:=[(.ret,⟨111,[.any,.box 0 0,.var tI],[bm]⟩,[tI]),(.exit 0,⟨111,[.any,.box 0 0],[bm]⟩,[])]}
def xD (ρ:Type):Ü ρ:=⟨[],59,0,OB,fun(p:Val ah) (v:Val tI) b a=>let A:=p.2.2.2.2;nR p.1 p.2.1 p.2.2.1 p.2.2.2.1 A.1 A.2.1 A.2.2 v (fun c=>b c) (a 0) (a 1)⟩
def V8:List (Nat×Û):=[(56,mH),(63,sG),(132,IE)]
def Bp (ρ:Type):List (Ü ρ):=[xC ρ,xB ρ,xD ρ]
def mP (ρ:Type):Env ρ:=Ý V8 (Bp ρ)
def Zo:Û:=⟨[ab],[.bool],fun(x:Val ab)=>zh x⟩
def Sd:Ç:={pin:=0,cs:=[ab],vs:=[tI],head:=⟨35,[.con ab,.any,.any,.var tI],[]⟩,exits:=[(.ret,⟨35,[.con ab,.any,.var .bool],[]⟩,[.bool]),(.exit 0,⟨35,[.con ab],[]⟩,[])]}
def Bw (ρ:Type):Ü ρ:=⟨[],133,0,Sd,fun(p:Val ab) (v:Val tI) b a=>qw p v (fun c=>b c) (a 0) (a 1)⟩
def Z3:List (Nat×Û):=[(132,IE)]
def Fm (ρ:Type):List (Ü ρ):=[Bw ρ]
def C7 (ρ:Type):Env ρ:=Ý Z3 (Fm ρ)
def TY:Û:=⟨[Ì],[.bool],fun(x:Val Ì)=>Ab x⟩
def V6:List (Nat×Û):=[(56,mH),(62,EG),(132,IE),(133,Zo)]
def Bo (ρ:Type):List (Ü ρ):=[]
def KI (ρ:Type):Env ρ:=Ý V6 (Bo ρ)
def N1:Û:=⟨[Ä,tI,tI],[Ń,.bool],fun(x:Val aJ)=>zi x.1 x.2.1 x.2.2⟩
def Sf:Ç:={pin:=0,cs:=[tI,tI,tI,tI,ae,aa,af,ac,aa],vs:=[tI,tI,tI,tI,tI],head:=⟨42,[.any,.con tI,.con tI,.box 0 0,.any,.any,.box 1 0,.any,.var tI],[bm,bT]⟩,exits:=[(.ret,⟨42,[.any,.con tI,.con tI,.box 0 0,.any,.any,.box 1 0,.var .bool],[bm,bT]⟩,[.bool,tI,tI,tI,tI]),(.exit 0,⟨42,[.any,.con tI,.con tI,.box 0 0,.any,.any,.box 1 0],[bm,bT]⟩,[tI,tI,tI,tI])]}
def BA (ρ:Type):Ü ρ:=⟨[],135,0,Sf,fun(p:Val (.pair tI aF)) (v:Val bi) b a=>qy p.1 p.2.1 p.2.2.2.2.2.2.1 v.1 v.2.1 v.2.2.1 v.2.2.2.1 v.2.2.2.2 (fun c d e f g=>b (c,d,e,f,g)) (a 0) (a 1)⟩
def Z5:List (Nat×Û):=[]
def Fp (ρ:Type):List (Ü ρ):=[BA ρ]
def C9 (ρ:Type):Env ρ:=Ý Z5 (Fp ρ)
def aeJ:Û:=⟨[ab,tI],[.bool],fun(x:Val aK)=>Nw x.1 x.2⟩
def Wr:Ç:={pin:=0,cs:=[ab,tI],vs:=[tI],head:=⟨18,[.con ab,.con tI,.any,.any,.any,.var tI],[]⟩,exits:=[(.ret,⟨18,[.con ab,.con tI,.any,.any,.var .bool],[]⟩,[.bool]),(.exit 0,⟨18,[.con ab,.con tI],[]⟩,[])]}
def Fr (ρ:Type):Ü ρ:=⟨[],199,0,Wr,fun(p:Val aK) (v:Val tI) b a=>uP p.1 p.2 v (fun c=>b c) (a 0) (a 1)⟩
def acQ:List (Nat×Û):=[]
def KO (ρ:Type):List (Ü ρ):=[Fr ρ]
def I0 (ρ:Type):Env ρ:=Ý acQ (KO ρ)
def N2:Û:=⟨[ab,ab],[ab],fun(x:Val aL)=>jR x.1 x.2⟩
def Sg:Ç:={pin:=0,cs:=[ab,ab],vs:=[tI,ab],head:=⟨28,[.con ab,.con ab,.any,.any,.any,.own 0,.var tI],[.rowv tI]⟩,exits:=[(.exit 0,⟨28,[.con ab,.con ab,.any,.any,.any,.own 0],[.rowv tI]⟩,[ab])]}
def BB (ρ:Type):Ü ρ:=⟨[],136,0,Sg,fun(p:Val aL) (v:Val ay) a b=>qz p.1 p.2 v.1 v.2 (fun c d=>a (c,d)) (b 0)⟩
def Z6:List (Nat×Û):=[(199,aeJ)]
def Fq (ρ:Type):List (Ü ρ):=[BB ρ]
def Da (ρ:Type):Env ρ:=Ý Z6 (Fq ρ)
def EF:Û:=⟨[Ä,Ì],[tI],fun(x:Val aE)=>jC x.1 x.2⟩
def Fc:Ç:={pin:=0,cs:=[tI,tI,ae,aa,af,ac,aa,tI,tI,ab,ab,tI,tI,tI,tI,ab],vs:=[tI],head:=⟨90,[.any,.any,.box 0 0,.box 1 0,.any,.own 2,.var tI],bY⟩,exits:=[(.ret,⟨90,[.any,.any,.box 0 0,.box 1 0,.var tI,.own 2],bY⟩,[tI]),(.exit 0,⟨90,[.any,.any,.box 0 0,.box 1 0,.any,.own 2],bY⟩,[])]}
def qt (ρ:Type):Ü ρ:=⟨[],61,0,Fc,fun(p:Val aA) (v:Val tI) b a=>let A:=p.2.2.2.2;jZ p.1 p.2.1 p.2.2.1 p.2.2.2.1 A.1 A.2.1 A.2.2.1 A.2.2.2.2.2.2.2.2.2.2.2 v (fun c=>b c) (a 0) (a 1)⟩
def E9:Ç:={pin:=0,cs:=[tI,tI,ae,aa,af,ac,aa,tI,tI,ab,ab,tI,tI,tI,tI,ab],vs:=[tI],head:=⟨90,[.any,.any,.box 0 0,.box 1 0,.any,.own 2,.any,.var tI],bY⟩,exits:=[(.ret,⟨90,[.any,.any,.box 0 0,.box 1 0,.var tI,.own 2],bY⟩,[tI]),(.exit 2,⟨90,[.any,.any,.box 0 0,.box 1 0,.any,.own 2],bY⟩,[])]}
def qr (ρ:Type):Ü ρ:=⟨[],61,2,E9,fun(p:Val aA) (v:Val tI) b a=>let A:=p.2.2.2.2;iQ p.1 p.2.1 p.2.2.1 p.2.2.2.1 A.1 A.2.1 A.2.2.1 A.2.2.2.2.1 A.2.2.2.2.2.2.2.2.2.2.2 v (fun c=>b c) (a 0) (a 1)⟩
def E8:Ç:={pin:=0,cs:=[tI,tI,ae,aa,af,ac,aa,tI,tI,ab,ab,tI,tI,tI,tI,ab],vs:=[tI],head:=⟨90,[.any,.any,.box 0 0,.box 1 0,.any,.own 2,.any,.any,.var tI],bY⟩,exits:=[(.ret,⟨90,[.any,.any,.box 0 0,.box 1 0,.var tI,.own 2],bY⟩,[tI]),(.exit 4,⟨90,[.any,.any,.box 0 0,.box 1 0,.any,.own 2],bY⟩,[])]}
def qq (ρ:Type):Ü ρ:=⟨[],61,4,E8,fun(p:Val aA) (v:Val tI) b a=>let A:=p.2.2.2.2;Ζ p.1 p.2.1 p.2.2.1 p.2.2.2.1 A.1 A.2.1 A.2.2.1 A.2.2.2.2.1 A.2.2.2.2.2.2.2.2.2.2.2 v (fun c=>b c) (a 0) (a 1)⟩
def Me:List (Nat×Û):=[(63,sG),(134,xo),(135,N1),(136,N2)]
def sQ (ρ:Type):List (Ü ρ):=[qt ρ,qr ρ,qq ρ]
def jh (ρ:Type):Env ρ:=Ý Me (sQ ρ)
def Ng:Û:=⟨[ab,ab],[tI],fun(x:Val aL)=>oh x.1 x.2⟩
def acM:List (Nat×Û):=[(136,N2)]
def KJ (ρ:Type):List (Ü ρ):=[]
def Uk (ρ:Type):Env ρ:=Ý acM (KJ ρ)
def Zl:Û:=⟨[Ä,Ð,tI],[.bool],fun(x:Val (.pair Ä (.pair Ð tI)))=>HL x.1 x.2.1 x.2.2⟩
def RW:Ç:={pin:=0,cs:=[tI,tI,tI,ae,aa,af,ac,aa,tI,tI,tI,tI,tI,tI,tI,tI],vs:=[tI],head:=⟨76,[.any,.any,.con tI,.box 0 0,.box 1 0,.any,.any,.var tI],[bm,bn]⟩,exits:=[(.ret,⟨76,[.any,.any,.con tI,.box 0 0,.box 1 0,.any,.var .bool],[bm,bn]⟩,[.bool]),(.exit 0,⟨76,[.any,.any,.con tI,.box 0 0,.box 1 0],[bm,bn]⟩,[])]}
def Bt (ρ:Type):Ü ρ:=⟨[],137,0,RW,fun(p:Val aB) (v:Val tI) b a=>qu p.1 p.2.2.2.2.2.2.1 p.2.2.2.2.2.2.2.2.1 v (fun c=>b c) (a 0) (a 1)⟩
def RV:Ç:={pin:=0,cs:=[tI,tI,tI,ae,aa,af,ac,aa,tI,tI,tI,tI,tI,tI,tI,tI],vs:=[tI],head:=⟨76,aN 2 (.con tI::.box 0 0::.box 1 0::aN 4 [.var tI]),[bm,bn]⟩,exits:=[(.ret,⟨76,[.any,.any,.con tI,.box 0 0,.box 1 0,.any,.var .bool],[bm,bn]⟩,[.bool]),(.exit 2,⟨76,[.any,.any,.con tI,.box 0 0,.box 1 0],[bm,bn]⟩,[])]}
def Bs (ρ:Type):Ü ρ:=⟨[],137,2,RV,fun(p:Val aB) (v:Val tI) b a=>mQ p.1 p.2.2.2.2.2.2.2.1 p.2.2.2.2.2.2.2.2.1 v (fun c=>b c) (a 0) (a 1)⟩
def ZZ:List (Nat×Û):=[(139,Ng)]
def Fe (ρ:Type):List (Ü ρ):=[Bt ρ,Bs ρ]
def uM (ρ:Type):Env ρ:=Ý ZZ (Fe ρ)
def zI:Û:=⟨[Ä],[aa],fun(x:Val Ä)=>kB x⟩
def OP:Ç:={pin:=0,cs:=[tI,tI,ae,aa,af,ac,aa],vs:=[tI,ab],head:=⟨114,[.any,.box 0 0,.any,.own 1,.var tI],cJ⟩,exits:=[(.exit 0,⟨114,[.any,.box 0 0,.any,.own 1],cJ⟩,[ab])]}
def xM (ρ:Type):Ü ρ:=⟨[],64,0,OP,fun(p:Val ah) (v:Val ay) a b=>nW p.2.2.1 v.1 v.2 (fun c d=>a (c,d)) (b 0)⟩
def OO:Ç:={pin:=0,cs:=[tI,tI,ae,aa,af,ac,aa],vs:=[tI,ab],head:=⟨114,[.any,.box 0 0,.any,.own 1,.any,.var tI],cJ⟩,exits:=[(.exit 2,⟨114,[.any,.box 0 0,.any,.own 1],cJ⟩,[ab])]}
def xL (ρ:Type):Ü ρ:=⟨[],64,2,OO,fun(p:Val ah) (v:Val ay) a b=>nV p.2.2.2.2.2.1 v.1 v.2 (fun c d=>a (c,d)) (b 0)⟩
def OM:Ç:={pin:=0,cs:=[tI,tI,ae,aa,af,ac,aa],vs:=[tI,ab],head:=⟨114,[.any,.box 0 0,.any,.own 1,.any,.any,.var tI],cJ⟩,exits:=[(.exit 4,⟨114,[.any,.box 0 0,.any,.own 1],cJ⟩,[ab])]}
def xK (ρ:Type):Ü ρ:=⟨[],64,4,OM,fun(p:Val ah) (v:Val ay) a b=>nT p.2.2.2.2.2.2 v.1 v.2 (fun c d=>a (c,d)) (b 0)⟩
def xF:Ç:={pin:=0,cs:=[tI,tI,tI,tI,ae,aa,af,ac,aa,ab,aa],vs:=[tI,tI],head:=⟨114,[.any,.box 0 0,.any,.own 1,.any,.any,.any,.own 2,.con tI,.con tI,.var tI,.var tI],[bm,.rowc tI,.rowc Ã]⟩,exits:=[(.exit 10,⟨114,[.any,.box 0 0,.any,.own 1,.any,.any,.any,.own 2,.con tI,.con tI,.var tI],[bm,.rowc tI,.rowc Ã]⟩,[tI])]}
def xE (ρ:Type):Ü ρ:=⟨[],64,10,xF,fun(p:Val (tyL xF.cs)) (v:Val Ã) a b=>kW p.2.1 p.2.2.2.2.2.2.2.2.2.1 v.1 v.2 (fun c d=>a (c,d)) (b 0)⟩
def xH:Ç:={pin:=0,cs:=[tI,tI,tI,ae,aa,af,ac,aa,ab],vs:=[tI,aa],head:=⟨114,[.any,.box 0 0,.any,.own 1,.any,.any,.any,.own 2,.con tI,.var tI],cM⟩,exits:=[(.exit 8,⟨114,[.any,.box 0 0,.any,.own 1,.any,.any,.any,.own 2,.con tI],cM⟩,[aa])]}
def xG (ρ:Type):Ü ρ:=⟨[],64,8,xH,fun(p:Val (tyL xH.cs)) (v:Val aI) a b=>let A:=p.2.2.2.2;kX p.1 p.2.1 p.2.2.1 p.2.2.2.1 A.1 A.2.1 A.2.2.1 A.2.2.2.1 A.2.2.2.2 v.1 v.2 (fun c d=>a (c,d)) (b 0)⟩
def xJ:Ç:={pin:=0,cs:=[tI,tI,ae,aa,af,ac,aa,ab],vs:=[tI,aa],head:=⟨114,[.any,.box 0 0,.any,.own 1,.any,.any,.any,.own 2,.var tI],cM⟩,exits:=[(.exit 6,⟨114,[.any,.box 0 0,.any,.own 1,.any,.any,.any,.own 2],cM⟩,[aa])]}
def xI (ρ:Type):Ü ρ:=⟨[],64,6,xJ,fun(p:Val (tyL xJ.cs)) (v:Val aI) a b=>let A:=p.2.2.2.2;nS p.1 p.2.1 p.2.2.1 p.2.2.2.1 A.1 A.2.1 A.2.2.1 A.2.2.2 v.1 v.2 (fun c d=>a (c,d)) (b 0)⟩
def Wm:List (Nat×Û):=[(137,Zl)]
def Bx (ρ:Type):List (Ü ρ):=[xM ρ,xL ρ,xK ρ,xE ρ,xG ρ,xI ρ]
def il (ρ:Type):Env ρ:=Ý Wm (Bx ρ)
def T2:Û:=⟨[Ä,Ã],[tI],fun(x:Val aJ)=>jD x.1 x.2⟩
def OX:Ç:={pin:=0,cs:=[aa,tI,tI],vs:=[tI],head:=⟨23,[.any,.any,.any,.box 0 0,.any,.con aa,.var tI],[bt]⟩,exits:=[(.ret,⟨23,[.any,.any,.any,.box 0 0,.var tI,.con aa],[bt]⟩,[tI]),(.exit 0,⟨23,[.any,.any,.any,.box 0 0,.any,.con aa],[bt]⟩,[])]}
def xN (ρ:Type):Ü ρ:=⟨[],85,0,OX,fun(p:Val ba) (v:Val tI) b a=>nX p.1 p.2.1 p.2.2 v (fun c=>b c) (a 0) (a 1)⟩
def Wq:List (Nat×Û):=[(64,zI)]
def BC (ρ:Type):List (Ü ρ):=[xN ρ]
def xO (ρ:Type):Env ρ:=Ý Wq (BC ρ)
def Zm:Û:=⟨[Ä,tI,tI],[.bool],fun(x:Val aJ)=>HM x.1 x.2.1 x.2.2⟩
def RX:Ç:={pin:=0,cs:=[tI,tI,tI,tI,ae,aa,af,ac,aa],vs:=[tI],head:=⟨33,[.any,.con tI,.con tI,.box 0 0,.any,.any,.any,.var tI],[bm]⟩,exits:=[(.ret,⟨33,[.any,.con tI,.con tI,.box 0 0,.any,.any,.var .bool],[bm]⟩,[.bool]),(.exit 0,⟨33,[.any,.con tI,.con tI,.box 0 0],[bm]⟩,[])]}
def Bu (ρ:Type):Ü ρ:=⟨[],200,0,RX,fun(p:Val (.pair tI aF)) (v:Val tI) b a=>qv p.1 p.2.1 p.2.2.2.2.2.1 v (fun c=>b c) (a 0) (a 1)⟩
def Z0:List (Nat×Û):=[]
def Ff (ρ:Type):List (Ü ρ):=[Bu ρ]
def C6 (ρ:Type):Env ρ:=Ý Z0 (Ff ρ)
def Zp:Û:=⟨[Ä,tI,tI,tI],[tI],fun(x:Val (.pair Ä Ą))=>t7 x.1 x.2.1 x.2.2.1 x.2.2.2⟩
def Bz:Ç:={pin:=0,cs:=[tI,tI,tI,tI,tI,ae,aa,af,ac,aa],vs:=[tI,tI],head:=⟨48,.any::.con tI::.any::.con tI::.box 0 0::aN 4 [.con tI,.var tI,.var tI],[bm]⟩,exits:=[(.exit 0,⟨48,.any::.con tI::.any::.con tI::.box 0 0::aN 4 [.con tI,.var tI],[bm]⟩,[tI])]}
def By (ρ:Type):Ü ρ:=⟨[],138,0,Bz,fun(p:Val (tyL Bz.cs)) (v:Val Ã) a b=>let A:=p.2.2.2.2;qx p.1 p.2.1 p.2.2.1 p.2.2.2.1 A.1 A.2.1 A.2.2.1 A.2.2.2.1 A.2.2.2.2.1 A.2.2.2.2.2 v.1 v.2 (fun c d=>a (c,d)) (b 0)⟩
def Z4:List (Nat×Û):=[(134,xo),(135,N1),(200,Zm)]
def Fo (ρ:Type):List (Ü ρ):=[By ρ]
def C8 (ρ:Type):Env ρ:=Ý Z4 (Fo ρ)
def CP:Û:=⟨[tI,tI],[ħ],fun(x:Val Ã)=>pL x.1 x.2⟩
def Sq:List (Nat×Û):=[(197,Vy),(198,Vz)]
def xU (ρ:Type):List (Ü ρ):=[]
def Fu (ρ:Type):Env ρ:=Ý Sq (xU ρ)
def aeN:Û:=⟨[Ã,Ã],[ħ],fun(x:Val è)=>X2 x.1 x.2⟩
def acY:List (Nat×Û):=[(274,CP)]
def KY (ρ:Type):List (Ü ρ):=[]
def Up (ρ:Type):Env ρ:=Ý acY (KY ρ)
def aeL:Û:=⟨[Ã],[Ã],fun(x:Val Ã)=>X1 x⟩
def acV:List (Nat×Û):=[]
def KU (ρ:Type):List (Ü ρ):=[]
def Un (ρ:Type):Env ρ:=Ý acV (KU ρ)
def aeK:Û:=⟨[Ã,Ã],[ħ],fun(x:Val è)=>Nx x.1 x.2⟩
def acU:List (Nat×Û):=[(254,aeN),(255,aeL)]
def KS (ρ:Type):List (Ü ρ):=[]
def Um (ρ:Type):Env ρ:=Ý acU (KS ρ)
def T0:Û:=⟨[Ä,tI],[Ã],fun(x:Val aM)=>tY x.1 x.2⟩
def V9:List (Nat×Û):=[(134,xo)]
def Bq (ρ:Type):List (Ü ρ):=[]
def KK (ρ:Type):Env ρ:=Ý V9 (Bq ρ)
def Zr:Û:=⟨[ħ,ħ],[sr],fun(x:Val (.pair ħ ħ))=>HN x.1 x.2⟩
def aad:List (Nat×Û):=[]
def Fw (ρ:Type):List (Ü ρ):=[]
def Pa (ρ:Type):Env ρ:=Ý aad (Fw ρ)
def aeM:Û:=⟨[Ã,Ã],[ħ],fun(x:Val è)=>vR x.1 x.2⟩
def acW:List (Nat×Û):=[(274,CP)]
def KV (ρ:Type):List (Ü ρ):=[]
def Uo (ρ:Type):Env ρ:=Ý acW (KV ρ)
def T6:Û:=⟨[è,Ã],[sr],fun(x:Val (.pair è Ã))=>Ah x.1 x.2⟩
def WB:List (Nat×Û):=[(256,Zr),(257,aeM)]
def BI (ρ:Type):List (Ü ρ):=[]
def KT (ρ:Type):Env ρ:=Ý WB (BI ρ)
def N3:Û:=⟨[Ä,Ì],[è],fun(x:Val aE)=>vP x.1 x.2⟩
def Sj:List (Nat×Û):=[(139,Ng),(238,aeK),(239,T0),(240,T6)]
def xP (ρ:Type):List (Ü ρ):=[]
def Fs (ρ:Type):Env ρ:=Ý Sj (xP ρ)
def T3:Û:=⟨[Ä,Ì],[Ã],fun(x:Val aE)=>Af x.1 x.2⟩
def Wu:List (Nat×Û):=[]
def BF (ρ:Type):List (Ü ρ):=[]
def KP (ρ:Type):Env ρ:=Ý Wu (BF ρ)
def Zq:Û:=⟨[tI,tI],[tI],fun(x:Val Ã)=>QR x.1 x.2⟩
def aac:List (Nat×Û):=[]
def Fv (ρ:Type):List (Ü ρ):=[]
def O8 (ρ:Type):Env ρ:=Ý aac (Fv ρ)
def T7:Û:=⟨[Ã],[tI],fun(x:Val Ã)=>Aj x⟩
def WG:List (Nat×Û):=[(241,Zq)]
def BJ (ρ:Type):List (Ü ρ):=[]
def KX (ρ:Type):Env ρ:=Ý WG (BJ ρ)
def ahS:Û:=⟨[tI,tI],[tI],fun(x:Val Ã)=>adI x.1 x.2⟩
def agc:List (Nat×Û):=[]
def O6 (ρ:Type):List (Ü ρ):=[]
def aab (ρ:Type):Env ρ:=Ý agc (O6 ρ)
def Zs:Û:=⟨[Ã],[tI],fun(x:Val Ã)=>HO x⟩
def aai:List (Nat×Û):=[(242,ahS)]
def Fy (ρ:Type):List (Ü ρ):=[]
def Pc (ρ:Type):Env ρ:=Ý aai (Fy ρ)
def Zn:Û:=⟨[Ä,Ì],[Ã],fun(x:Val aE)=>tZ x.1 x.2⟩
def Z2:List (Nat×Û):=[(201,N3),(202,T3),(203,T7),(204,Zs)]
def Fl (ρ:Type):List (Ü ρ):=[]
def OI (ρ:Type):Env ρ:=Ý Z2 (Fl ρ)
def aeI:Û:=⟨[Ä],[wh],fun(x:Val Ä)=>Ae x⟩
def Wf:Ç:={pin:=0,cs:=[aa,tI,tI,tI,ae,aa,af,ac,aa,tI,tI,tI,tI,tI,tI,tI,tI],vs:=[tI,aj,aa],head:=⟨182,[.any,.box 0 0,.box 1 0,.box 2 0,.con aa,.con tI,.box 3 0,.var tI],[bm,bU,.cells [.own 4,.own 5],bn,.rowv Ą,.rowv Ã]⟩,exits:=[(.exit 2,⟨182,[.any,.box 0 0,.box 1 0,.box 2 0,.con aa,.con tI,.box 3 0],[bm,bU,.cells [.own 4,.own 5],bn,.rowv Ą,.rowv Ã]⟩,[aj,aa])]}
def Fh (ρ:Type):Ü ρ:=⟨[],65,2,Wf,fun(p:Val (.pair aa aB)) (v:Val aR) a b=>let A:=p.2.2.2.2;let B:=A.2.2.2.2;oU p.1 p.2.1 p.2.2.1 p.2.2.2.1 A.1 A.2.1 A.2.2.1 A.2.2.2.1 B.1 B.2.1 B.2.2.1 B.2.2.2.1 B.2.2.2.2.1 B.2.2.2.2.2.1 v.1 v.2.1 v.2.2 (fun c d e=>a (c,d,e)) (b 0)⟩
def Wg:Ç:={pin:=0,cs:=[aa,tI,tI,ae,aa,af,ac,aa],vs:=[tI,aj,aa],head:=⟨182,[.any,.box 0 0,.box 1 0,.box 2 0,.con aa,.var tI],cN⟩,exits:=[(.exit 0,⟨182,[.any,.box 0 0,.box 1 0,.box 2 0,.con aa],cN⟩,[aj,aa])]}
def Fk (ρ:Type):Ü ρ:=⟨[],65,0,Wg,fun(p:Val (.pair aa ah)) (v:Val aR) a b=>let A:=p.2.2.2.2;uO p.1 p.2.1 p.2.2.1 p.2.2.2.1 A.1 A.2.1 A.2.2.1 A.2.2.2 v.1 v.2.1 v.2.2 (fun c d e=>a (c,d,e)) (b 0)⟩
def We:Ç:={pin:=0,cs:=[tI,tI,ae,aa,af,ac,aa],vs:=[tI,aj,aa],head:=⟨182,.any::.box 0 0::.box 1 0::.box 2 0::aN 5 [.var tI],cN⟩,exits:=[(.exit 4,⟨182,[.any,.box 0 0,.box 1 0,.box 2 0],cN⟩,[aj,aa])]}
def Fg (ρ:Type):Ü ρ:=⟨[],65,4,We,fun(p:Val ah) (v:Val aR) a b=>let A:=p.2.2.2.2;uN p.1 p.2.1 p.2.2.1 p.2.2.2.1 A.1 A.2.1 A.2.2 v.1 v.2.1 v.2.2 (fun c d e=>a (c,d,e)) (b 0)⟩
def acN:List (Nat×Û):=[(64,zI),(85,T2),(138,Zp),(139,Ng),(140,Zn)]
def KM (ρ:Type):List (Ü ρ):=[Fh ρ,Fk ρ,Fg ρ]
def sR (ρ:Type):Env ρ:=Ý acN (KM ρ)
def T4:Û:=⟨[Ä],[tI],fun(x:Val Ä)=>Ū x⟩
def O5:Ç:={pin:=0,cs:=[tI,tI,ae,aa,af,ac,aa],vs:=[tI],head:=⟨170,[.any,.box 0 0,.any,.var tI],[bm]⟩,exits:=[(.ret,⟨170,[.any,.box 0 0,.var tI],[bm]⟩,[tI]),(.exit 0,⟨170,[.any,.box 0 0],[bm]⟩,[])]}
def xT (ρ:Type):Ü ρ:=⟨[],15,0,O5,fun(p:Val ah) (v:Val tI) b a=>nZ p.2.2.1 v (fun c=>b c) (a 0) (a 1)⟩
def O3:Ç:={pin:=0,cs:=[tI,tI,tI,ae,aa,af,ac,aa],vs:=[tI],head:=⟨170,.any::.box 0 0::aN 4 [.con tI,.any,.var tI],[bm]⟩,exits:=[(.ret,⟨170,[.any,.box 0 0,.var tI,.any,.any,.any,.con tI],[bm]⟩,[tI]),(.exit 4,⟨170,.any::.box 0 0::aN 4 [.con tI],[bm]⟩,[])]}
def xR (ρ:Type):Ü ρ:=⟨[],15,4,O3,fun(p:Val aF) (v:Val tI) b a=>nY p.1 p.2.2.2.2.2.2.1 v (fun c=>b c) (a 0) (a 1)⟩
def O4:Ç:={pin:=0,cs:=[tI,tI,ae,aa,af,ac,aa],vs:=[tI],head:=⟨170,.any::.box 0 0::aN 4 [.var tI],[bm]⟩,exits:=[(.ret,⟨170,[.any,.box 0 0,.var tI],[bm]⟩,[tI]),(.exit 2,⟨170,[.any,.box 0 0],[bm]⟩,[])]}
def xS (ρ:Type):Ü ρ:=⟨[],15,2,O4,fun(p:Val ah) (v:Val tI) b a=>let A:=p.2.2.2.2;jw p.1 p.2.1 p.2.2.1 p.2.2.2.1 A.1 A.2.1 A.2.2 v (fun c=>b c) (a 0) (a 1)⟩
def O2:Ç:={pin:=0,cs:=[tI,tI,ae,aa,af,ac,aa],vs:=[tI],head:=⟨170,.any::.box 0 0::aN 7 [.var tI],[bm]⟩,exits:=[(.ret,⟨170,[.any,.box 0 0,.var tI],[bm]⟩,[tI]),(.exit 6,⟨170,[.any,.box 0 0],[bm]⟩,[])]}
def xQ (ρ:Type):Ü ρ:=⟨[],15,6,O2,fun(p:Val ah) (v:Val tI) b a=>let A:=p.2.2.2.2;jv p.1 p.2.1 p.2.2.1 p.2.2.2.1 A.1 A.2.1 A.2.2 v (fun c=>b c) (a 0) (a 1)⟩
def Ww:List (Nat×Û):=[(56,mH),(57,T1),(58,Zk),(59,TZ),(60,TY),(61,EF),(62,EG),(63,sG),(64,zI),(65,aeI)]
def BG (ρ:Type):List (Ü ρ):=[xT ρ,xR ρ,xS ρ,xQ ρ]
def ku (ρ:Type):Env ρ:=Ý Ww (BG ρ)
def mq:Û:=⟨[Ä,tI,tI,tI],[.bool],fun(x:Val (.pair Ä Ą))=>sg x.1 x.2.1 x.2.2.1 x.2.2.2⟩
def IQ:List (Nat×Û):=[(7,aeH),(8,N0),(9,xq),(10,VC),(11,Ua),(12,CT),(13,Zj),(14,aeO),(15,T4)]
def qo (ρ:Type):List (Ü ρ):=[]
def wl (ρ:Type):Env ρ:=Ý IQ (qo ρ)
end Go.Proofs.ZzM
end
