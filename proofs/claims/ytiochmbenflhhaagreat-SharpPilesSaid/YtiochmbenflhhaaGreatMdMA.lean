/- lemmas -/
import Derived.Test.YtiochmbenflhhaaGreatAmF
import Derived.KernelRfl
import Derived.Test.YtiochmbenflhhaaGreatMdTA
import Derived.Test.YtiochmbenflhhaaGreatProg
set_option linter.all false
set_option linter.unusedSectionVars false
set_option linter.unusedVariables false
set_option linter.unusedSimpArgs false
noncomputable section
set_option maxRecDepth 100000
namespace Go.Proofs.ZzM
open Go Go.Am
def Sw:Nat→Bool
  |154=>true
  |227=>true
  |228=>true
  |229=>true
  |230=>true
  |231=>true
  |_=>false
def aeW:Nat→Bool
  |223=>true
  |_=>false
def A5:Nat→Bool
  |224=>true
  |_=>false
def isInl:Nat→Bool
  |2=>true
  |41=>true
  |47=>true
  |48=>true
  |67=>true
  |104=>true
  |112=>true
  |115=>true
  |117=>true
  |120=>true
  |121=>true
  |122=>true
  |123=>true
  |124=>true
  |125=>true
  |126=>true
  |127=>true
  |128=>true
  |129=>true
  |130=>true
  |142=>true
  |143=>true
  |149=>true
  |150=>true
  |151=>true
  |152=>true
  |153=>true
  |161=>true
  |163=>true
  |164=>true
  |165=>true
  |171=>true
  |178=>true
  |186=>true
  |187=>true
  |188=>true
  |189=>true
  |191=>true
  |192=>true
  |194=>true
  |195=>true
  |206=>true
  |209=>true
  |210=>true
  |211=>true
  |212=>true
  |213=>true
  |216=>true
  |219=>true
  |220=>true
  |221=>true
  |225=>true
  |226=>true
  |232=>true
  |234=>true
  |236=>true
  |247=>true
  |248=>true
  |251=>true
  |252=>true
  |263=>true
  |264=>true
  |265=>true
  |266=>true
  |267=>true
  |268=>true
  |270=>true
  |271=>true
  |277=>true
  |278=>true
  |280=>true
  |281=>true
  |283=>true
  |284=>true
  |287=>true
  |288=>true
  |290=>true
  |292=>true
  |293=>true
  |_=>false
def isFz:Nat→Bool
  |13=>true
  |46=>true
  |79=>true
  |100=>true
  |_=>false
def isEat:Nat→Nat→Bool
  |36,4=>true
  |36,5=>true
  |41,67=>true
  |91,15=>true
  |91,91=>true
  |161,30=>true
  |167,8=>true
  |167,11=>true
  |171,25=>true
  |248,0=>true
  |_,_=>false
def aq2:List Nat→Nat→Bool
  |p,117=>Nat.ble 10 p.length
  |_,_=>false
def Ù {ρ:Type} (pt:List (Nat×Ö)) (tab:List (Ø ρ)):Env ρ :=
  {P:=Tryz.prog,eat:=isEat,clone:=Sw,sort:=aeW,compact:=A5,inl:=isInl,fz:=isFz,stop:=aq2,pure:=akD pt,loops:=s9 tab}
def aqZ {ρ:Type} (pt:List (Nat×Ö)) (tab:List (Ø ρ)) (us:List aoR):Env ρ :=
  {P:=Tryz.prog,eat:=isEat,clone:=Sw,sort:=aeW,compact:=A5,inl:=isInl,fz:=isFz,stop:=aq2,pure:=akD pt,loops:=aeM (Ù pt tab) us}
abbrev bp:iQ:=.cells [.con tI,.con tI,.con ae,.con aa,.con af,.con ac,.con aa]
abbrev bq:iQ:=.cells [.con tI,.con tI,.con tI,.con tI,.con tI,.con tI,.con tI,.con tI]
abbrev br:iQ:=.cells [.con tI,.con tI,.con tI,.con tI]
abbrev bt:iQ:=.cells [.con ab]
abbrev bu:iQ:=.cells [.con tI]
abbrev bv:iQ:=.cells [.con tI,.con tI,.con ab,.con ab,.con tI,.con tI,.con tI,.con tI]
abbrev bw:iQ:=.cells [.con tI,.con tI]
abbrev bz:iQ:=.cells [.con tI,.con ah]
abbrev bB:iQ:=.cells [.own 6]
abbrev bC:iQ:=.cells [.con tI,.con tI,.nils,.nils,.nils,.nils,.nils]
abbrev bD:iQ:=.cells [.con tI,.con tI,.own 9,.own 10,.own 11,.con ac,.own 12]
abbrev bE:iQ:=.cells [.con tI,.con tI,.con ae,.con aa,.con af,.con ac,.con aa,.con aa,.con tI,.own 3,.own 4]
abbrev bG:iQ:=.cells [.con tI,.con tI,.con ae,.con aa,.con af,.con ac,.con aa,.con aa,.con tI,.own 2,.own 3]
abbrev bH:iQ:=.cells [.var tI,.var tI,.var ae,.var aa,.var af,.var ac,.var aa]
abbrev bI:iQ:=.cells [.var tI,.var tI]
abbrev bJ:iQ:=.cells [.con tI,.con tI,.con tI]
abbrev bK:iQ:=.cells [.con tI,.con tI,.nils,.nils,.nils,.nils,.nils,.con tI,.con tI,.con .bool,.con tI,.nils]
abbrev bL:iQ:=.cells [.con tI,.con tI,.own 11,.own 12,.own 13,.con ac,.own 14]
abbrev bM:iQ:=.cells [.con tI,.con tI,.con ae,.con aa,.con af,.con ac,.con aa,.con tI,.own 6]
abbrev bN:iQ:=.cells [.omp 3]
abbrev bO:iQ:=.cells [.con ae]
abbrev bP:iQ:=.cells [.fn 122 []]
abbrev bQ:iQ:=.cells [.con aa]
abbrev bR:iQ:=.cells [.fn 123 [(2,0)]]
abbrev bS:iQ:=.cells [.con af]
abbrev bT:iQ:=.cells [.fn 124 [(2,0)]]
abbrev bU:iQ:=.cells [.con ak]
abbrev bV:iQ:=.cells [.own 3]
abbrev bW:iQ:=.cells [.fn 117 [(1,0),(2,0),(4,0),(0,0),(5,0)]]
abbrev bX:iQ:=.cells [.var tI,.var tI,.var tI,.var tI]
abbrev bY:iQ:=.cells [.nils,.nils]
abbrev bZ:iQ:=.cells [.own 3,.own 4]
abbrev b7:iQ:=.cells [.var tI,.var tI,.nils,.nils,.nils,.nils,.nils,.var tI,.nils,.nils,.var tI]
abbrev b8:iQ:=.cells [.con tI,.con tI,.con ae,.con aa,.con af,.con ac,.con aa,.con tI,.con ah,.con am,.con tI]
abbrev b9:List iQ:=[bq,.rowv tI]
abbrev ca:List iQ:=[bp,br]
abbrev cd:List iQ:=[bp,bv,.rowc tI]
abbrev ce:List iQ:=[bz,.rowc tI,bz,bB,.rowv .bool,.rowc tI,.rowv tI]
abbrev cf:List iQ:=[bz,.rowv tI,bz,bB,.rowv .bool,.rowc tI,.rowv tI]
abbrev cg:List iQ:=[bz,.rowv tI,bz,bB,.rowv .bool,.rowv tI,.rowv tI]
abbrev ci:List iQ:=[bp,bw,bC,bp,bC,.dead,bD,bC,.rowv Ì,.rowc Ï,.rowc Â,.rowc Ŏ,.rowc Â]
abbrev cj:List iQ:=[bp,bG,.rowv ć,.rowv Â]
abbrev cm:List iQ:=[bp,bw,bw,.rowc Â,bH]
abbrev cn:List iQ:=[.rowv Â]
abbrev cp:List iQ:=[bp,bw,bw,bw,.rowc Â,bH]
abbrev cq:List iQ:=[.rowc ab,bz,.dead,.dead,.rowv tI]
abbrev cr:List iQ:=[bz,.rowc am,bJ,bz,.rowv tI]
abbrev cu:List iQ:=[bz,bu,bu,bz,.rowv tI]
abbrev cw:List iQ:=[bp,.dead,.dead,bK,.rowc Â,bH]
abbrev cz:List iQ:=[bp,.dead,.dead,bK,.rowc Â,bp,bz,.dead,.rowf Â 0,bp,bp]
abbrev cA:List iQ:=[bp,bv,bC,.dead,.dead,bp,bC,.dead,bL,bC,.rowv Ì,.rowc Ï,.rowc Â,.rowc Ŏ,.rowc Â]
abbrev cB:List iQ:=[bp,bw,bv,.rowc Â,bH]
abbrev cD:List iQ:=[bp,bw,bw,bv,.rowc Â,bH]
abbrev cE:List iQ:=[bp,bw,bw,bv,.rowc Â,bp,bz,.dead,bq,.rowf ab 0,.rowf ab 0,.rowf ab 0]
abbrev cF:List iQ:=[bp,bp,bN,.mapc tI .bool,bv,bv]
abbrev cG:List iQ:=[bp,bp,bN,.mapc tI .bool,bv]
abbrev cH:List iQ:=[bp,bp,bN,.mapc tI .bool]
abbrev cI:List iQ:=[bp,bp,bN,.mapc tI .bool,bO,bP]
abbrev cJ:List iQ:=[bp,bp,bN,.mapc tI .bool,bO,bP,bQ,bR]
abbrev cM:List iQ:=[bp,bp,bN,.mapc tI .bool,bO,bP,bQ,bR,bQ,bR]
abbrev cN:List iQ:=[bp,bp,bN,.mapc tI .bool,bO,bP,bQ,bR,bQ,bR,bS,bT]
abbrev cO:List iQ:=[bp,bp,bN,.mapc tI .bool,bO,bP,bQ,bR,bQ,bR,bS,bT,bS,bT]
abbrev cQ:List iQ:=[bU,bt,bt,.rowc .bool,bV,bW]
abbrev cR:List iQ:=[bU,bt,bt,.rowv .bool,bV,bW]
abbrev cW:List iQ:=[bp,bt,bw,.rowf ab 0,bH]
abbrev cX:List iQ:=[bp,.rowv tI]
abbrev cY:List iQ:=[bp,.rowc tI,.rowv Â]
abbrev cZ:List iQ:=[bp,bY,bZ,.rowv ć,.rowv Â]
abbrev dc:List iQ:=[bz,.deepv .i64]
def uD:Ö:=⟨[Â,tI,tI],[.bool],fun(x:Val è)=>ε x.1 x.2.1 x.2.2⟩
def aaB:List (Nat×Ö):=[]
def Vu (ρ:Type):List (Ø ρ):=[]
def MQ (ρ:Type):Env ρ:=Ù aaB (Vu ρ)
def lq:Ö:=⟨[tI,tI,tI],[.bool],fun(x:Val ć)=>Ġ x.1 x.2.1 x.2.2⟩
def aal:List (Nat×Ö):=[]
def Vf (ρ:Type):List (Ø ρ):=[]
def MP (ρ:Type):Env ρ:=Ù aal (Vf ρ)
def Gw:Ö:=⟨[tI],[.bool],fun(x:Val tI)=>oE x⟩
def aez:List (Nat×Ö):=[(144,lq)]
def aaz (ρ:Type):List (Ø ρ):=[]
def Sb (ρ:Type):Env ρ:=Ù aez (aaz ρ)
def X9:Ö:=⟨[tI],[(.int .u64)],fun(x:Val tI)=>tj x⟩
def ag4:List (Nat×Ö):=[]
def aec (ρ:Type):List (Ø ρ):=[]
def WW (ρ:Type):Env ρ:=Ù ag4 (aec ρ)
def ago:Ö:=⟨[(.int .u64),(.int .u64)],[(.int .u64)],fun(x:Val bj)=>SP x.1 x.2⟩
def aee:Æ:=⟨0,[],[(.int .u64),(.int .u64)],⟨12,[.var (.int .u64),.var (.int .u64)],[]⟩,[(.exit 0,⟨12,[.var (.int .u64)],[]⟩,[(.int .u64)])],false⟩
def MM (ρ:Type):Ø ρ:=⟨[],250,0,aee,fun(p:Unit) (v:Val bj) a b=>BO v.1 v.2 (fun c d=>a (c,d)) (b 0)⟩
def akm:List (Nat×Ö):=[]
def ag5 (ρ:Type):List (Ø ρ):=[MM ρ]
def RE (ρ:Type):Env ρ:=Ù akm (ag5 ρ)
def Gs:Ö:=⟨[Â],[.bool],fun(x:Val Â)=>vP x⟩
def aeh:List (Nat×Ö):=[(249,X9),(250,ago)]
def aaf (ρ:Type):List (Ø ρ):=[]
def RG (ρ:Type):Env ρ:=Ù aeh (aaf ρ)
def PH:Ö:=⟨[Ï],[.bool],fun(x:Val Ï)=>xD x⟩
def Vt:List (Nat×Ö):=[(109,uD),(144,lq),(176,Gw),(218,Gs)]
def RZ (ρ:Type):List (Ø ρ):=[]
def IC (ρ:Type):Env ρ:=Ù Vt (RZ ρ)
def zd:Ö:=⟨[Ä],[tI],fun(x:Val Ä)=>Ζ x⟩
def CU:Æ:=⟨0,[ae,tI,tI,tI,ae,aa,af,ac,aa],[tI],⟨31,.any::.box 0 0::aN 4 [.con ae,.con tI,.var tI],[bp]⟩,[(.ret,⟨31,[.any,.box 0 0,.var tI,.any,.any,.any,.con ae,.con tI],[bp]⟩,[tI]),(.exit 0,⟨31,.any::.box 0 0::aN 4 [.con ae,.con tI],[bp]⟩,[])],false⟩
def pj (ρ:Type):Ø ρ:=⟨[],110,0,CU,fun(p:Val (.pair ae aI)) (v:Val tI) b a=>jH p.1 p.2.1 p.2.2.2.2.1 v (fun c=>b c) (a 0) (a 1)⟩
def IH:List (Nat×Ö):=[(174,PH)]
def FM (ρ:Type):List (Ø ρ):=[pj ρ]
def nv (ρ:Type):Env ρ:=Ù IH (FM ρ)
def En:Ö:=⟨[Ä],[ax],fun(x:Val Ä)=>iu x⟩
def Oi:Æ:=⟨0,[ae,tI],[tI,ax],⟨20,aN 3 (.omp 0::aN 4 [.con ae,.con tI,.var tI]),[.mapv tI Ï]⟩,[(.exit 0,⟨20,aN 3 (.omp 0::aN 4 [.con ae,.con tI]),[.mapv tI Ï]⟩,[ax])],false⟩
def yp (ρ:Type):Ø ρ:=⟨[],111,0,Oi,fun(p:Val (.pair ae tI)) (v:Val (.pair tI ax)) a b=>nP p.1 p.2 v.1 v.2 (fun c d=>a (c,d)) (b 0)⟩
def Vh:List (Nat×Ö):=[]
def RP (ρ:Type):List (Ø ρ):=[yp ρ]
def wV (ρ:Type):Env ρ:=Ù Vh (RP ρ)
def ut:Ö:=⟨[ab,tI],[tI],fun(x:Val aK)=>kf x.1 x.2⟩
def yy:Æ:=⟨0,[ab,tI,tI],[tI],⟨19,.con ab::.con tI::aN 5 [.con tI,.var tI],[]⟩,[(.ret,⟨19,[.con ab,.con tI,.any,.any,.var tI,.any,.any,.con tI],[]⟩,[tI]),(.exit 0,⟨19,.con ab::.con tI::aN 5 [.con tI],[]⟩,[])],false⟩
def mM (ρ:Type):Ø ρ:=⟨[],116,0,yy,fun(p:Val (.pair ab Â)) (v:Val tI) b a=>iD p.1 p.2.1 p.2.2 v (fun c=>b c) (a 0) (a 1)⟩
def Cu:List (Nat×Ö):=[]
def zi (ρ:Type):List (Ø ρ):=[mM ρ]
def kW (ρ:Type):Env ρ:=Ù Cu (zi ρ)
def iC:Ö:=⟨[ab,tI],[.bool],fun(x:Val aK)=>ė x.1 x.2⟩
def wm:List (Nat×Ö):=[(116,ut)]
def uI (ρ:Type):List (Ø ρ):=[]
def mN (ρ:Type):Env ρ:=Ù wm (uI ρ)
def Yd:Ö:=⟨[Ä,Ï],[ab],fun(x:Val (.pair Ä Ï))=>pP x.1 x.2⟩
def aaF:Æ:=⟨0,[ac,tI,tI,tI,ae,aa,af,ac,aa,tI,tI,tI,tI,tI,tI,tI,tI],[tI,ab],⟨59,aN 2 (.box 0 0::.box 1 0::.any::.own 2::aN 8 [.con ac,.con tI,.var tI]),[bp,bq,.rowv tI]⟩,[(.exit 0,⟨59,aN 2 (.box 0 0::.box 1 0::.any::.own 2::aN 8 [.con ac,.con tI]),[bp,bq,.rowv tI]⟩,[ab])],false⟩
def IG (ρ:Type):Ø ρ:=⟨[],181,0,aaF,fun(p:Val (.pair ac aD)) (v:Val au) a b=>xd p.1 p.2.1 p.2.2.2.2.2.2.2.2.2.1 v.1 v.2 (fun c d=>a (c,d)) (b 0)⟩
def IF:Æ:=⟨0,[aa,tI,tI,tI,tI,tI,tI,tI,tI,tI],[tI,ab],⟨59,aN 3 (.box 0 0::.any::.own 1::aN 32 [.con aa,.con tI,.var tI]),b9⟩,[(.exit 2,⟨59,aN 3 (.box 0 0::.any::.own 1::aN 32 [.con aa,.con tI]),b9⟩,[ab])],false⟩
def IE (ρ:Type):Ø ρ:=⟨[],181,2,IF,fun(p:Val (tyL IF.cs)) (v:Val au) a b=>xc p.1 p.2.1 p.2.2.1 v.1 v.2 (fun c d=>a (c,d)) (b 0)⟩
def ahm:List (Nat×Ö):=[(49,iC)]
def aeB (ρ:Type):List (Ø ρ):=[IG ρ,IE ρ]
def BS (ρ:Type):Env ρ:=Ù ahm (aeB ρ)
def Gv:Ö:=⟨[Ä],[aa],fun(x:Val Ä)=>rG x⟩
def DW:Æ:=⟨0,[ae,tI,tI,ab,tI,tI,tI,ae,aa,af,ac,aa,tI,tI,tI,tI,tI,tI,tI,tI],[tI,aa],⟨33,.any::.box 0 0::.any::.own 1::.any::.box 2 0::aN 3 (.con ae::.con tI::.con tI::aN 5 [.con ab,.con tI,.var tI]),[bp,.rowv Â,bq]⟩,[(.exit 2,⟨33,.any::.box 0 0::.any::.own 1::.any::.box 2 0::aN 3 (.con ae::.con tI::.con tI::aN 5 [.con ab,.con tI]),[bp,.rowv Â,bq]⟩,[aa])],false⟩
def DU (ρ:Type):Ø ρ:=⟨[],113,2,DW,fun(p:Val (tyL DW.cs)) (v:Val aC) a b=>sW p.2.2.2.1 p.2.2.2.2.1 p.2.2.2.2.2.2.2.2.2.2.2.2.1 v.1 v.2 (fun c d=>a (c,d)) (b 0)⟩
def Vj:Æ:=⟨0,[ae,tI,tI,tI,ae,aa,af,ac,aa],[tI,aa],⟨33,.any::.box 0 0::.any::.own 1::aN 5 [.con ae,.con tI,.var tI],[bp,.rowv Â]⟩,[(.exit 0,⟨33,.any::.box 0 0::.any::.own 1::aN 5 [.con ae,.con tI],[bp,.rowv Â]⟩,[aa])],false⟩
def DX (ρ:Type):Ø ρ:=⟨[],113,0,Vj,fun(p:Val (.pair ae aI)) (v:Val aC) a b=>let A:=p.2.2.2.2;sX p.1 p.2.1 p.2.2.1 p.2.2.2.1 A.1 A.2.1 A.2.2.1 A.2.2.2.1 A.2.2.2.2 v.1 v.2 (fun c d=>a (c,d)) (b 0)⟩
def aes:List (Nat×Ö):=[(181,Yd)]
def aar (ρ:Type):List (Ø ρ):=[DU ρ,DX ρ]
def wY (ρ:Type):Env ρ:=Ù aes (aar ρ)
def nF:Ö:=⟨[ax,tI,tI],[tI],fun(x:Val (.pair ax Â))=>jx x.1 x.2.1 x.2.2⟩
def Le:List (Nat×Ö):=[]
def Ik (ρ:Type):List (Ø ρ):=[]
def yq (ρ:Type):Env ρ:=Ù Le (Ik ρ)
def agq:Ö:=⟨[tI,tI,(.ptr ax)],[tI],fun(x:Val (.pair tI (.pair tI (.ptr ax))))=>Ņ x.1 x.2.1 x.2.2⟩
def Vi:List (Nat×Ö):=[(176,Gw),(177,nF)]
def RS (ρ:Type):List (Ø ρ):=[]
def Im (ρ:Type):Env ρ:=Ù Vi (RS ρ)
def Ye:Ö:=⟨[Ä,ax,tI],[tI],fun(x:Val bo)=>ο x.1 x.2.1 x.2.2⟩
def s8:Æ:=⟨2,[af,tI,tI,tI,ae,aa,af,ac,aa,tI,tI,tI,tI],[tI],⟨19,.con af::.fn 219 [(1,0)]::aN 5 [.con tI,.var tI],ca⟩,[(.ret,⟨19,[.con af,.fn 219 [(1,0)],.any,.any,.var tI,.any,.any,.con tI],ca⟩,[tI]),(.exit 0,⟨19,.con af::.fn 219 [(1,0)]::aN 5 [.con tI],ca⟩,[])],false⟩
def s7 (ρ:Type):Ø ρ:=⟨[9,5,1,2],236,0,s8,fun(p:Val (tyL s8.cs)) (v:Val tI) b a=>let A:=p.2.2.2.2.2.2.2.2.2;kQ p.1 p.2.1 A.1 A.2.1 A.2.2.1 v (fun c=>b c) (a 0) (a 1)⟩
def sZ:Æ:=⟨2,[aa,tI,tI,tI,ae,aa,af,ac,aa,tI,tI,tI,tI],[tI],⟨19,.con aa::.fn 220 [(1,0)]::aN 5 [.con tI,.var tI],ca⟩,[(.ret,⟨19,[.con aa,.fn 220 [(1,0)],.any,.any,.var tI,.any,.any,.con tI],ca⟩,[tI]),(.exit 0,⟨19,.con aa::.fn 220 [(1,0)]::aN 5 [.con tI],ca⟩,[])],false⟩
def sY (ρ:Type):Ø ρ:=⟨[9,10,1,2],234,0,sZ,fun(p:Val (tyL sZ.cs)) (v:Val tI) b a=>let A:=p.2.2.2.2.2.2.2.2.2;δ p.1 p.2.1 A.1 A.2.1 A.2.2.1 v (fun c=>b c) (a 0) (a 1)⟩
def Oq:List (Nat×Ö):=[(109,uD),(144,lq),(177,nF)]
def Ln (ρ:Type):List (Ø ρ):=[s7 ρ,sY ρ]
def mg (ρ:Type):Env ρ:=Ù Oq (Ln ρ)
def Ŧ:Ö:=⟨[am],[ab],fun(x:Val am)=>ï x⟩
def lV:Æ:=⟨0,[am,am,tI],[tI,tI],⟨36,.con am::aN 2 (.var tI::aN 5 [.con am,.con tI,.var tI]),[]⟩,[(.exit 0,⟨36,.con am::aN 2 (.var tI::aN 5 [.con am,.con tI]),[]⟩,[tI])],false⟩
def lU (ρ:Type):Ø ρ:=⟨[],100,0,lV,fun(p:Val (tyL lV.cs)) (v:Val Â) a b=>ļ p.2.1 p.2.2 v.1 v.2 (fun c d=>a (c,d)) (b 0)⟩
def wn:Æ:=⟨0,[am,tI],[tI,ab],⟨36,aN 6 (.own 0::aN 18 [.con am,.con tI,.var tI]),[.rowv tI]⟩,[(.exit 2,⟨36,aN 6 (.own 0::aN 18 [.con am,.con tI]),[.rowv tI]⟩,[ab])],false⟩
def lT (ρ:Type):Ø ρ:=⟨[],100,2,wn,fun(p:Val (.pair am tI)) (v:Val au) a b=>ñ p.1 p.2 v.1 v.2 (fun c d=>a (c,d)) (b 0)⟩
def zk:List (Nat×Ö):=[]
def yz (ρ:Type):List (Ø ρ):=[lU ρ,lT ρ]
def iE (ρ:Type):Env ρ:=Ù zk (yz ρ)
def J2:Ö:=⟨[ab],[.bool],fun(x:Val ab)=>nA x⟩
def RY:Æ:=⟨0,[ab,ab,tI],[tI],⟨32,.con ab::aN 4 [.con ab,.con tI,.var tI],[]⟩,[(.ret,⟨32,[.con ab,.any,.var .bool,.any,.any,.con ab,.con tI],[]⟩,[.bool]),(.exit 0,⟨32,.con ab::aN 4 [.con ab,.con tI],[]⟩,[])],false⟩
def AX (ρ:Type):Ø ρ:=⟨[],182,0,RY,fun(p:Val (.pair ab aK)) (v:Val tI) b a=>pI p.1 p.2.1 p.2.2 v (fun c=>b c) (a 0) (a 1)⟩
def aay:List (Nat×Ö):=[(144,lq)]
def Vr (ρ:Type):List (Ø ρ):=[AX ρ]
def AY (ρ:Type):Env ρ:=Ù aay (Vr ρ)
def BG:Ö:=⟨[ab,ab],[ab],fun(x:Val aE)=>Ÿ x.1 x.2⟩
def aaw:Æ:=⟨2,[tI,ab,ab],[tI],⟨19,.own 1::.fn 226 [(0,0)]::aN 5 [.con tI,.var tI],[bt,.rowc tI]⟩,[(.ret,⟨19,[.own 1,.fn 226 [(0,0)],.any,.any,.var tI,.any,.any,.con tI],[bt,.rowc tI]⟩,[tI]),(.exit 0,⟨19,.own 1::.fn 226 [(0,0)]::aN 5 [.con tI],[bt,.rowc tI]⟩,[])],false⟩
def IB (ρ:Type):Ø ρ:=⟨[1,3,1,2],115,0,aaw,fun(p:Val bg) (v:Val tI) b a=>xb p.1 p.2.1 p.2.2 v (fun c=>b c) (a 0) (a 1)⟩
def aav:Æ:=⟨2,[ab],[tI,tI,ab],⟨42,[.own 1,.fn 226 [(0,0)],.any,.any,.any,.var tI,.var tI],[bt,.rowv tI]⟩,[(.exit 0,⟨42,[.own 1,.fn 226 [(0,0)],.any,.any,.any,.var tI],[bt,.rowv tI]⟩,[tI,ab])],false⟩
def IA (ρ:Type):Ø ρ:=⟨[1,3],225,0,aav,fun(p:Val ab) (v:Val (.pair tI au)) a b=>lg p v.1 v.2.1 v.2.2 (fun c d e=>a (c,d,e)) (b 0)⟩
def ahl:List (Nat×Ö):=[(49,iC)]
def aex (ρ:Type):List (Ø ρ):=[IB ρ,IA ρ]
def BQ (ρ:Type):Env ρ:=Ù ahl (aex ρ)
def aiP:Ö:=⟨[Ä,tI,tI],[Ŏ,.bool],fun(x:Val aJ)=>Cf x.1 x.2.1 x.2.2⟩
def IJ:Æ:=⟨4,[af,tI,tI,tI,ae,aa,af,ac,aa,tI,tI,tI,tI,tI,tI],[tI],⟨19,.con af::.fn 251 [(1,0),(2,0)]::aN 5 [.con tI,.var tI],[bp,bu,bu,br]⟩,[(.ret,⟨19,[.con af,.fn 251 [(1,0),(2,0)],.any,.any,.var tI,.any,.any,.con tI],[bp,bu,bu,br]⟩,[tI]),(.exit 0,⟨19,.con af::.fn 251 [(1,0),(2,0)]::aN 5 [.con tI],[bp,bu,bu,br]⟩,[])],false⟩
def II (ρ:Type):Ø ρ:=⟨[1,3],236,0,IJ,fun(p:Val (tyL IJ.cs)) (v:Val tI) b a=>xf p.1 p.2.1 p.2.2.2.2.2.2.2.2.2.1 p.2.2.2.2.2.2.2.2.2.2.1 v (fun c=>b c) (a 0) (a 1)⟩
def ahn:List (Nat×Ö):=[(144,lq)]
def aeD (ρ:Type):List (Ø ρ):=[II ρ]
def Lq (ρ:Type):Env ρ:=Ù ahn (aeD ρ)
def Nk:Ö:=⟨[Ä,ax,tI],[tI],fun(x:Val bo)=>ŋ x.1 x.2.1 x.2.2⟩
def ow:Æ:=⟨2,[ac,tI,tI,tI,ae,aa,af,ac,aa,tI,tI,ab,ab,tI,tI,tI,tI],[tI],⟨19,.con ac::.fn 221 [(1,0)]::aN 5 [.con tI,.var tI],[bp,bv]⟩,[(.ret,⟨19,[.con ac,.fn 221 [(1,0)],.any,.any,.var tI,.any,.any,.con tI],[bp,bv]⟩,[tI]),(.exit 0,⟨19,.con ac::.fn 221 [(1,0)]::aN 5 [.con tI],[bp,bv]⟩,[])],false⟩
def ov (ρ:Type):Ø ρ:=⟨[4,5,1,2],187,0,ow,fun(p:Val (tyL ow.cs)) (v:Val tI) b a=>jc p.1 p.2.1 p.2.2.2.2.2.2.2.2.2.1 v (fun c=>b c) (a 0) (a 1)⟩
def oq:Æ:=⟨0,[ax,ab,tI,tI,tI,ab,tI,tI,tI,ae,aa,af,ac,aa,tI,tI,ab,ab,tI,tI,tI,tI,ab],[tI],⟨140,.any::.con ax::.any::.box 0 0::aN 3 (.box 1 0::.con ab::.any::.con tI::aN 65 [.own 2,.con tI,.con tI,.any,.any,.any,.con ab,.con tI,.var tI]),cd⟩,[(.ret,⟨140,.any::.con ax::.any::.box 0 0::aN 2 (.var tI::.box 1 0::.con ab::.any::.con tI::aN 65 [.own 2,.con tI,.con tI,.any,.any,.any,.con ab,.con tI]),cd⟩,[tI]),(.exit 2,⟨140,.any::.con ax::.any::.box 0 0::aN 3 (.box 1 0::.con ab::.any::.con tI::aN 65 [.own 2,.con tI,.con tI,.any,.any,.any,.con ab,.con tI]),cd⟩,[])],false⟩
def oo (ρ:Type):Ø ρ:=⟨[],180,2,oq,fun(p:Val (tyL oq.cs)) (v:Val tI) b a=>let A:=p.2.2.2.2.2;jb p.1 p.2.2.1 A.1 A.2.1 A.2.2.2.2.2.2.2.2.2.2.1 v (fun c=>b c) (a 0) (a 1)⟩
def ou:Æ:=⟨0,[ax,ab,tI,tI,tI,ae,aa,af,ac,aa,tI,tI,ab,ab,tI,tI,tI,tI,ab],[tI],⟨140,.any::.con ax::.any::.box 0 0::aN 3 (.box 1 0::.con ab::aN 67 [.own 2,.con tI,.var tI]),cd⟩,[(.ret,⟨140,.any::.con ax::.any::.box 0 0::aN 2 (.var tI::.box 1 0::.con ab::aN 67 [.own 2,.con tI]),cd⟩,[tI]),(.exit 0,⟨140,.any::.con ax::.any::.box 0 0::aN 3 (.box 1 0::.con ab::aN 67 [.own 2,.con tI]),cd⟩,[])],false⟩
def ot (ρ:Type):Ø ρ:=⟨[],180,0,ou,fun(p:Val (tyL ou.cs)) (v:Val tI) b a=>œ p.1 p.2.1 p.2.2.1 p.2.2.2.2.2.2.2.2.2.2.2.1 p.2.2.2.2.2.2.2.2.2.2.2.2.2.2.2.2.2.2 v (fun c=>b c) (a 0) (a 1)⟩
def om:Æ:=⟨0,[ab,tI,tI,tI,ae,aa,af,ac,aa,tI,tI,ab,ab,tI,tI,tI,tI],[tI],⟨140,aN 3 (.box 0 0::aN 3 (.box 1 0::aN 90 [.con ab,.con tI,.var tI])),[bp,bv]⟩,[(.ret,⟨140,aN 3 (.box 0 0::aN 2 (.var tI::.box 1 0::aN 90 [.con ab,.con tI])),[bp,bv]⟩,[tI]),(.exit 4,⟨140,aN 3 (.box 0 0::aN 3 (.box 1 0::aN 90 [.con ab,.con tI])),[bp,bv]⟩,[])],false⟩
def oj (ρ:Type):Ø ρ:=⟨[],180,4,om,fun(p:Val (tyL om.cs)) (v:Val tI) b a=>let A:=p.2.2.2.2;Œ p.1 p.2.1 p.2.2.1 p.2.2.2.1 A.1 A.2.1 A.2.2.1 A.2.2.2.1 A.2.2.2.2.1 A.2.2.2.2.2.2.1 v (fun c=>b c) (a 0) (a 1)⟩
def FO:List (Nat×Ö):=[(100,Ŧ),(109,uD),(144,lq),(176,Gw),(177,nF),(182,J2),(183,BG),(222,aiP)]
def CV (ρ:Type):List (Ø ρ):=[ov ρ,oo ρ,ot ρ,oj ρ]
def ū (ρ:Type):Env ρ:=Ù FO (CV ρ)
def ś:Ö:=⟨[Ä],[tI],fun(x:Val Ä)=>ù x⟩
def qx:Ö:=⟨[Ä,aa,aa],[Ä],fun(x:Val (.pair Ä (.pair aa aa)))=>SO x.1 x.2.1 x.2.2⟩
noncomputable def adV:Æ:=⟨8,[ab,tI,tI,tI,ae,aa,af,ac,aa,tI,tI,aq,tI,tI],[tI,aq],⟨34,.any::.any::.any::.box 2 0::aN 21 [.con ab,.con tI,.var tI],[.cells [.con tI,.con tI,.con ae,.con aa,.con af,.con ac,.con aa],.cells [.con tI,.con tI,.nils,.nils,.nils,.nils,.nils],.cells [.omp 5],.cells [.omp 6],.cells [.nilfn,.fn 151 [(2,0),(0,0)],.fn 151 [(2,0),(0,0)],.fn 152 [(3,0),(0,0),(2,0)]],.mapv tI .bool,.mapc tI .bool,.cells [.con tI,.con tI]]⟩,[(.exit 0,⟨34,.any::.any::.any::.box 2 0::aN 21 [.con ab,.con tI],[.cells [.con tI,.con tI,.con ae,.con aa,.con af,.con ac,.con aa],.cells [.con tI,.con tI,.nils,.nils,.nils,.nils,.nils],.cells [.omp 5],.cells [.omp 6],.cells [.nilfn,.fn 151 [(2,0),(0,0)],.fn 151 [(2,0),(0,0)],.fn 152 [(3,0),(0,0),(2,0)]],.mapv tI .bool,.mapc tI .bool,.cells [.con tI,.con tI]]⟩,[aq])],false⟩
noncomputable def MD (ρ:Type):Ø ρ:=⟨[7,5],152,0,adV,fun(p:Val (.pair ab (.pair tI (.pair tI (.pair tI (.pair ae (.pair aa (.pair af (.pair ac (.pair aa (.pair tI (.pair tI (.pair aq Â))))))))))))) (v:Val (.pair tI aq)) kn kx=>vg p.1 p.2.1 v.1 v.2 (fun u0 u1=>kn (u0,u1)) (kx 0)⟩
noncomputable def adW:Æ:=⟨0,[aa,aa,tI,tI,tI,ae,aa,af,ac,aa,tI,tI],[tI,aq,aq],⟨130,.any::.any::.con aa::.box 0 0::.any::.any::.box 1 0::.box 2 0::.box 3 0::.any::.box 4 0::aN 19 [.con aa,.con tI,.var tI],[.cells [.con tI,.con tI,.con ae,.con aa,.con af,.con ac,.con aa],.cells [.con tI,.con tI,.nils,.nils,.nils,.nils,.nils],.cells [.omp 5],.cells [.omp 6],.cells [.nilfn,.fn 151 [(2,0),(0,0)],.fn 151 [(2,0),(0,0)],.fn 152 [(3,0),(0,0),(2,0)]],.mapv tI .bool,.mapv tI .bool]⟩,[(.exit 0,⟨130,.any::.any::.con aa::.box 0 0::.any::.any::.box 1 0::.box 2 0::.box 3 0::.any::.box 4 0::aN 19 [.con aa,.con tI],[.cells [.con tI,.con tI,.con ae,.con aa,.con af,.con ac,.con aa],.cells [.con tI,.con tI,.nils,.nils,.nils,.nils,.nils],.cells [.omp 5],.cells [.omp 6],.cells [.nilfn,.fn 151 [(2,0),(0,0)],.fn 151 [(2,0),(0,0)],.fn 152 [(3,0),(0,0),(2,0)]],.mapv tI .bool,.mapv tI .bool]⟩,[aq,aq])],false⟩
noncomputable def ME (ρ:Type):Ø ρ:=⟨[],79,0,adW,fun(p:Val (.pair aa (.pair aa (.pair tI (.pair tI (.pair tI (.pair ae (.pair aa (.pair af (.pair ac bc)))))))))) (v:Val (.pair tI (.pair aq aq))) kn kx=>BL p.2.1 p.2.2.1 p.2.2.2.2.2.1 p.2.2.2.2.2.2.2.2.1 v.1 v.2.1 v.2.2 (fun u0 u1 u2=>kn (u0,u1,u2)) (kx 0)⟩
noncomputable def adU:Æ:=⟨0,[aa,aa,tI,tI,tI,ae,aa,af,ac,aa,tI,tI,aq],[tI,aq],⟨130,.any::.any::.con aa::.box 0 0::.any::.any::.box 1 0::.box 2 0::.box 3 0::aN 34 [.con aa,.con tI,.var tI],[.cells [.con tI,.con tI,.con ae,.con aa,.con af,.con ac,.con aa],.cells [.con tI,.con tI,.nils,.nils,.nils,.nils,.nils],.cells [.omp 4],.cells [.omp 5],.mapv tI .bool,.mapc tI .bool]⟩,[(.exit 2,⟨130,.any::.any::.con aa::.box 0 0::.any::.any::.box 1 0::.box 2 0::.box 3 0::aN 34 [.con aa,.con tI],[.cells [.con tI,.con tI,.con ae,.con aa,.con af,.con ac,.con aa],.cells [.con tI,.con tI,.nils,.nils,.nils,.nils,.nils],.cells [.omp 4],.cells [.omp 5],.mapv tI .bool,.mapc tI .bool]⟩,[aq])],false⟩
noncomputable def MC (ρ:Type):Ø ρ:=⟨[],79,2,adU,fun(p:Val (.pair aa (.pair aa (.pair tI (.pair tI (.pair tI (.pair ae (.pair aa (.pair af (.pair ac (.pair aa (.pair tI (.pair tI aq))))))))))))) (v:Val (.pair tI aq)) kn kx=>vf p.2.1 p.2.2.1 v.1 v.2 (fun u0 u1=>kn (u0,u1)) (kx 0)⟩
noncomputable def adT:Æ:=⟨0,[aa,tI,tI,tI,ae,aa,af,ac,aa,tI,tI,ae,aa,af,ac,aa,tI,tI,aa,aq,aq,ae],[tI,aa],⟨130,.any::.any::.any::.box 0 0::.any::.any::.box 1 0::.box 2 0::.box 3 0::aN 6 (.box 4 0::aN 52 [.con aa,.con tI,.var tI]),[.cells [.con tI,.con tI,.con ae,.con aa,.con af,.con ac,.con aa],.cells [.con tI,.con tI,.con ae,.con aa,.con af,.con ac,.con aa],.cells [.omp 5],.cells [.omp 6],.cells [.con tI,.con tI,.own 7,.own 8,.nils,.nils,.con aa],.mapc tI .bool,.mapc tI .bool,.rowc Ï,.rowv Â]⟩,[(.exit 6,⟨130,.any::.any::.any::.box 0 0::.any::.any::.box 1 0::.box 2 0::.box 3 0::aN 6 (.box 4 0::aN 52 [.con aa,.con tI]),[.cells [.con tI,.con tI,.con ae,.con aa,.con af,.con ac,.con aa],.cells [.con tI,.con tI,.con ae,.con aa,.con af,.con ac,.con aa],.cells [.omp 5],.cells [.omp 6],.cells [.con tI,.con tI,.own 7,.own 8,.nils,.nils,.con aa],.mapc tI .bool,.mapc tI .bool,.rowc Ï,.rowv Â]⟩,[aa])],false⟩
noncomputable def sP (ρ:Type):Ø ρ:=⟨[],79,6,adT,fun(p:Val (.pair aa (.pair tI (.pair tI (.pair tI (.pair ae (.pair aa (.pair af (.pair ac (.pair aa (.pair tI (.pair tI (.pair ae (.pair aa (.pair af (.pair ac (.pair aa (.pair tI (.pair tI (.pair aa (.pair aq (.pair aq ae)))))))))))))))))))))) (v:Val aC) kn kx=>ve p.1 p.2.1 p.2.2.2.2.2.2.2.2.2.2.2.2.2.2.2.2.2.2.2.1 v.1 v.2 (fun u0 u1=>kn (u0,u1)) (kx 0)⟩
noncomputable def adS:Æ:=⟨0,[af,tI,tI,tI,ae,aa,af,ac,aa,tI,tI,ae,aa,af,ac,aa,tI,tI,aa,aq,aq,ae,aa],[tI,af],⟨130,.any::.any::.any::.box 0 0::.any::.any::.box 1 0::.box 2 0::.box 3 0::aN 6 (.box 4 0::aN 70 [.con af,.con tI,.var tI]),[.cells [.con tI,.con tI,.con ae,.con aa,.con af,.con ac,.con aa],.cells [.con tI,.con tI,.con ae,.con aa,.con af,.con ac,.con aa],.cells [.omp 5],.cells [.omp 6],.cells [.con tI,.con tI,.own 7,.own 8,.own 9,.nils,.con aa],.mapc tI .bool,.mapc tI .bool,.rowc Ï,.rowc Â,.rowv Ŏ]⟩,[(.exit 8,⟨130,.any::.any::.any::.box 0 0::.any::.any::.box 1 0::.box 2 0::.box 3 0::aN 6 (.box 4 0::aN 70 [.con af,.con tI]),[.cells [.con tI,.con tI,.con ae,.con aa,.con af,.con ac,.con aa],.cells [.con tI,.con tI,.con ae,.con aa,.con af,.con ac,.con aa],.cells [.omp 5],.cells [.omp 6],.cells [.con tI,.con tI,.own 7,.own 8,.own 9,.nils,.con aa],.mapc tI .bool,.mapc tI .bool,.rowc Ï,.rowc Â,.rowv Ŏ]⟩,[af])],false⟩
noncomputable def sO (ρ:Type):Ø ρ:=⟨[],79,8,adS,fun(p:Val (.pair af (.pair tI (.pair tI (.pair tI (.pair ae (.pair aa (.pair af (.pair ac (.pair aa (.pair tI (.pair tI (.pair ae (.pair aa (.pair af (.pair ac (.pair aa (.pair tI (.pair tI (.pair aa (.pair aq (.pair aq (.pair ae aa))))))))))))))))))))))) (v:Val (.pair tI af)) kn kx=>vd p.1 p.2.1 p.2.2.2.2.2.2.2.2.2.2.2.2.2.2.2.2.2.2.2.1 v.1 v.2 (fun u0 u1=>kn (u0,u1)) (kx 0)⟩
noncomputable def adR:Æ:=⟨0,[ac,tI,tI,tI,ae,aa,af,ac,aa,tI,tI,aa,aq,ae,aa,af],[tI,ac],⟨130,aN 6 (.box 0 0::.any::.box 1 0::aN 6 (.box 2 0::aN 88 [.con ac,.con tI,.var tI])),[.cells [.con tI,.con tI,.con ae,.con aa,.con af,.con ac,.con aa],.cells [.omp 3],.cells [.con tI,.con tI,.own 4,.own 5,.own 6,.own 7,.con aa],.mapc tI .bool,.rowc Ï,.rowc Â,.rowc Ŏ,.rowv Ì]⟩,[(.exit 10,⟨130,aN 6 (.box 0 0::.any::.box 1 0::aN 6 (.box 2 0::aN 88 [.con ac,.con tI])),[.cells [.con tI,.con tI,.con ae,.con aa,.con af,.con ac,.con aa],.cells [.omp 3],.cells [.con tI,.con tI,.own 4,.own 5,.own 6,.own 7,.con aa],.mapc tI .bool,.rowc Ï,.rowc Â,.rowc Ŏ,.rowv Ì]⟩,[ac])],false⟩
noncomputable def sN (ρ:Type):Ø ρ:=⟨[],79,10,adR,fun(p:Val (.pair ac (.pair tI (.pair tI (.pair tI (.pair ae (.pair aa (.pair af (.pair ac (.pair aa (.pair tI (.pair tI (.pair aa (.pair aq (.pair ae (.pair aa af)))))))))))))))) (v:Val (.pair tI ac)) kn kx=>vc p.1 p.2.1 p.2.2.2.2.2.2.2.2.2.2.2.2.1 v.1 v.2 (fun u0 u1=>kn (u0,u1)) (kx 0)⟩
noncomputable def KL:List (Nat×Ö):=[(100,Ŧ)]
noncomputable def Ft (ρ:Type):List (Ø ρ):=[MD ρ,ME ρ,MC ρ,sP ρ,sO ρ,sN ρ]
noncomputable def Δ (ρ:Type):Env ρ:=Ù KL (Ft ρ)
noncomputable def uZ:Tpl:=⟨130,.any::.any::.any::.box 0 0::.any::.any::.box 1 0::.box 2 0::.box 3 0::aN 6 (.box 4 0::aN 43 [.fn 212 [(5,0),(6,0)]]),[.cells [.var tI,.var tI,.var ae,.var aa,.var af,.var ac,.var aa],.cells [.var tI,.var tI,.var ae,.var aa,.var af,.var ac,.var aa],.cells [.omp 7],.cells [.omp 8],.cells [.con tI,.con tI,.own 9,.nils,.nils,.nils,.con aa],.cells [.var tI,.var tI,.var ae,.var aa,.var af,.var ac,.var aa],.cells [.omp 7],.mapv tI .bool,.mapv tI .bool,.rowv Ï]⟩
noncomputable def Q2:Tpl:=⟨130,.any::.any::.any::.box 0 0::.any::.any::.box 1 0::.box 2 0::.box 3 0::aN 6 (.box 4 0::.box 10 0::aN 42 [.fn 212 [(5,0),(6,0)]]),[.cells [.var tI,.var tI,.var ae,.var aa,.var af,.var ac,.var aa],.cells [.var tI,.var tI,.var ae,.var aa,.var af,.var ac,.var aa],.cells [.omp 7],.cells [.omp 8],.cells [.con tI,.con tI,.own 9,.nils,.nils,.nils,.con aa],.cells [.var tI,.var tI,.var ae,.var aa,.var af,.var ac,.var aa],.cells [.omp 7],.mapv tI .bool,.mapv tI .bool,.rowv Ï,.cells [.var tI,.var tI,.var tI,.var tI,.var tI,.var tI,.var tI,.var tI]]⟩
noncomputable def sL (ρ:Type):List (Ø ρ):=[sP ρ,sO ρ,sN ρ]
noncomputable def ğ (ρ:Type):Env ρ:={Ù KL (sL ρ) with inl:=fun _=>false}
noncomputable def rc:Tpl:=⟨130,aN 6 [.box 0 0],[.cells [.var tI,.var tI,.var ae,.var aa,.var af,.var ac,.var aa]]⟩
abbrev j8:List Ty:=[tI,tI,ae,aa,af,ac,aa]
noncomputable def lv (y:Val Ä):Val ai:=(y.1.1,y.1.2,y.2.1,y.2.2.1,y.2.2.2.1,y.2.2.2.2.1,y.2.2.2.2.2)
noncomputable def ģ:Code:=(pm Tryz.prog 79).getD .skip
abbrev jw:List Ty:=[tI,tI,aa]
abbrev nu:List Ty:=[tI,tI,ae,aa,af,ac,aa,tI,tI,ae,aa,af,ac,aa,tI,tI,ae,aa,af,ac,aa,aq,aq,ae]
abbrev BK:List Ty:=[tI,tI,ae,aa,af,ac,aa,tI,tI,ae,aa,af,ac,aa,tI,tI,ae,aa,af,ac,aa,aq,aq,ae,tI,tI,tI,tI,tI,tI,tI,tI]
abbrev ò (v:Val aj):List (Val Ï):=v.2.2.2.2.2.2.2.2.2.2.2.2.2.2.2.2.1
abbrev Ū (v:Val aj):List (Int×Bool):=v.2.2.2.2.2.2.2.2.2.2.2.2.2.2.2.2.2.2.2.2.2.1
abbrev wI (v:Val aj):List (Val Ï):=v.2.2.2.2.2.2.2.2.2.2.2.2.2.2.2.2.2.2.2.2.2.2.2
noncomputable def Ģ (v:Val aj) (z:List (Val Ï)):Val aj:=(v.1,v.2.1,v.2.2.1,v.2.2.2.1,v.2.2.2.2.1,v.2.2.2.2.2.1,v.2.2.2.2.2.2.1,v.2.2.2.2.2.2.2.1,v.2.2.2.2.2.2.2.2.1,v.2.2.2.2.2.2.2.2.2.1,v.2.2.2.2.2.2.2.2.2.2.1,v.2.2.2.2.2.2.2.2.2.2.2.1,v.2.2.2.2.2.2.2.2.2.2.2.2.1,v.2.2.2.2.2.2.2.2.2.2.2.2.2.1,v.2.2.2.2.2.2.2.2.2.2.2.2.2.2.1,v.2.2.2.2.2.2.2.2.2.2.2.2.2.2.2.1,v.2.2.2.2.2.2.2.2.2.2.2.2.2.2.2.2.1,v.2.2.2.2.2.2.2.2.2.2.2.2.2.2.2.2.2.1,v.2.2.2.2.2.2.2.2.2.2.2.2.2.2.2.2.2.2.1,v.2.2.2.2.2.2.2.2.2.2.2.2.2.2.2.2.2.2.2.1,v.2.2.2.2.2.2.2.2.2.2.2.2.2.2.2.2.2.2.2.2.1,v.2.2.2.2.2.2.2.2.2.2.2.2.2.2.2.2.2.2.2.2.2.1,v.2.2.2.2.2.2.2.2.2.2.2.2.2.2.2.2.2.2.2.2.2.2.1,z)
noncomputable def Fu (v:Val aj) (x:Val Ï):Val (.pair tI (.pair tI (.pair ae (.pair aa (.pair af (.pair ac (.pair aa (.pair tI (.pair tI (.pair ae (.pair aa (.pair af (.pair ac (.pair aa (.pair tI (.pair tI (.pair ae (.pair aa (.pair af (.pair ac (.pair aa (.pair aq (.pair aq (.pair ae aw)))))))))))))))))))))))):=(v.1,v.2.1,v.2.2.1,v.2.2.2.1,v.2.2.2.2.1,v.2.2.2.2.2.1,v.2.2.2.2.2.2.1,v.2.2.2.2.2.2.2.1,v.2.2.2.2.2.2.2.2.1,v.2.2.2.2.2.2.2.2.2.1,v.2.2.2.2.2.2.2.2.2.2.1,v.2.2.2.2.2.2.2.2.2.2.2.1,v.2.2.2.2.2.2.2.2.2.2.2.2.1,v.2.2.2.2.2.2.2.2.2.2.2.2.2.1,v.2.2.2.2.2.2.2.2.2.2.2.2.2.2.1,v.2.2.2.2.2.2.2.2.2.2.2.2.2.2.2.1,v.2.2.2.2.2.2.2.2.2.2.2.2.2.2.2.2.1,v.2.2.2.2.2.2.2.2.2.2.2.2.2.2.2.2.2.1,v.2.2.2.2.2.2.2.2.2.2.2.2.2.2.2.2.2.2.1,v.2.2.2.2.2.2.2.2.2.2.2.2.2.2.2.2.2.2.2.1,v.2.2.2.2.2.2.2.2.2.2.2.2.2.2.2.2.2.2.2.2.1,v.2.2.2.2.2.2.2.2.2.2.2.2.2.2.2.2.2.2.2.2.2.1,v.2.2.2.2.2.2.2.2.2.2.2.2.2.2.2.2.2.2.2.2.2.2.1,v.2.2.2.2.2.2.2.2.2.2.2.2.2.2.2.2.2.2.2.2.2.2.2,x.1,x.2.1,x.2.2.1,x.2.2.2.1.1,x.2.2.2.1.2,x.2.2.2.2.1.1,x.2.2.2.2.1.2,x.2.2.2.2.2)
def Wf:Ö:=⟨[Ì],[.bool],fun(x:Val Ì)=>B0 x⟩
def Yw:List (Nat×Ö):=[]
def TT (ρ:Type):List (Ø ρ):=[]
def Mq (ρ:Type):Env ρ:=Ù Yw (TT ρ)
def aiG:Ö:=⟨[Ä],[.bool],fun(x:Val Ä)=>O0 x⟩
def Yu:Æ:=⟨0,[tI,tI,ae,aa,af,ac,aa],[tI],⟨50,[.any,.box 0 0,.any,.var tI],[bp]⟩,[(.ret,⟨50,[.any,.box 0 0,.var .bool],[bp]⟩,[.bool]),(.exit 0,⟨50,[.any,.box 0 0],[bp]⟩,[])],false⟩
def GG (ρ:Type):Ø ρ:=⟨[],7,0,Yu,fun(p:Val ai) (v:Val tI) b a=>wi p.2.2.2.2.2.1 v (fun c=>b c) (a 0) (a 1)⟩
def agz:List (Nat×Ö):=[(33,Wf)]
def ac2 (ρ:Type):List (Ø ρ):=[GG ρ]
def J9 (ρ:Type):Env ρ:=Ù agz (ac2 ρ)
def ž:Ö:=⟨[aa,Â],[tI],fun(x:Val bc)=>ý x.1 x.2⟩
def mE:Æ:=⟨0,[aa,tI,tI,tI],[tI],⟨19,[.con aa,.any,.any,.box 0 0,.any,.any,.any,.con tI,.var tI],[bw]⟩,[(.ret,⟨19,[.con aa,.any,.any,.box 0 0,.var tI,.any,.any,.con tI],[bw]⟩,[tI]),(.exit 0,⟨19,[.con aa,.any,.any,.box 0 0,.any,.any,.any,.con tI],[bw]⟩,[])],false⟩
def iz (ρ:Type):Ø ρ:=⟨[],119,0,mE,fun(p:Val (.pair aa ć)) (v:Val tI) b a=>ī p.1 p.2.1 p.2.2.1 p.2.2.2 v (fun c=>b c) (a 0) (a 1)⟩
def nY:List (Nat×Ö):=[]
def nf (ρ:Type):List (Ø ρ):=[iz ρ]
def ů (ρ:Type):Env ρ:=Ù nY (nf ρ)
def jK:Ö:=⟨[Ä,Â],[tI,tI],fun(x:Val aJ)=>š x.1 x.2⟩
def aeL:List (Nat×Ö):=[(43,ś),(113,Gv),(119,ž)]
def aaM (ρ:Type):List (Ø ρ):=[]
def Si (ρ:Type):Env ρ:=Ù aeL (aaM ρ)
def jJ:Ö:=⟨[ak,Â],[tI],fun(x:Val aV)=>ų x.1 x.2⟩
def UG:List (Nat×Ö):=[(53,jK)]
def QT (ρ:Type):List (Ø ρ):=[]
def Ho (ρ:Type):Env ρ:=Ù UG (QT ρ)
def OJ:Ö:=⟨[Î,tI],[.bool],fun(x:Val (.pair Î tI))=>tg x.1 x.2⟩
def agZ:List (Nat×Ö):=[]
def ad4 (ρ:Type):List (Ø ρ):=[]
def WO (ρ:Type):Env ρ:=Ù agZ (ad4 ρ)
def uB:Ö:=⟨[Î],[tI,tI],fun(x:Val Î)=>oD x⟩
def Vc:Æ:=⟨0,[ah,tI,tI,ah],[tI],⟨57,.any::.box 0 0::aN 17 [.con ah,.con tI,.var tI],[bz]⟩,[(.ret,⟨57,.any::.box 0 0::.var tI::.var tI::aN 15 [.con ah,.con tI],[bz]⟩,[tI,tI]),(.exit 0,⟨57,.any::.box 0 0::aN 17 [.con ah,.con tI],[bz]⟩,[])],false⟩
def DL (ρ:Type):Ø ρ:=⟨[],146,0,Vc,fun(p:Val (.pair ah aO)) (v:Val tI) b a=>sR p.1 p.2.1 p.2.2.1 p.2.2.2 v (fun c=>b c) (a 0) (a 1)⟩
def ad8:List (Nat×Ö):=[(173,OJ)]
def Z3 (ρ:Type):List (Ø ρ):=[DL ρ]
def FC (ρ:Type):Env ρ:=Ù ad8 (Z3 ρ)
def rV:Ö:=⟨[Î,aq],[ab,.bool],fun(x:Val (.pair Î aq))=>lF x.1 x.2⟩
def vv:Æ:=⟨2,[aq,ah,tI,tI,ah,ab,tI,ah,ao,ab],[tI,tI],⟨140,.any::.con aq::.own 1::.box 2 0::aN 3 (.box 3 0::.own 4::.own 5::.var tI::aN 14 [.con ah,.con tI,.var tI]),[bz,.rowc tI,bz,.cells [.nils],.rowc .bool,.rowc tI]⟩,[(.exit 0,⟨140,.any::.con aq::.own 1::.box 2 0::aN 3 (.box 3 0::.own 4::.own 5::.var tI::aN 14 [.con ah,.con tI]),[bz,.rowc tI,bz,.cells [.nils],.rowc .bool,.rowc tI]⟩,[tI])],false⟩
def vu (ρ:Type):Ø ρ:=⟨[2,3],210,0,vv,fun(p:Val (tyL vv.cs)) (v:Val Â) a b=>iJ p.2.1 p.2.2.1 v.1 v.2 (fun c d=>a (c,d)) (b 0)⟩
def vt:Æ:=⟨2,[aq,tI,tI,tI,ah,ab,tI,ah,ab],[tI,ao,ab],⟨140,.any::.con aq::.own 1::.box 2 0::aN 3 (.box 3 0::.own 4::.own 5::.con tI::aN 27 [.con tI,.var tI]),ce⟩,[(.exit 2,⟨140,.any::.con aq::.own 1::.box 2 0::aN 3 (.box 3 0::.own 4::.own 5::.con tI::aN 27 [.con tI]),ce⟩,[ao,ab])],false⟩
def vr (ρ:Type):Ø ρ:=⟨[2,3],210,2,vt,fun(p:Val (tyL vt.cs)) (v:Val (.pair tI aR)) a b=>Ş p.2.2.1 p.2.2.2.2.2.1 v.1 v.2.1 v.2.2 (fun c d e=>a (c,d,e)) (b 0)⟩
def vn:Æ:=⟨2,[aq,tI,tI,ah,tI,tI,ah,tI,ah,ab],[tI,ab,ao,ab],⟨140,.any::.con aq::.own 1::.box 2 0::aN 3 (.box 3 0::.own 4::.own 5::.con tI::aN 3 (.con tI::aN 62 [.con ah,.con tI,.var tI])),cf⟩,[(.ret,⟨140,.any::.con aq::.own 1::.box 2 0::aN 2 (.var .bool::.box 3 0::.own 4::.own 5::.con tI::aN 3 (.con tI::aN 62 [.con ah,.con tI])),cf⟩,[.bool,ab,ao,ab]),(.exit 6,⟨140,.any::.con aq::.own 1::.box 2 0::aN 3 (.box 3 0::.own 4::.own 5::.con tI::aN 3 (.con tI::aN 62 [.con ah,.con tI])),cf⟩,[ab,ao,ab])],false⟩
def vm (ρ:Type):Ø ρ:=⟨[2,3],210,6,vn,fun(p:Val (tyL vn.cs)) (v:Val (.pair tI (.pair ab aR))) b a=>jO p.1 p.2.1 p.2.2.1 p.2.2.2.1 p.2.2.2.2.1 v.1 v.2.1 v.2.2.1 v.2.2.2 (fun c d e f=>b (c,d,e,f)) (a 0) (a 1)⟩
def vq:Æ:=⟨2,[aq,tI,tI,ah,tI,ah],[ab,ao,ab,ab],⟨140,[.any,.con aq,.own 1,.box 2 0,.any,.any,.any,.box 3 0,.own 4,.own 5,.con tI],cg⟩,[(.ret,⟨140,[.any,.con aq,.own 1,.box 2 0,.any,.any,.var .bool,.box 3 0,.own 4,.own 5,.con tI],cg⟩,[.bool,ab,ao,ab,ab])],false⟩
def vp (ρ:Type):Ø ρ:=⟨[2,3],210,4,vq,fun(p:Val (tyL vq.cs)) (v:Val aZ) a b=>į p.1 p.2.1 p.2.2.2.2.1 p.2.2.2.2.2 v.1 v.2.1 v.2.2.1 v.2.2.2 (fun c d e f=>a (c,d,e,f)) (b 0)⟩
def K4:Æ:=⟨0,[tI,tI],[tI,ab],⟨34,aN 6 (.own 0::.con tI::aN 13 [.con tI,.var tI]),[.rowv tI]⟩,[(.exit 0,⟨34,aN 6 (.own 0::.con tI::aN 13 [.con tI]),[.rowv tI]⟩,[ab])],false⟩
def vl (ρ:Type):Ø ρ:=⟨[],147,0,K4,fun(p:Val Â) (v:Val au) a b=>jN p.1 p.2 v.1 v.2 (fun c d=>a (c,d)) (b 0)⟩
def Rf:List (Nat×Ö):=[]
def N9 (ρ:Type):List (Ø ρ):=[vu ρ,vr ρ,vm ρ,vp ρ,vl ρ]
def χ (ρ:Type):Env ρ:=Ù Rf (N9 ρ)
def acB:Ö:=⟨[Î,ab],[tI],fun(x:Val bm)=>Jk x.1 x.2⟩
def Va:Æ:=⟨0,[ab,tI,tI,ah],[tI],⟨37,aN 2 (.box 0 0::aN 16 [.con ab,.con tI,.var tI]),[bz]⟩,[(.ret,⟨37,aN 2 (.box 0 0::.any::.var tI::aN 14 [.con ab,.con tI]),[bz]⟩,[tI]),(.exit 0,⟨37,aN 2 (.box 0 0::aN 16 [.con ab,.con tI]),[bz]⟩,[])],false⟩
def DB (ρ:Type):Ø ρ:=⟨[],184,0,Va,fun(p:Val (.pair ab aO)) (v:Val tI) b a=>sQ p.1 p.2.1 p.2.2.1 p.2.2.2 v (fun c=>b c) (a 0) (a 1)⟩
def ad6:List (Nat×Ö):=[(146,uB),(147,rV),(173,OJ)]
def ZZ (ρ:Type):List (Ø ρ):=[DB ρ]
def FB (ρ:Type):Env ρ:=Ù ad6 (ZZ ρ)
def Wu:Ö:=⟨[Î,aq,tI],[ab],fun(x:Val (.pair Î (.pair aq tI)))=>Cd x.1 x.2.1 x.2.2⟩
def AQ:Æ:=⟨0,[aq,tI,tI,tI,ah],[tI,ab],⟨29,.any::.con aq::.con tI::.box 0 0::aN 3 (.own 1::aN 5 [.con tI,.var tI]),[bz,.rowv tI]⟩,[(.exit 0,⟨29,.any::.con aq::.con tI::.box 0 0::aN 3 (.own 1::aN 5 [.con tI]),[bz,.rowv tI]⟩,[ab])],false⟩
def AP (ρ:Type):Ø ρ:=⟨[],185,0,AQ,fun(p:Val (tyL AQ.cs)) (v:Val au) a b=>pH p.2.2.1 v.1 v.2 (fun c d=>a (c,d)) (b 0)⟩
def AO:Æ:=⟨2,[aq,ah,tI,tI,ah,ab,tI,ah,ao,ab],[tI,tI],⟨140,.any::.con aq::.own 1::.box 2 0::aN 3 (.box 3 0::.own 4::.own 5::.var tI::aN 14 [.con ah,.con tI,.var tI]),[bz,.rowc tI,bz,.cells [.nils],.rowc .bool,.rowc tI]⟩,[(.exit 0,⟨140,.any::.con aq::.own 1::.box 2 0::aN 3 (.box 3 0::.own 4::.own 5::.var tI::aN 14 [.con ah,.con tI]),[bz,.rowc tI,bz,.cells [.nils],.rowc .bool,.rowc tI]⟩,[tI])],false⟩
def AM (ρ:Type):Ø ρ:=⟨[8,3],210,0,AO,fun(p:Val (tyL AO.cs)) (v:Val Â) a b=>wT p.2.1 p.2.2.1 v.1 v.2 (fun c d=>a (c,d)) (b 0)⟩
def AK:Æ:=⟨2,[aq,tI,tI,tI,ah,ab,tI,ah,ab],[tI,ao,ab],⟨140,.any::.con aq::.own 1::.box 2 0::aN 3 (.box 3 0::.own 4::.own 5::.con tI::aN 27 [.con tI,.var tI]),ce⟩,[(.exit 2,⟨140,.any::.con aq::.own 1::.box 2 0::aN 3 (.box 3 0::.own 4::.own 5::.con tI::aN 27 [.con tI]),ce⟩,[ao,ab])],false⟩
def AJ (ρ:Type):Ø ρ:=⟨[8,3],210,2,AK,fun(p:Val (tyL AK.cs)) (v:Val (.pair tI aR)) a b=>wS p.2.2.1 p.2.2.2.2.2.1 v.1 v.2.1 v.2.2 (fun c d e=>a (c,d,e)) (b 0)⟩
def AG:Æ:=⟨2,[aq,tI,tI,ah,tI,tI,ah,tI,ah,ab],[tI,ab,ao,ab],⟨140,.any::.con aq::.own 1::.box 2 0::aN 3 (.box 3 0::.own 4::.own 5::.con tI::aN 3 (.con tI::aN 62 [.con ah,.con tI,.var tI])),cf⟩,[(.ret,⟨140,.any::.con aq::.own 1::.box 2 0::aN 2 (.var .bool::.box 3 0::.own 4::.own 5::.con tI::aN 3 (.con tI::aN 62 [.con ah,.con tI])),cf⟩,[.bool,ab,ao,ab]),(.exit 6,⟨140,.any::.con aq::.own 1::.box 2 0::aN 3 (.box 3 0::.own 4::.own 5::.con tI::aN 3 (.con tI::aN 62 [.con ah,.con tI])),cf⟩,[ab,ao,ab])],false⟩
def AF (ρ:Type):Ø ρ:=⟨[8,3],210,6,AG,fun(p:Val (tyL AG.cs)) (v:Val (.pair tI (.pair ab aR))) b a=>H8 p.1 p.2.1 p.2.2.1 p.2.2.2.1 p.2.2.2.2.1 v.1 v.2.1 v.2.2.1 v.2.2.2 (fun c d e f=>b (c,d,e,f)) (a 0) (a 1)⟩
def AI:Æ:=⟨2,[aq,tI,tI,ah,tI,ah],[ab,ao,ab,ab],⟨140,[.any,.con aq,.own 1,.box 2 0,.any,.any,.any,.box 3 0,.own 4,.own 5,.con tI],cg⟩,[(.ret,⟨140,[.any,.con aq,.own 1,.box 2 0,.any,.any,.var .bool,.box 3 0,.own 4,.own 5,.con tI],cg⟩,[.bool,ab,ao,ab,ab])],false⟩
def AH (ρ:Type):Ø ρ:=⟨[8,3],210,4,AI,fun(p:Val (tyL AI.cs)) (v:Val aZ) a b=>wR p.1 p.2.1 p.2.2.2.2.1 p.2.2.2.2.2 v.1 v.2.1 v.2.2.1 v.2.2.2 (fun c d e f=>a (c,d,e,f)) (b 0)⟩
def ZY:List (Nat×Ö):=[]
def U8 (ρ:Type):List (Ø ρ):=[AP ρ,AM ρ,AJ ρ,AF ρ,AH ρ]
def jP (ρ:Type):Env ρ:=Ù ZY (U8 ρ)
def Gr:Ö:=⟨[Î,tI,tI],[tI,tI],fun(x:Val bf)=>rD x.1 x.2.1 x.2.2⟩
def aea:List (Nat×Ö):=[(184,acB),(185,Wu)]
def Z7 (ρ:Type):List (Ø ρ):=[]
def Ry (ρ:Type):Env ρ:=Ù aea (Z7 ρ)
def jv:Ö:=⟨[ak,tI,tI],[tI],fun(x:Val aV)=>Ë x.1 x.2.1 x.2.2⟩
def KD:List (Nat×Ö):=[(118,Gr)]
def Hm (ρ:Type):List (Ø ρ):=[]
def yc (ρ:Type):Env ρ:=Ù KD (Hm ρ)
def tr:Ö:=⟨[ak,Â],[tI],fun(x:Val aV)=>ir x.1 x.2⟩
def KC:List (Nat×Ö):=[(50,jJ),(52,jv)]
def Hk (ρ:Type):List (Ø ρ):=[]
def yb (ρ:Type):Env ρ:=Ù KC (Hk ρ)
def mZ:Ö:=⟨[ak,Â],[tI],fun(x:Val aV)=>iO x.1 x.2⟩
def CQ:List (Nat×Ö):=[(50,jJ),(52,jv)]
def Ad (ρ:Type):List (Ø ρ):=[]
def qW (ρ:Type):Env ρ:=Ù CQ (Ad ρ)
def jY:Ö:=⟨[ak,Â],[Â],fun(x:Val aV)=>Ż x.1 x.2⟩
def CP:List (Nat×Ö):=[(96,tr),(97,mZ)]
def oh (ρ:Type):List (Ø ρ):=[]
def la (ρ:Type):Env ρ:={Ù CP (oh ρ) with hint:=LC [(12,96),(16,97)]}
def po:Ö:=⟨[Ä,Â],[Ä,tI],fun(x:Val aJ)=>ki x.1 x.2⟩
def IQ:Æ:=⟨6,[tI,tI,tI,ae,aa,af,ac,aa,tI,tI,tI,tI,tI,tI,ae,aa,af,ac,aa,tI,tI,tI,tI,ac,tI,tI,ae,aa,af,aa],[tI,ac],⟨50,.any::.box 6 0::.box 7 0::.own 8::aN 21 [.own 8,.con tI,.var tI],ci⟩,[(.exit 0,⟨50,.any::.box 6 0::.box 7 0::.own 8::aN 21 [.own 8,.con tI],ci⟩,[ac])],false⟩
def IP (ρ:Type):Ø ρ:=⟨[1,2,4,1],186,0,IQ,fun(p:Val (tyL IQ.cs)) (v:Val (.pair tI ac)) a b=>xh p.1 v.1 v.2 (fun c d=>a (c,d)) (b 0)⟩
def ahq:List (Nat×Ö):=[(43,ś)]
def aeJ (ρ:Type):List (Ø ρ):=[IP ρ]
def Lt (ρ:Type):Env ρ:=Ù ahq (aeJ ρ)
def zc:Ö:=⟨[aY,ab,tI],[tI],fun(x:Val (.pair aY aK))=>iW x.1 x.2.1 x.2.2⟩
def RX:List (Nat×Ö):=[(119,ž)]
def Om (ρ:Type):List (Ø ρ):=[]
def DY (ρ:Type):Env ρ:=Ù RX (Om ρ)
def aiO:Ö:=⟨[Ä,Ï,tI,tI],[tI],fun(x:Val (.pair Ä (.pair Ï Â)))=>Ce x.1 x.2.1 x.2.2.1 x.2.2.2⟩
def Iz:Æ:=⟨0,[tI,tI,af,tI,tI,tI,ae,aa,af,ac,aa,tI,tI,tI,tI,tI,tI,tI,tI],[tI,tI],⟨88,aN 2 (.con tI::.con tI::.box 0 0::.box 1 0::aN 3 (.var tI::aN 7 [.con af,.con tI,.var tI])),[bp,bq]⟩,[(.exit 0,⟨88,aN 2 (.con tI::.con tI::.box 0 0::.box 1 0::aN 3 (.var tI::aN 7 [.con af,.con tI])),[bp,bq]⟩,[tI])],false⟩
def Iy (ρ:Type):Ø ρ:=⟨[],207,0,Iz,fun(p:Val (tyL Iz.cs)) (v:Val Â) a b=>xa p.1 p.2.1 p.2.2.1 p.2.2.2.1 p.2.2.2.2.2.2.2.2.2.2.2.1 v.1 v.2 (fun c d=>a (c,d)) (b 0)⟩
def Ix:Æ:=⟨0,[tI,tI,tI,aa,tI,tI,tI,tI,tI,tI,tI,tI,tI],[tI,ab],⟨88,aN 2 (.con tI::.con tI::.any::.box 0 0::aN 3 (.con tI::aN 3 (.own 1::aN 39 [.con aa,.con tI,.var tI]))),b9⟩,[(.exit 2,⟨88,aN 2 (.con tI::.con tI::.any::.box 0 0::aN 3 (.con tI::aN 3 (.own 1::aN 39 [.con aa,.con tI]))),b9⟩,[ab])],false⟩
def Iw (ρ:Type):Ø ρ:=⟨[],207,2,Ix,fun(p:Val (tyL Ix.cs)) (v:Val au) a b=>w9 p.1 p.2.1 p.2.2.2.1 p.2.2.2.2.1 p.2.2.2.2.2.1 v.1 v.2 (fun c d=>a (c,d)) (b 0)⟩
def ahk:List (Nat×Ö):=[(144,lq)]
def aev (ρ:Type):List (Ø ρ):=[Iy ρ,Iw ρ]
def BP (ρ:Type):Env ρ:=Ù ahk (aev ρ)
def xR:Ö:=⟨[ax,ab],[Â],fun(x:Val (.pair ax ab))=>jr x.1 x.2⟩
def FH:List (Nat×Ö):=[]
def CS (ρ:Type):List (Ø ρ):=[]
def sV (ρ:Type):Env ρ:=Ù FH (CS ρ)
def uC:Ö:=⟨[aa],[tI],fun(x:Val aa)=>kI x⟩
def Vd:Æ:=⟨0,[aa,tI],[tI],⟨15,aN 5 [.con aa,.con tI,.var tI],[]⟩,[(.ret,⟨15,[.any,.any,.var tI,.any,.any,.con aa,.con tI],[]⟩,[tI]),(.exit 0,⟨15,aN 5 [.con aa,.con tI],[]⟩,[])],false⟩
def DT (ρ:Type):Ø ρ:=⟨[],261,0,Vd,fun(p:Val (.pair aa tI)) (v:Val tI) b a=>sU p.1 p.2 v (fun c=>b c) (a 0) (a 1)⟩
def aeb:List (Nat×Ö):=[(218,Gs)]
def Z9 (ρ:Type):List (Ø ρ):=[DT ρ]
def FD (ρ:Type):Env ρ:=Ù aeb (Z9 ρ)
def Em:Ö:=⟨[tI,tI],[Â,tI],fun(x:Val Â)=>rE x.1 x.2⟩
def Ve:List (Nat×Ö):=[(249,X9),(250,ago)]
def RC (ρ:Type):List (Ø ρ):=[]
def Ig (ρ:Type):Env ρ:=Ù Ve (RC ρ)
def al9:Ö:=⟨[Â,Â],[Â,tI],fun(x:Val è)=>aa8 x.1 x.2⟩
def ako:List (Nat×Ö):=[(261,uC),(285,Em)]
def ahb (ρ:Type):List (Ø ρ):=[]
def aei (ρ:Type):Env ρ:=Ù ako (ahb ρ)
def Gu:Ö:=⟨[Â,Â],[Â],fun(x:Val è)=>xC x.1 x.2⟩
def Ol:List (Nat×Ö):=[(275,al9)]
def Lh (ρ:Type):List (Ø ρ):=[]
def AU (ρ:Type):Env ρ:=Ù Ol (Lh ρ)
def agp:Ö:=⟨[Â,Â],[tI],fun(x:Val è)=>SQ x.1 x.2⟩
def akn:List (Nat×Ö):=[]
def ag8 (ρ:Type):List (Ø ρ):=[]
def aeg (ρ:Type):Env ρ:=Ù akn (ag8 ρ)
def Da:Ö:=⟨[è],[.bool],fun(x:Val è)=>t7 x⟩
def Lb:List (Nat×Ö):=[(261,uC),(291,agp)]
def Ii (ρ:Type):List (Ø ρ):=[]
def yo (ρ:Type):Env ρ:=Ù Lb (Ii ρ)
def ama:Ö:=⟨[Â,Â],[Â,tI],fun(x:Val è)=>SU x.1 x.2⟩
def akp:List (Nat×Ö):=[(261,uC),(285,Em)]
def ahe (ρ:Type):List (Ø ρ):=[]
def aek (ρ:Type):Env ρ:=Ù akp (ahe ρ)
def acE:Ö:=⟨[è,Â],[è,tI],fun(x:Val (.pair è Â))=>SS x.1 x.2⟩
def MO:List (Nat×Ö):=[(218,Gs),(286,Da),(289,ama),(291,agp)]
def wU (ρ:Type):List (Ø ρ):=[]
def MN:List aoR:=[⟨[3,2],287,0,4⟩]
def aej (ρ:Type):Env ρ:=Ù MO (wU ρ)
def FF (ρ:Type):Env ρ:=aqZ MO (wU ρ) MN
def Gt:Ö:=⟨[Â,Â],[è],fun(x:Val è)=>pO x.1 x.2⟩
def Oj:List (Nat×Ö):=[(276,acE)]
def Lf (ρ:Type):List (Ø ρ):=[]
def AR (ρ:Type):Env ρ:=Ù Oj (Lf ρ)
def J3:Ö:=⟨[Ä,Ì],[è],fun(x:Val aH)=>ql x.1 x.2⟩
def aaC:List (Nat×Ö):=[(111,En),(183,BG),(258,xR),(259,Gu),(260,Gt)]
def Vw (ρ:Type):List (Ø ρ):=[]
def MR (ρ:Type):Env ρ:=Ù aaC (Vw ρ)
def PI:Ö:=⟨[Ä,Ì],[Â],fun(x:Val aH)=>vR x.1 x.2⟩
def aeA:List (Nat×Ö):=[]
def aaD (ρ:Type):List (Ø ρ):=[]
def Se (ρ:Type):Env ρ:=Ù aeA (aaD ρ)
def PF:Ö:=⟨[tI,tI],[tI],fun(x:Val Â)=>vO x.1 x.2⟩
def aef:List (Nat×Ö):=[]
def aad (ρ:Type):List (Ø ρ):=[]
def RF (ρ:Type):Env ρ:=Ù aef (aad ρ)
def PG:Ö:=⟨[Â],[tI,tI],fun(x:Val Â)=>Bi x⟩
def ael:List (Nat×Ö):=[(261,uC),(262,PF)]
def aai (ρ:Type):List (Ø ρ):=[]
def RJ (ρ:Type):Env ρ:=Ù ael (aai ρ)
def Ya:Ö:=⟨[Â],[tI,tI],fun(x:Val Â)=>Jl x⟩
def ahh:List (Nat×Ö):=[(261,uC),(262,PF)]
def aem (ρ:Type):List (Ø ρ):=[]
def WX (ρ:Type):Env ρ:=Ù ahh (aem ρ)
def Yb:Ö:=⟨[Ä,Ì],[Â],fun(x:Val aH)=>xB x.1 x.2⟩
def ahi:List (Nat×Ö):=[(243,J3),(244,PI),(245,PG),(246,Ya)]
def aeq (ρ:Type):List (Ø ρ):=[]
def WY (ρ:Type):Env ρ:=Ù ahi (aeq ρ)
def Yc:Ö:=⟨[Ä],[aY],fun(x:Val Ä)=>Jn x⟩
def Ir:Æ:=⟨2,[tI,ab,tI,ae,tI,tI,tI,tI,ae,aa,af,ac,aa,tI,tI,ae,aa,af,ac,aa,aa,tI,tI,tI,tI,tI,tI,tI,tI,tI],[tI,ah,aa],⟨144,.box 1 0::.any::.con tI::.box 2 0::.con ab::.con tI::.var tI::aN 24 [.con ae,.con tI,.con tI],[bp,bE,bq,.rowv ć,.rowv Â]⟩,[(.exit 2,⟨144,.box 1 0::.any::.con tI::.box 2 0::.con ab::.con tI::aN 25 [.con ae,.con tI,.con tI],[bp,bE,bq,.rowv ć,.rowv Â]⟩,[ah,aa])],false⟩
def Iq (ρ:Type):Ø ρ:=⟨[2,1],142,2,Ir,fun(p:Val (tyL Ir.cs)) (v:Val aS) a b=>let A:=p.2.2.2.2.2.2.2.2.2.2.2.2.2;let B:=A.2.2.2.2;let C:=B.2.2.2.2.2;let D:=C.2.2.2.2;w7 p.1 p.2.1 p.2.2.1 A.1 A.2.1 A.2.2.1 A.2.2.2.1 B.1 B.2.1 B.2.2.1 C.1 C.2.1 C.2.2.1 C.2.2.2.1 D.1 D.2.1 D.2.2.1 D.2.2.2 v.1 v.2.1 v.2.2 (fun c d e=>a (c,d,e)) (b 0)⟩
def Iv:Æ:=⟨2,[ae,tI,tI,tI,ae,aa,af,ac,aa,tI,tI,ae,aa,af,ac,aa,aa,tI],[tI,ah,aa],⟨144,.box 1 0::aN 30 [.con ae,.con tI,.var tI],cj⟩,[(.exit 0,⟨144,.box 1 0::aN 30 [.con ae,.con tI],cj⟩,[ah,aa])],false⟩
def Iu (ρ:Type):Ø ρ:=⟨[2,1],142,0,Iv,fun(p:Val (tyL Iv.cs)) (v:Val aS) a b=>let A:=p.2.2.2.2.2.2.2.2.2;let B:=A.2.2.2.2;w8 p.1 p.2.1 A.1 A.2.1 A.2.2.1 A.2.2.2.1 B.1 B.2.1 B.2.2.1 B.2.2.2.1 B.2.2.2.2 v.1 v.2.1 v.2.2 (fun c d e=>a (c,d,e)) (b 0)⟩
def Ip:Æ:=⟨2,[ac,tI,tI,tI,ae,aa,af,ac,aa,tI,tI,ae,aa,af,ac,aa,aa,tI],[tI,ah,aa],⟨144,.box 1 0::aN 107 [.con ac,.con tI,.var tI],cj⟩,[(.exit 4,⟨144,.box 1 0::aN 107 [.con ac,.con tI],cj⟩,[ah,aa])],false⟩
def Io (ρ:Type):Ø ρ:=⟨[2,1],142,4,Ip,fun(p:Val (tyL Ip.cs)) (v:Val aS) a b=>let A:=p.2.2.2.2.2.2.2.2.2;let B:=A.2.2.2.2;wZ p.1 p.2.1 A.1 A.2.1 A.2.2.1 A.2.2.2.1 B.1 B.2.1 B.2.2.1 B.2.2.2.1 B.2.2.2.2 v.1 v.2.1 v.2.2 (fun c d e=>a (c,d,e)) (b 0)⟩
def ahj:List (Nat×Ö):=[(113,Gv),(181,Yd),(183,BG),(205,zc),(207,aiO),(208,Yb)]
def aet (ρ:Type):List (Ø ρ):=[Iq ρ,Iu ρ,Io ρ]
def vw (ρ:Type):Env ρ:=Ù ahj (aet ρ)
def ŧ:Ö:=⟨[Ä],[Î,aa,tI],fun(x:Val Ä)=>Ė x⟩
def aaJ:List (Nat×Ö):=[(43,ś),(74,Yc)]
def VD (ρ:Type):List (Ø ρ):=[]
def MS (ρ:Type):Env ρ:=Ù aaJ (VD ρ)
def ŗ:Ö:=⟨[Î],[.bool,tI],fun(x:Val Î)=>Ą x⟩
def K8:List (Nat×Ö):=[(146,uB),(147,rV)]
def H9 (ρ:Type):List (Ø ρ):=[]
def yl (ρ:Type):Env ρ:=Ù K8 (H9 ρ)
def Mn:Ö:=⟨[Ä,Â],[Â,tI],fun(x:Val aJ)=>oC x.1 x.2⟩
def vk:Æ:=⟨4,[tI,tI,tI,ae,aa,af,ac,aa,tI,tI,tI,tI,aa],[tI,tI,tI,ae,aa,af,ac,aa],⟨68,aN 2 (.box 4 0::aN 20 [.own 3,.con tI,.var tI]),cm⟩,[(.ret,⟨68,aN 2 (.box 4 0::.any::.nilp::.var tI::aN 17 [.own 3,.con tI]),cm⟩,[tI,tI,tI,ae,aa,af,ac,aa]),(.exit 0,⟨68,aN 2 (.box 4 0::aN 20 [.own 3,.con tI]),cm⟩,[tI,tI,ae,aa,af,ac,aa])],false⟩
def vh (ρ:Type):Ø ρ:=⟨[1,3],41,0,vk,fun(p:Val (tyL vk.cs)) (v:Val aI) b a=>ċ p.1 p.2.2.2.2.2.2.2.2.2.2.2.2 v.1 v.2.1 v.2.2.1 v.2.2.2.1 v.2.2.2.2.1 v.2.2.2.2.2.1 v.2.2.2.2.2.2.1 v.2.2.2.2.2.2.2 (fun c d e f g h i j=>b (c,d,e,f,g,h,i,j)) (a 0) (a 1)⟩
def Q8:List (Nat×Ö):=[(42,jY),(43,ś),(53,jK),(54,po),(77,ŧ),(108,ŗ)]
def N1 (ρ:Type):List (Ø ρ):=[vh ρ]
def tJ (ρ:Type):Env ρ:=Ù Q8 (N1 ρ)
def J4:Ö:=⟨[ab,ab],[ab,ab,tI],fun(x:Val aE)=>vS x.1 x.2⟩
def aaO:List (Nat×Ö):=[(182,J2),(183,BG)]
def VH (ρ:Type):List (Ø ρ):=[]
def MT (ρ:Type):Env ρ:=Ù aaO (VH ρ)
def X6:Ö:=⟨[ab,tI],[.bool],fun(x:Val aK)=>tf x.1 x.2⟩
def agS:List (Nat×Ö):=[(114,J4)]
def adK (ρ:Type):List (Ø ρ):=[]
def WN (ρ:Type):Env ρ:=Ù agS (adK ρ)
def PA:Ö:=⟨[tI],[.bool],fun(x:Val tI)=>vM x⟩
def adP:List (Nat×Ö):=[]
def ZB (ρ:Type):List (Ø ρ):=[]
def QZ (ρ:Type):Env ρ:=Ù adP (ZB ρ)
def Pz:Ö:=⟨[tI,am],[aa],fun(x:Val aT)=>Ŵ x.1 x.2⟩
def UR:Æ:=⟨0,[tI,ab,tI],[tI,aa],⟨23,.con tI::aN 4 [.own 0,.any,.any,.any,.con ab,.con tI,.var tI],cn⟩,[(.exit 0,⟨23,.con tI::aN 4 [.own 0,.any,.any,.any,.con ab,.con tI],cn⟩,[aa])],false⟩
def Ds (ρ:Type):Ø ρ:=⟨[],46,0,UR,fun(p:Val (.pair tI aK)) (v:Val aC) a b=>sJ p.1 p.2.1 p.2.2 v.1 v.2 (fun c d=>a (c,d)) (b 0)⟩
def adO:List (Nat×Ö):=[(100,Ŧ)]
def Zy (ρ:Type):List (Ø ρ):=[Ds ρ]
def Fs (ρ:Type):Env ρ:=Ù adO (Zy ρ)
def X7:Ö:=⟨[Ä,tI,ab],[Â,tI],fun(x:Val (.pair Ä au))=>Jg x.1 x.2.1 x.2.2⟩
def HT:Æ:=⟨3,[aa,tI,tI,tI,ae,aa,af,ac,aa,tI,tI,am],[tI,tI,tI,ae,aa,af,ac,aa],⟨68,aN 2 (.box 3 0::aN 20 [.con aa,.con tI,.var tI]),[bp,bw,.rowf ab 0,bH]⟩,[(.ret,⟨68,aN 2 (.box 3 0::.any::.nilp::.var tI::aN 17 [.con aa,.con tI]),[bp,bw,.rowf ab 0,bH]⟩,[tI,tI,tI,ae,aa,af,ac,aa]),(.exit 0,⟨68,aN 2 (.box 3 0::aN 20 [.con aa,.con tI]),[bp,bw,.rowf ab 0,bH]⟩,[tI,tI,ae,aa,af,ac,aa])],false⟩
def HS (ρ:Type):Ø ρ:=⟨[7,2],41,0,HT,fun(p:Val (tyL HT.cs)) (v:Val aI) b a=>rf p.1 p.2.1 v.1 v.2.1 v.2.2.1 v.2.2.2.1 v.2.2.2.2.1 v.2.2.2.2.2.1 v.2.2.2.2.2.2.1 v.2.2.2.2.2.2.2 (fun c d e f g h i j=>b (c,d,e,f,g,h,i,j)) (a 0) (a 1)⟩
def HQ:Æ:=⟨0,[ak,aa,tI,tI,tI],[tI,tI,tI],⟨87,aN 6 (.box 0 0::aN 3 (.con ak::aN 2 (.box 1 0::aN 51 [.con aa,.con tI,.var tI]))),[bw,bI]⟩,[(.exit 0,⟨87,aN 6 (.box 0 0::aN 3 (.con ak::aN 2 (.box 1 0::aN 51 [.con aa,.con tI]))),[bw,bI]⟩,[tI,tI])],false⟩
def HP (ρ:Type):Ø ρ:=⟨[],10,0,HQ,fun(p:Val (tyL HQ.cs)) (v:Val ć) a b=>wL p.1 p.2.1 p.2.2.1 v.1 v.2.1 v.2.2 (fun c d e=>a (c,d,e)) (b 0)⟩
def agX:List (Nat×Ö):=[(42,jY),(43,ś),(44,X6),(45,PA),(46,Pz),(53,jK),(54,po),(77,ŧ),(108,ŗ)]
def adY (ρ:Type):List (Ø ρ):=[HS ρ,HP ρ]
def BM (ρ:Type):Env ρ:=Ù agX (adY ρ)
def PD:Ö:=⟨[Ä,Â,Â],[Â,tI],fun(x:Val (.pair Ä è))=>xA x.1 x.2.1 x.2.2⟩
def yj:Æ:=⟨5,[tI,tI,tI,ae,aa,af,ac,aa,tI,tI,tI,tI,tI,tI,aa],[tI,tI,tI,ae,aa,af,ac,aa],⟨68,aN 2 (.box 5 0::aN 20 [.own 4,.con tI,.var tI]),cp⟩,[(.ret,⟨68,aN 2 (.box 5 0::.any::.nilp::.var tI::aN 17 [.own 4,.con tI]),cp⟩,[tI,tI,tI,ae,aa,af,ac,aa]),(.exit 0,⟨68,aN 2 (.box 5 0::aN 20 [.own 4,.con tI]),cp⟩,[tI,tI,ae,aa,af,ac,aa])],false⟩
def yi (ρ:Type):Ø ρ:=⟨[1,4],41,0,yj,fun(p:Val (tyL yj.cs)) (v:Val aI) b a=>tO p.1 p.2.2.2.2.2.2.2.2.2.2.2.2.2.2 v.1 v.2.1 v.2.2.1 v.2.2.2.1 v.2.2.2.2.1 v.2.2.2.2.2.1 v.2.2.2.2.2.2.1 v.2.2.2.2.2.2.2 (fun c d e f g h i j=>b (c,d,e,f,g,h,i,j)) (a 0) (a 1)⟩
def U5:List (Nat×Ö):=[(43,ś),(50,jJ),(52,jv),(53,jK),(54,po),(77,ŧ),(108,ŗ)]
def Rc (ρ:Type):List (Ø ρ):=[yi ρ]
def wO (ρ:Type):Env ρ:=Ù U5 (Rc ρ)
def PE:Ö:=⟨[Î,tI,tI],[am],fun(x:Val bf)=>Bf x.1 x.2.1 x.2.2⟩
def WV:Æ:=⟨0,[tI,tI,tI,tI,ah],[tI,ab],⟨45,.any::.con tI::.con tI::.box 0 0::aN 3 (.own 1::aN 7 [.con tI,.var tI]),[bz,.rowv tI]⟩,[(.exit 0,⟨45,.any::.con tI::.con tI::.box 0 0::aN 3 (.own 1::aN 7 [.con tI]),[bz,.rowv tI]⟩,[ab])],false⟩
def WU (ρ:Type):Ø ρ:=⟨[],148,0,WV,fun(p:Val (tyL WV.cs)) (v:Val au) a b=>BN p.2.2.1 v.1 v.2 (fun c d=>a (c,d)) (b 0)⟩
def WS:Æ:=⟨4,[ab,tI,am,tI,ah],[tI,ab],⟨53,.con ab::.box 1 0::aN 2 (.own 4::aN 7 [.con tI,.var tI]),cq⟩,[(.exit 0,⟨53,.con ab::.box 1 0::aN 2 (.own 4::aN 7 [.con tI]),cq⟩,[ab])],false⟩
def WR (ρ:Type):Ø ρ:=⟨[12,8],211,0,WS,fun(p:Val (tyL WS.cs)) (v:Val au) a b=>ZX p.2.1 v.1 v.2 (fun c d=>a (c,d)) (b 0)⟩
def WQ:Æ:=⟨4,[ab,ah,tI,am,tI,ah],[tI,ab],⟨53,.con ab::aN 3 (.own 4::aN 16 [.con ah,.con tI,.var tI]),cq⟩,[(.exit 2,⟨53,.con ab::aN 3 (.own 4::aN 16 [.con ah,.con tI]),cq⟩,[ab])],false⟩
def WP (ρ:Type):Ø ρ:=⟨[12,8],211,2,WQ,fun(p:Val (tyL WQ.cs)) (v:Val au) a b=>H7 p.1 p.2.1 p.2.2.1 v.1 v.2 (fun c d=>a (c,d)) (b 0)⟩
def akl:Æ:=⟨0,[tI,tI,ah],[tI,am],⟨45,aN 9 (.own 0::.fn 211 [(1,0)]::aN 18 [.con tI,.var tI]),[.rowv ab,bz]⟩,[(.exit 2,⟨45,aN 9 (.own 0::.fn 211 [(1,0)]::aN 18 [.con tI]),[.rowv ab,bz]⟩,[am])],false⟩
def WT (ρ:Type):Ø ρ:=⟨[],148,2,akl,fun(p:Val aO) (v:Val aT) a b=>OU p.1 p.2.1 p.2.2 v.1 v.2 (fun c d=>a (c,d)) (b 0)⟩
def apF:List (Nat×Ö):=[]
def amG (ρ:Type):List (Ø ρ):=[WU ρ,WR ρ,WP ρ,WT ρ]
def K6 (ρ:Type):Env ρ:=Ù apF (amG ρ)
def acC:Ö:=⟨[Î],[ab,tI],fun(x:Val Î)=>Bg x⟩
def Vb:Æ:=⟨0,[tI,tI,ah],[tI,aU],⟨93,.any::.box 0 0::aN 6 (.own 1::aN 24 [.con tI,.var tI]),[bz,.rowv am]⟩,[(.exit 0,⟨93,.any::.box 0 0::aN 6 (.own 1::aN 24 [.con tI]),[bz,.rowv am]⟩,[aU])],false⟩
def DK (ρ:Type):Ø ρ:=⟨[],78,0,Vb,fun(p:Val aO) (v:Val (.pair tI aU)) a b=>MK p.1 p.2.1 p.2.2 v.1 v.2 (fun c d=>a (c,d)) (b 0)⟩
def DD:Æ:=⟨3,[tI,am,ah,tI,tI,ah,aU,tI,tI,tI,tI,ah],[tI,tI,tI,ab],⟨73,.any::.var tI::.con tI::.con am::.fn 149 []::.box 3 0::aN 5 (.own 4::.var tI::aN 7 [.con ah,.con tI,.var tI]),cr⟩,[(.exit 2,⟨73,.any::.var tI::.con tI::.con am::.fn 149 []::.box 3 0::aN 5 (.own 4::.var tI::aN 7 [.con ah,.con tI]),cr⟩,[tI,tI,ab])],false⟩
def DC (ρ:Type):Ø ρ:=⟨[22,10],150,2,DD,fun(p:Val (tyL DD.cs)) (v:Val aQ) a b=>MG p.1 p.2.1 p.2.2.1 p.2.2.2.1 v.1 v.2.1 v.2.2.1 v.2.2.2 (fun c d e f=>a (c,d,e,f)) (b 0)⟩
def DF:Æ:=⟨3,[am,tI,ah,aU,tI,tI,tI,tI,ah],[tI,tI,tI,ab],⟨73,.any::.var tI::.var tI::.con am::.fn 149 []::.box 3 0::aN 5 [.own 4,.var tI],cr⟩,[(.exit 0,⟨73,aN 3 (.con am::.fn 149 []::.box 3 0::aN 5 [.own 4]),cr⟩,[ab])],false⟩
def DE (ρ:Type):Ø ρ:=⟨[22,10],150,0,DF,fun(p:Val (tyL DF.cs)) (v:Val aQ) a b=>MH p.1 p.2.2.2.2.2.2.2.2 v.1 v.2.1 v.2.2.1 v.2.2.2 (fun c d e f=>a (c,d,e,f)) (b 0)⟩
def DH:Æ:=⟨0,[tI,ah,tI,tI,ah,aU],[tI],⟨93,.any::.box 0 0::aN 6 (.own 1::.any::.fn 149 []::.con tI::aN 37 [.con ah,.con tI,.var tI]),[bz,.rowc am]⟩,[(.exit 2,⟨93,.any::.box 0 0::aN 6 (.own 1::.any::.fn 149 []::.con tI::aN 37 [.con ah,.con tI]),[bz,.rowc am]⟩,[]),(.ret,⟨93,.any::.box 0 0::.own 2::.var tI::aN 4 (.own 1::.any::.fn 149 []::.con tI::aN 37 [.con ah,.con tI]),[bz,.rowc am,.rowv tI]⟩,[tI,ab]),(.exit 4,⟨93,.any::.box 0 0::aN 6 (.own 1::.any::.fn 149 []::.con tI::aN 37 [.con ah,.con tI]),[bz,.rowc am]⟩,[])],false⟩
def DG (ρ:Type):Ø ρ:=⟨[],78,4,DH,fun(p:Val (tyL DH.cs)) (v:Val tI) b a=>MI p.1 p.2.1 p.2.2.1 p.2.2.2.1 p.2.2.2.2.1 p.2.2.2.2.2 v (fun c=>b c) (a 0) (a 1) (a 2)⟩
def DJ:Æ:=⟨0,[tI,ah,aU],[tI],⟨93,.any::.box 0 0::aN 6 [.own 1,.any,.fn 149 [],.var tI],[bz,.rowc am]⟩,[(.exit 2,⟨93,.any::.box 0 0::aN 6 [.own 1,.any,.fn 149 []],[bz,.rowc am]⟩,[]),(.ret,⟨93,.any::.box 0 0::.own 2::.var tI::aN 4 [.own 1,.any,.fn 149 []],[bz,.rowc am,.rowv tI]⟩,[tI,ab])],false⟩
def DI (ρ:Type):Ø ρ:=⟨[],78,2,DJ,fun(p:Val (tyL DJ.cs)) (v:Val tI) b a=>MJ p.1 p.2.1 p.2.2 v (fun c=>b c) (a 0) (a 1)⟩
def ad7:List (Nat×Ö):=[(146,uB),(147,rV),(148,PE)]
def Z1 (ρ:Type):List (Ø ρ):=[DK ρ,DC ρ,DE ρ,DG ρ,DI ρ]
def lf (ρ:Type):Env ρ:=Ù ad7 (Z1 ρ)
def Ek:Ö:=⟨[Ä,ab],[aa],fun(x:Val (.pair Ä ab))=>rA x.1 x.2⟩
def NR:Æ:=⟨0,[aa,ab,tI],[tI,aa],⟨32,aN 6 (.con aa::.any::.own 0::aN 8 [.con ab,.con tI,.var tI]),cn⟩,[(.exit 0,⟨32,aN 6 (.con aa::.any::.own 0::aN 8 [.con ab,.con tI]),cn⟩,[aa])],false⟩
def xT (ρ:Type):Ø ρ:=⟨[],80,0,NR,fun(p:Val (.pair aa aK)) (v:Val aC) a b=>nM p.1 p.2.1 p.2.2 v.1 v.2 (fun c d=>a (c,d)) (b 0)⟩
def UF:List (Nat×Ö):=[(77,ŧ)]
def QR (ρ:Type):List (Ø ρ):=[xT ρ]
def wD (ρ:Type):Env ρ:=Ù UF (QR ρ)
def acA:Ö:=⟨[Ä],[iv,tI],fun(x:Val Ä)=>Ji x⟩
def ad1:List (Nat×Ö):=[(77,ŧ),(78,acC),(79,qx),(80,Ek)]
def ZS (ρ:Type):List (Ø ρ):=[]
def Q9 (ρ:Type):Env ρ:=Ù ad1 (ZS ρ)
def Mk:Ö:=⟨[],[Ä],fun(_:Unit)=>Ba⟩
def PW:List (Nat×Ö):=[]
def Np (ρ:Type):List (Ø ρ):=[]
def Dc (ρ:Type):Env ρ:=Ù PW (Np ρ)
def Ej:Ö:=⟨[Â,Â],[tI],fun(x:Val è)=>rz x.1 x.2⟩
def UE:List (Nat×Ö):=[]
def QP (ρ:Type):List (Ø ρ):=[]
def G5 (ρ:Type):Env ρ:=Ù UE (QP ρ)
def acz:Ö:=⟨[Ä,Â,Â],[tI,tI],fun(x:Val (.pair Ä è))=>Jh x.1 x.2.1 x.2.2⟩
def DA:Æ:=⟨4,[tI,tI,tI,ae,aa,af,ac,aa,tI,tI,tI,tI,aa],[tI,tI,tI,ae,aa,af,ac,aa],⟨68,aN 2 (.box 4 0::aN 20 [.own 3,.con tI,.var tI]),cm⟩,[(.ret,⟨68,aN 2 (.box 4 0::.any::.nilp::.var tI::aN 17 [.own 3,.con tI]),cm⟩,[tI,tI,tI,ae,aa,af,ac,aa]),(.exit 0,⟨68,aN 2 (.box 4 0::aN 20 [.own 3,.con tI]),cm⟩,[tI,tI,ae,aa,af,ac,aa])],false⟩
def Dz (ρ:Type):Ø ρ:=⟨[1,3],41,0,DA,fun(p:Val (tyL DA.cs)) (v:Val aI) b a=>Ap p.1 p.2.2.2.2.2.2.2.2.2.2.2.2 v.1 v.2.1 v.2.2.1 v.2.2.2.1 v.2.2.2.2.1 v.2.2.2.2.2.1 v.2.2.2.2.2.2.1 v.2.2.2.2.2.2.2 (fun c d e f g h i j=>b (c,d,e,f,g,h,i,j)) (a 0) (a 1)⟩
def ad0:List (Nat×Ö):=[(42,jY),(43,ś),(53,jK),(54,po),(77,ŧ),(93,Ej),(108,ŗ)]
def ZO (ρ:Type):List (Ø ρ):=[Dz ρ]
def Fx (ρ:Type):Env ρ:=Ù ad0 (ZO ρ)
def acD:Ö:=⟨[Î,tI,tI],[ab,tI],fun(x:Val bf)=>Bh x.1 x.2.1 x.2.2⟩
def DS:Æ:=⟨3,[am,tI,tI,ah,tI,tI],[tI],⟨19,.con am::.fn 164 [(1,0),(2,0)]::aN 5 [.con tI,.var tI],[bz,bu,bu]⟩,[(.ret,⟨19,[.con am,.fn 164 [(1,0),(2,0)],.any,.any,.var tI,.any,.any,.con tI],[bz,bu,bu]⟩,[tI]),(.exit 0,⟨19,.con am::.fn 164 [(1,0),(2,0)]::aN 5 [.con tI],[bz,bu,bu]⟩,[])],false⟩
def DR (ρ:Type):Ø ρ:=⟨[5,2],163,0,DS,fun(p:Val (tyL DS.cs)) (v:Val tI) b a=>sT p.1 p.2.1 p.2.2.2.2.1 p.2.2.2.2.2 v (fun c=>b c) (a 0) (a 1)⟩
def DN:Æ:=⟨3,[tI,am,ah,tI,tI,ah,tI,tI,tI,ah],[tI,tI,tI,ab],⟨73,.any::.var tI::.con tI::.con am::.fn 165 [(2,0)]::.box 3 0::aN 5 (.own 4::.var tI::aN 7 [.con ah,.con tI,.var tI]),cu⟩,[(.exit 2,⟨73,.any::.var tI::.con tI::.con am::.fn 165 [(2,0)]::.box 3 0::aN 5 (.own 4::.var tI::aN 7 [.con ah,.con tI]),cu⟩,[tI,tI,ab])],false⟩
def DM (ρ:Type):Ø ρ:=⟨[6,5],150,2,DN,fun(p:Val (tyL DN.cs)) (v:Val aQ) a b=>ML p.1 p.2.1 p.2.2.1 p.2.2.2.1 p.2.2.2.2.2.2.2.1 v.1 v.2.1 v.2.2.1 v.2.2.2 (fun c d e f=>a (c,d,e,f)) (b 0)⟩
def DQ:Æ:=⟨3,[am,tI,ah,tI,tI,tI,ah],[tI,tI,tI,ab],⟨73,.any::.var tI::.var tI::.con am::.fn 165 [(2,0)]::.box 3 0::aN 5 [.own 4,.var tI],cu⟩,[(.exit 0,⟨73,aN 3 (.con am::.fn 165 [(2,0)]::.box 3 0::aN 5 [.own 4]),cu⟩,[ab])],false⟩
def DP (ρ:Type):Ø ρ:=⟨[6,5],150,0,DQ,fun(p:Val (tyL DQ.cs)) (v:Val aQ) a b=>sS p.1 p.2.2.2.2.1 p.2.2.2.2.2.2 v.1 v.2.1 v.2.2.1 v.2.2.2 (fun c d e f=>a (c,d,e,f)) (b 0)⟩
def ad9:List (Nat×Ö):=[(118,Gr),(148,PE)]
def Z5 (ρ:Type):List (Ø ρ):=[DR ρ,DM ρ,DP ρ]
def rg (ρ:Type):Env ρ:=Ù ad9 (Z5 ρ)
def Gq:Ö:=⟨[ak,aX,(.ptr .bool)],[ab],fun(x:Val (.pair ak (.pair aX (.ptr .bool))))=>mq x.1 x.2.1 x.2.2⟩
def N8:List (Nat×Ö):=[(50,jJ),(95,acD)]
def KX (ρ:Type):List (Ø ρ):=[]
def AD (ρ:Type):Env ρ:=Ù N8 (KX ρ)
def PC:Ö:=⟨[Ä,Â,.bool],[iv,tI],fun(x:Val (.pair Ä (.pair Â .bool)))=>xz x.1 x.2.1 x.2.2⟩
def yh:Æ:=⟨5,[tI,tI,tI,ae,aa,af,ac,aa,tI,tI,tI,tI,.bool,tI,aa],[tI,tI,tI,ae,aa,af,ac,aa],⟨68,aN 2 (.box 5 0::aN 20 [.own 4,.con tI,.var tI]),cw⟩,[(.ret,⟨68,aN 2 (.box 5 0::.any::.nilp::.var tI::aN 17 [.own 4,.con tI]),cw⟩,[tI,tI,tI,ae,aa,af,ac,aa]),(.exit 0,⟨68,aN 2 (.box 5 0::aN 20 [.own 4,.con tI]),cw⟩,[tI,tI,ae,aa,af,ac,aa])],false⟩
def yg (ρ:Type):Ø ρ:=⟨[1,3],41,0,yh,fun(p:Val (tyL yh.cs)) (v:Val aI) b a=>tN p.1 p.2.2.2.2.2.2.2.2.2.2.2.2.2.2 v.1 v.2.1 v.2.2.1 v.2.2.2.1 v.2.2.2.2.1 v.2.2.2.2.2.1 v.2.2.2.2.2.2.1 v.2.2.2.2.2.2.2 (fun c d e f g h i j=>b (c,d,e,f,g,h,i,j)) (a 0) (a 1)⟩
def yf:Æ:=⟨10,[tI,tI,tI,ae,aa,af,ac,aa,tI,tI,tI,tI,.bool,tI,aa,tI,tI,ae,aa,af,ac,aa,tI,ah,aa,tI,tI,ae,aa,af,ac,aa,tI,tI,ae,aa,af,ac,aa],[tI],⟨68,aN 2 (.box 10 0::aN 20 [.nils,.con tI,.var tI]),cz⟩,[(.exit 0,⟨68,aN 2 (.box 10 0::aN 20 [.nils,.con tI]),cz⟩,[])],false⟩
def ye (ρ:Type):Ø ρ:=⟨[6,1],41,0,yf,fun(p:Val (tyL yf.cs)) (v:Val tI) a b=>tM p.1 v (fun c=>a c) (b 0)⟩
def U4:List (Nat×Ö):=[(43,ś),(53,jK),(54,po),(77,ŧ),(79,qx),(80,Ek),(94,Gq),(96,tr),(97,mZ),(108,ŗ)]
def AC (ρ:Type):List (Ø ρ):=[yg ρ,ye ρ]
def mf (ρ:Type):Env ρ:={Ù U4 (AC ρ) with hint:=LC [(34,94),(56,94)]}
def Yf:Ö:=⟨[Ä,Ì],[Ä,tI],fun(x:Val aH)=>pQ x.1 x.2⟩
def IL:Æ:=⟨8,[tI,tI,tI,ae,aa,af,ac,aa,tI,tI,ab,ab,tI,tI,tI,tI,tI,tI,tI,tI,ae,aa,af,ac,aa,tI,tI,tI,tI,ac,tI,tI,ae,aa,af,aa],[tI,ac],⟨50,.any::.box 8 0::.box 9 0::.own 10::aN 21 [.own 10,.con tI,.var tI],cA⟩,[(.exit 0,⟨50,.any::.box 8 0::.box 9 0::.own 10::aN 21 [.own 10,.con tI],cA⟩,[ac])],false⟩
def IK (ρ:Type):Ø ρ:=⟨[2,2,4,1],186,0,IL,fun(p:Val (tyL IL.cs)) (v:Val (.pair tI ac)) a b=>xg p.1 v.1 v.2 (fun c d=>a (c,d)) (b 0)⟩
def aho:List (Nat×Ö):=[(43,ś)]
def aeF (ρ:Type):List (Ø ρ):=[IK ρ]
def Lr (ρ:Type):Env ρ:=Ù aho (aeF ρ)
def acG:Ö:=⟨[Ä,Ì,Â],[Â,tI],fun(x:Val (.pair Ä (.pair Ì Â)))=>vQ x.1 x.2.1 x.2.2⟩
def aep:List (Nat×Ö):=[(243,J3),(244,PI),(245,PG),(246,Ya)]
def aao (ρ:Type):List (Ø ρ):=[]
def RN (ρ:Type):Env ρ:=Ù aep (aao ρ)
def PJ:Ö:=⟨[Ä,Ì],[Â,tI],fun(x:Val aH)=>xE x.1 x.2⟩
def VF:List (Nat×Ö):=[(74,Yc),(118,Gr),(167,Yf),(183,BG),(205,zc),(215,acG)]
def Sg (ρ:Type):List (Ø ρ):=[]
def IM (ρ:Type):Env ρ:=Ù VF (Sg ρ)
def acF:Ö:=⟨[Ä,tI],[Ì,tI],fun(x:Val aM)=>Jm x.1 x.2⟩
def aeo:List (Nat×Ö):=[(43,ś)]
def aam (ρ:Type):List (Ø ρ):=[]
def RL (ρ:Type):Env ρ:=Ù aeo (aam ρ)
def aiQ:Ö:=⟨[Ä,tI],[Â,tI],fun(x:Val aM)=>O4 x.1 x.2⟩
def ahp:List (Nat×Ö):=[(208,Yb),(217,acF)]
def aeH (ρ:Type):List (Ø ρ):=[]
def WZ (ρ:Type):Env ρ:=Ù ahp (aeH ρ)
def Mm:Ö:=⟨[ab,ak,(.ptr Ì)],[tI],fun(x:Val (.pair ab (.pair ak (.ptr Ì))))=>oB x.1 x.2.1 x.2.2⟩
def QY:List (Nat×Ö):=[(50,jJ)]
def NW (ρ:Type):List (Ø ρ):=[]
def Dv (ρ:Type):Env ρ:=Ù QY (NW ρ)
def Ml:Ö:=⟨[tI,tI,ak,(.ptr tI),aX,(.ptr tI)],[ć],fun(x:Val (.pair tI (.pair tI (.pair ak (.pair (.ptr tI) (.pair aX (.ptr tI)))))))=>oA x.1 x.2.1 x.2.2.1 x.2.2.2.1 x.2.2.2.2.1 x.2.2.2.2.2⟩
def QX:List (Nat×Ö):=[(52,jv)]
def NU (ρ:Type):List (Ø ρ):=[]
def Du (ρ:Type):Env ρ:=Ù QX (NU ρ)
def J1:Ö:=⟨[ak,Â,Ì],[ż,tI],fun(x:Val (.pair ak ba))=>vL x.1 x.2.1 x.2.2⟩
def Ag:Æ:=⟨0,[tI,ab,ab,aa,ah,tI,tI,tI,tI,tI,ab,ab,tI,tI,tI,tI,tI,tI,tI,tI,tI,tI,tI,tI,tI,tI,tI,tI,tI,tI,ae,aa,af,ac,aa,tI],[tI,ah],⟨127,aN 4 (.box 0 0::.box 1 0::.box 2 0::.any::.box 3 0::aN 2 (.con tI::.box 4 0::.any::.con ab::.con ab::aN 2 (.con aa::.any::.box 5 0::aN 65 [.con ah,.con tI,.var tI]))),[bw,bv,bq,bw,bw,bM,.rowv ć]⟩,[(.exit 0,⟨127,aN 4 (.box 0 0::.box 1 0::.box 2 0::.any::.box 3 0::aN 2 (.con tI::.box 4 0::.any::.con ab::.con ab::aN 2 (.con aa::.any::.box 5 0::aN 65 [.con ah,.con tI]))),[bw,bv,bq,bw,bw,bM,.rowv ć]⟩,[ah])],false⟩
def Af (ρ:Type):Ø ρ:=⟨[],98,0,Ag,fun(p:Val (tyL Ag.cs)) (v:Val Î) a b=>mc p.1 p.2.2.2.1 p.2.2.2.2.1 p.2.2.2.2.2.1 v.1 v.2 (fun c d=>a (c,d)) (b 0)⟩
def ZA:List (Nat×Ö):=[(50,jJ),(77,ŧ),(114,J4),(166,PJ),(167,Yf),(168,aiQ),(169,Mm),(170,Ml)]
def Dt (ρ:Type):List (Ø ρ):=[Af ρ]
def sK (ρ:Type):Env ρ:={Ù ZA (Dt ρ) with hint:=LC [(110,169),(113,169),(120,170),(123,170)]}
def wc:Ö:=⟨[ć],[ab],fun(x:Val ć)=>jg x⟩
def NY:List (Nat×Ö):=[]
def KG (ρ:Type):List (Ø ρ):=[]
def Aj (ρ:Type):Env ρ:=Ù NY (KG ρ)
def Wr:Ö:=⟨[ć,tI],[tI],fun(x:Val (.pair ć tI))=>vN x.1 x.2⟩
def ZD:List (Nat×Ö):=[]
def UT (ρ:Type):List (Ø ρ):=[]
def MA (ρ:Type):Env ρ:=Ù ZD (UT ρ)
def tp:Ö:=⟨[ż,tI],[Â],fun(x:Val (.pair ż tI))=>ř x.1 x.2⟩
def Kx:List (Nat×Ö):=[(172,Wr)]
def G1 (ρ:Type):List (Ø ρ):=[]
def xS (ρ:Type):Env ρ:=Ù Kx (G1 ρ)
def tq:Ö:=⟨[ż,ab],[ab],fun(x:Val (.pair ż ab))=>kG x.1 x.2⟩
def qH:Æ:=⟨0,[tI,ab,tI,tI,tI,tI,tI,tI,tI,tI,tI,tI],[tI,ab],⟨48,aN 2 (.box 0 0::aN 2 (.own 1::.any::.con tI::.var tI::aN 7 [.con ab,.con tI,.con tI])),b9⟩,[(.exit 2,⟨48,aN 2 (.box 0 0::aN 2 (.own 1::.any::.con tI::aN 8 [.con ab,.con tI,.con tI])),b9⟩,[ab])],false⟩
def qG (ρ:Type):Ø ρ:=⟨[],106,2,qH,fun(p:Val (tyL qH.cs)) (v:Val au) a b=>iI p.1 p.2.2.2.2.1 p.2.2.2.2.2.1 v.1 v.2 (fun c d=>a (c,d)) (b 0)⟩
def qJ:Æ:=⟨0,[ab,tI,tI,tI,tI,tI,tI,tI,tI,tI],[tI,ab],⟨48,aN 2 (.box 0 0::aN 2 (.own 1::aN 10 [.con ab,.con tI,.var tI])),b9⟩,[(.exit 0,⟨48,aN 2 (.box 0 0::aN 2 (.own 1::aN 10 [.con ab,.con tI])),b9⟩,[ab])],false⟩
def qI (ρ:Type):Ø ρ:=⟨[],106,0,qJ,fun(p:Val (tyL qJ.cs)) (v:Val au) a b=>j7 p.1 p.2.1 p.2.2.1 p.2.2.2.1 v.1 v.2 (fun c d=>a (c,d)) (b 0)⟩
def Ky:List (Nat×Ö):=[]
def G3 (ρ:Type):List (Ø ρ):=[qG ρ,qI ρ]
def kO (ρ:Type):Env ρ:=Ù Ky (G3 ρ)
def zb:Ö:=⟨[ż],[tI],fun(x:Val ż)=>mm x⟩
def ph:Æ:=⟨0,[ab,tI,tI,tI,tI,tI,tI,tI,tI,tI],[tI,tI],⟨34,.any::.box 0 0::.any::.var tI::aN 12 [.con ab,.con tI,.var tI],[bq]⟩,[(.exit 0,⟨34,.any::.box 0 0::.any::.var tI::aN 12 [.con ab,.con tI],[bq]⟩,[tI])],false⟩
def pf (ρ:Type):Ø ρ:=⟨[],99,0,ph,fun(p:Val (tyL ph.cs)) (v:Val Â) a b=>let A:=p.2.2.2.2;jG p.1 p.2.1 p.2.2.1 p.2.2.2.1 A.1 A.2.1 A.2.2.1 A.2.2.2.1 A.2.2.2.2.1 A.2.2.2.2.2 v.1 v.2 (fun c d=>a (c,d)) (b 0)⟩
def G0:List (Nat×Ö):=[(100,Ŧ),(101,wc),(105,tp),(106,tq)]
def ER (ρ:Type):List (Ø ρ):=[pf ρ]
def nm (ρ:Type):Env ρ:=Ù G0 (ER ρ)
def acy:Ö:=⟨[Ä,Â,Ì],[tI,tI],fun(x:Val (.pair Ä ba))=>Be x.1 x.2.1 x.2.2⟩
def Dx:Æ:=⟨4,[tI,tI,tI,ae,aa,af,ac,aa,tI,tI,tI,tI,ab,ab,tI,tI,tI,tI,aa],[tI,tI,tI,ae,aa,af,ac,aa],⟨68,aN 2 (.box 4 0::aN 20 [.own 3,.con tI,.var tI]),cB⟩,[(.ret,⟨68,aN 2 (.box 4 0::.any::.nilp::.var tI::aN 17 [.own 3,.con tI]),cB⟩,[tI,tI,tI,ae,aa,af,ac,aa]),(.exit 0,⟨68,aN 2 (.box 4 0::aN 20 [.own 3,.con tI]),cB⟩,[tI,tI,ae,aa,af,ac,aa])],false⟩
def Dw (ρ:Type):Ø ρ:=⟨[1,3],41,0,Dx,fun(p:Val (tyL Dx.cs)) (v:Val aI) b a=>Al p.1 p.2.2.2.2.2.2.2.2.2.2.2.2.2.2.2.2.2.2 v.1 v.2.1 v.2.2.1 v.2.2.2.1 v.2.2.2.2.1 v.2.2.2.2.2.1 v.2.2.2.2.2.2.1 v.2.2.2.2.2.2.2 (fun c d e f g h i j=>b (c,d,e,f,g,h,i,j)) (a 0) (a 1)⟩
def adX:List (Nat×Ö):=[(43,ś),(53,jK),(54,po),(77,ŧ),(98,J1),(99,zb),(108,ŗ)]
def ZK (ρ:Type):List (Ø ρ):=[Dw ρ]
def Fv (ρ:Type):Env ρ:=Ù adX (ZK ρ)
def Gp:Ö:=⟨[tI],[tI],fun(x:Val tI)=>mn x⟩
def N0:List (Nat×Ö):=[]
def KP (ρ:Type):List (Ø ρ):=[]
def Ao (ρ:Type):Env ρ:=Ù N0 (KP ρ)
def Gn:Ö:=⟨[ć,tI],[ab],fun(x:Val (.pair ć tI))=>jh x.1 x.2⟩
def NZ:List (Nat×Ö):=[]
def KI (ρ:Type):List (Ø ρ):=[]
def Ak (ρ:Type):Env ρ:=Ù NZ (KI ρ)
def PB:Ö:=⟨[Ä,Â,Â,Ì],[.bool,tI],fun(x:Val (.pair Ä (.pair Â ba)))=>rB x.1 x.2.1 x.2.2.1 x.2.2.2⟩
def Ω:Æ:=⟨5,[tI,tI,tI,ae,aa,af,ac,aa,tI,tI,tI,tI,tI,tI,ab,ab,tI,tI,tI,tI,aa],[tI,tI,tI,ae,aa,af,ac,aa],⟨68,aN 2 (.box 5 0::aN 20 [.own 4,.con tI,.var tI]),cD⟩,[(.ret,⟨68,aN 2 (.box 5 0::.any::.nilp::.var tI::aN 17 [.own 4,.con tI]),cD⟩,[tI,tI,tI,ae,aa,af,ac,aa]),(.exit 0,⟨68,aN 2 (.box 5 0::aN 20 [.own 4,.con tI]),cD⟩,[tI,tI,ae,aa,af,ac,aa])],false⟩
def oR (ρ:Type):Ø ρ:=⟨[1,3],41,0,Ω,fun(p:Val az) (v:Val aI) b a=>tG p.1 p.2.2.2.2.2.2.2.2.2.2.2.2.2.2.2.2.2.2.2.2 v.1 v.2.1 v.2.2.1 v.2.2.2.1 v.2.2.2.2.1 v.2.2.2.2.2.1 v.2.2.2.2.2.2.1 v.2.2.2.2.2.2.2 (fun c d e f g h i j=>b (c,d,e,f,g,h,i,j)) (a 0) (a 1)⟩
def Χ:Æ:=⟨12,[ab,tI,tI,tI,ae,aa,af,ac,aa,tI,tI,tI,tI,tI,tI,ab,ab,tI,tI,tI,tI,aa,tI,tI,ae,aa,af,ac,aa,tI,ah,tI,tI,tI,tI,tI,tI,tI,tI,am,am,am],[tI],⟨19,.con ab::.fn 104 [(8,0),(2,0)]::aN 5 [.con tI,.var tI],cE⟩,[(.ret,⟨19,[.con ab,.fn 104 [(8,0),(2,0)],.any,.any,.var tI,.any,.any,.con tI],cE⟩,[tI]),(.exit 0,⟨19,.con ab::.fn 104 [(8,0),(2,0)]::aN 5 [.con tI],cE⟩,[])],false⟩
def oQ (ρ:Type):Ø ρ:=⟨[18,4,1,2],115,0,Χ,fun(p:Val ar) (v:Val tI) b a=>let A:=p.2.2.2.2.2.2.2.2.2.2.2;let B:=A.2.2.2.2.2.2.2.2.2.2.2.2.2.2.2.2.2.2.2.2;let C:=B.2.2.2.2;nN p.1 p.2.1 A.1 A.2.1 B.1 B.2.1 B.2.2.1 B.2.2.2.1 C.1 C.2.1 C.2.2.1 C.2.2.2.1 v (fun c=>b c) (a 0) (a 1)⟩
def Dy:List (Nat×Ö):=[(43,ś),(53,jK),(54,po),(77,ŧ),(93,Ej),(98,J1),(100,Ŧ),(101,wc),(102,Gp),(103,Gn),(105,tp),(106,tq),(108,ŗ)]
def re (ρ:Type):List (Ø ρ):=[oR ρ,oQ ρ]
def tF:List aoR:=[⟨[],38,0,4⟩]
def ĕ (ρ:Type):Env ρ:={Ù Dy (re ρ) with hint:=LC [(51,102),(55,102)]}
def wJ (ρ:Type):Env ρ:={{aqZ Dy (re ρ) tF with loops:=aeM (ĕ ρ) tF} with hint:=LC [(51,102),(55,102)]}
def El:Ö:=⟨[Î,ab],[tI],fun(x:Val bm)=>rC x.1 x.2⟩
def Ob:Æ:=⟨1,[ab,tI,tI,ah],[tI],⟨19,.con ab::.fn 213 [(0,0)]::aN 5 [.con tI,.var tI],[bz]⟩,[(.ret,⟨19,[.con ab,.fn 213 [(0,0)],.any,.any,.var tI,.any,.any,.con tI],[bz]⟩,[tI]),(.exit 0,⟨19,.con ab::.fn 213 [(0,0)]::aN 5 [.con tI],[bz]⟩,[])],false⟩
def yk (ρ:Type):Ø ρ:=⟨[3,2,1,2],115,0,Ob,fun(p:Val (.pair ab aO)) (v:Val tI) b a=>nO p.1 p.2.1 p.2.2.2 v (fun c=>b c) (a 0) (a 1)⟩
def U7:List (Nat×Ö):=[]
def Rg (ρ:Type):List (Ø ρ):=[yk ρ]
def wQ (ρ:Type):Env ρ:=Ù U7 (Rg ρ)
def X8:Ö:=⟨[Î,tI,ab],[tI,tI,.bool],fun(x:Val (.pair Î au))=>Jj x.1 x.2.1 x.2.2⟩
def ZU:Æ:=⟨0,[ab,tI,tI,ah],[tI,tI,tI],⟨37,.any::.var tI::.any::.box 0 0::aN 5 [.var tI,.any,.any,.any,.con ab,.con tI,.var tI],[bz]⟩,[(.ret,⟨37,aN 3 (.box 0 0::aN 2 (.var tI::.var tI::.var .bool::aN 4 [.con ab,.con tI])),[bz]⟩,[tI,tI,.bool]),(.exit 0,⟨37,.any::.var tI::.any::.box 0 0::aN 5 [.var tI,.any,.any,.any,.con ab,.con tI],[bz]⟩,[tI,tI])],false⟩
def HX (ρ:Type):Ø ρ:=⟨[],156,0,ZU,fun(p:Val (.pair ab aO)) (v:Val ć) b a=>wP p.1 p.2.1 p.2.2.2 v.1 v.2.1 v.2.2 (fun c d e=>b (c,d,e)) (a 0) (a 1)⟩
def agY:List (Nat×Ö):=[]
def ad2 (ρ:Type):List (Ø ρ):=[HX ρ]
def K3 (ρ:Type):Env ρ:=Ù agY (ad2 ρ)
def C8:Ö:=⟨[Î,ab],[tI],fun(x:Val bm)=>nS x.1 x.2⟩
def K9:List (Nat×Ö):=[(146,uB),(155,El),(156,X8)]
def Ib (ρ:Type):List (Ø ρ):=[]
def ym (ρ:Type):Env ρ:=Ù K9 (Ib ρ)
def C7:Ö:=⟨[iv],[tI],fun(x:Val iv)=>nR x⟩
def KS:List (Nat×Ö):=[(43,ś),(77,ŧ),(81,C8)]
def HV (ρ:Type):List (Ø ρ):=[]
def yd (ρ:Type):Env ρ:=Ù KS (HV ρ)
def C9:Ö:=⟨[Î,tI,tI,ab],[tI,tI],fun(x:Val (.pair Î (.pair tI au)))=>kH x.1 x.2.1 x.2.2.1 x.2.2.2⟩
def La:List (Nat×Ö):=[(146,uB),(155,El),(156,X8),(173,OJ)]
def Ie (ρ:Type):List (Ø ρ):=[]
def yn (ρ:Type):Env ρ:=Ù La (Ie ρ)
def wd:Ö:=⟨[iv],[tI],fun(x:Val iv)=>mo x⟩
def N7:List (Nat×Ö):=[(43,ś),(53,jK),(77,ŧ),(107,C9)]
def KT (ρ:Type):List (Ø ρ):=[]
def AB (ρ:Type):Env ρ:=Ù N7 (KT ρ)
def jm:Ö:=⟨[ae,Ï],[tI],fun(x:Val (.pair ae Ï))=>Ų x.1 x.2⟩
def Ν:Æ:=⟨0,[ae,tI,tI,tI,tI,tI,tI,tI,tI,tI],[tI],⟨19,[.con ae,.any,.any,.box 0 0,.any,.any,.any,.con tI,.var tI],[bq]⟩,[(.ret,⟨19,[.con ae,.any,.any,.box 0 0,.var tI,.any,.any,.con tI],[bq]⟩,[tI]),(.exit 0,⟨19,[.con ae,.any,.any,.box 0 0,.any,.any,.any,.con tI],[bq]⟩,[])],false⟩
def Μ (ρ:Type):Ø ρ:=⟨[],233,0,Ν,fun(p:Val (tyL Ν.cs)) (v:Val tI) b a=>let A:=p.2.2.2.2;Ć p.1 p.2.1 p.2.2.1 p.2.2.2.1 A.1 A.2.1 A.2.2.1 A.2.2.2.1 A.2.2.2.2.1 A.2.2.2.2.2 v (fun c=>b c) (a 0) (a 1)⟩
def mG:List (Nat×Ö):=[]
def lQ (ρ:Type):List (Ø ρ):=[Μ ρ]
def Ő (ρ:Type):Env ρ:=Ù mG (lQ ρ)
def iy:Ö:=⟨[ae,Ï],[.bool],fun(x:Val (.pair ae Ï))=>ġ x.1 x.2⟩
def kY:List (Nat×Ö):=[(233,jm)]
def kz (ρ:Type):List (Ø ρ):=[]
def Ξ (ρ:Type):Env ρ:=Ù kY (kz ρ)
def kv:Ö:=⟨[aa,Â],[tI],fun(x:Val bc)=>iq x.1 x.2⟩
def nX:Æ:=⟨0,[aa,tI,tI,tI],[tI],⟨19,[.con aa,.any,.any,.box 0 0,.any,.any,.any,.con tI,.var tI],[bw]⟩,[(.ret,⟨19,[.con aa,.any,.any,.box 0 0,.var tI,.any,.any,.con tI],[bw]⟩,[tI]),(.exit 0,⟨19,[.con aa,.any,.any,.box 0 0,.any,.any,.any,.con tI],[bw]⟩,[])],false⟩
def iS (ρ:Type):Ø ρ:=⟨[],235,0,nX,fun(p:Val (.pair aa ć)) (v:Val tI) b a=>ě p.1 p.2.1 p.2.2.1 p.2.2.2 v (fun c=>b c) (a 0) (a 1)⟩
def pr:List (Nat×Ö):=[]
def oL (ρ:Type):List (Ø ρ):=[iS ρ]
def Α (ρ:Type):Env ρ:=Ù pr (oL ρ)
def jC:Ö:=⟨[aa,Â],[.bool],fun(x:Val bc)=>ĝ x.1 x.2⟩
def nj:List (Nat×Ö):=[(235,kv)]
def mH (ρ:Type):List (Ø ρ):=[]
def iT (ρ:Type):Env ρ:=Ù nj (mH ρ)
def jI:Ö:=⟨[af,Ŏ],[tI],fun(x:Val (.pair af Ŏ))=>Ε x.1 x.2⟩
def mF:Æ:=⟨0,[af,tI,tI,tI,tI,tI],[tI],⟨19,[.con af,.any,.any,.box 0 0,.any,.any,.any,.con tI,.var tI],[br]⟩,[(.ret,⟨19,[.con af,.any,.any,.box 0 0,.var tI,.any,.any,.con tI],[br]⟩,[tI]),(.exit 0,⟨19,[.con af,.any,.any,.box 0 0,.any,.any,.any,.con tI],[br]⟩,[])],false⟩
def iA (ρ:Type):Ø ρ:=⟨[],237,0,mF,fun(p:Val (.pair af bn)) (v:Val tI) b a=>ď p.1 p.2.1 p.2.2.1 p.2.2.2.1 p.2.2.2.2.1 p.2.2.2.2.2 v (fun c=>b c) (a 0) (a 1)⟩
def nZ:List (Nat×Ö):=[]
def nh (ρ:Type):List (Ø ρ):=[iA ρ]
def Ű (ρ:Type):Env ρ:=Ù nZ (nh ρ)
def iR:Ö:=⟨[af,Ŏ],[.bool],fun(x:Val (.pair af Ŏ))=>Đ x.1 x.2⟩
def lS:List (Nat×Ö):=[(237,jI)]
def lJ (ρ:Type):List (Ø ρ):=[]
def iB (ρ:Type):Env ρ:=Ù lS (lJ ρ)
def aiN:Ö:=⟨[Ä,Ä],[.bool],fun(x:Val (.pair Ä Ä))=>Jf x.1 x.2⟩
def HI:Æ:=⟨0,[ae,tI,tI,tI,ae,aa,af,ac,aa,tI,tI,ae,aa,af,ac,aa],[tI,aq],⟨87,aN 2 (.box 0 0::.box 1 0::.any::.box 2 0::aN 10 [.con ae,.con tI,.var tI]),[bp,bp,bN,.mapv tI .bool]⟩,[(.exit 0,⟨87,aN 2 (.box 0 0::.box 1 0::.any::.box 2 0::aN 10 [.con ae,.con tI]),[bp,bp,bN,.mapv tI .bool]⟩,[aq])],false⟩
def HH (ρ:Type):Ø ρ:=⟨[],55,0,HI,fun(p:Val (tyL HI.cs)) (v:Val (.pair tI aq)) a b=>wF p.1 p.2.1 v.1 v.2 (fun c d=>a (c,d)) (b 0)⟩
def HC:Æ:=⟨6,[ab,ab,tI,tI,tI,ae,aa,af,ac,aa,tI,tI,ae,aa,af,ac,aa,aq,tI,tI,ab,ab,tI,tI,tI,tI,tI,tI,ab,ab,tI,tI,tI,tI],[tI],⟨26,.con ab::.con ab::aN 10 [.con tI,.var tI],cF⟩,[(.ret,⟨26,.con ab::.con ab::aN 2 (.var .bool::aN 7 [.con tI]),cF⟩,[.bool]),(.exit 0,⟨26,.con ab::.con ab::aN 10 [.con tI],cF⟩,[])],false⟩
def HB (ρ:Type):Ø ρ:=⟨[14,3,1,2,4,5,1,38],126,0,HC,fun(p:Val (tyL HC.cs)) (v:Val tI) b a=>nt p.1 p.2.1 p.2.2.1 v (fun c=>b c) (a 0) (a 1)⟩
def HA:Æ:=⟨6,[ab,ab,tI,tI,tI,ae,aa,af,ac,aa,tI,tI,ae,aa,af,ac,aa,aq,tI,tI,ab,ab,tI,tI,tI,tI,tI,tI,ab,ab,tI,tI,tI,tI],[tI],⟨26,.con ab::.con ab::aN 10 [.con tI,.var tI],cF⟩,[(.ret,⟨26,.con ab::.con ab::aN 2 (.var .bool::aN 7 [.con tI]),cF⟩,[.bool]),(.exit 0,⟨26,.con ab::.con ab::aN 10 [.con tI],cF⟩,[])],false⟩
def Hz (ρ:Type):Ø ρ:=⟨[14,3,1,2,4,5,1,45],126,0,HA,fun(p:Val (tyL HA.cs)) (v:Val tI) b a=>wE p.1 p.2.1 p.2.2.1 v (fun c=>b c) (a 0) (a 1)⟩
def HE:Æ:=⟨5,[ac,tI,tI,tI,ae,aa,af,ac,aa,tI,tI,ae,aa,af,ac,aa,aq,tI,tI,ab,ab,tI,tI,tI,tI],[tI],⟨19,.con ac::.fn 125 [(4,0)]::aN 5 [.con tI,.var tI],cG⟩,[(.ret,⟨19,[.con ac,.fn 125 [(4,0)],.any,.any,.var tI,.any,.any,.con tI],cG⟩,[tI]),(.exit 0,⟨19,.con ac::.fn 125 [(4,0)]::aN 5 [.con tI],cG⟩,[])],false⟩
def HD (ρ:Type):Ø ρ:=⟨[14,3,1,2],187,0,HE,fun(p:Val (tyL HE.cs)) (v:Val tI) b a=>let A:=p.2.2.2.2.2.2.2.2.2.2.2.2.2.2.2.2.2;let B:=A.2.2.2.2;qY p.1 p.2.1 A.1 A.2.1 A.2.2.1 A.2.2.2.1 B.1 B.2.1 B.2.2.1 B.2.2.2 v (fun c=>b c) (a 0) (a 1)⟩
def HG:Æ:=⟨0,[ac,tI,tI,tI,ae,aa,af,ac,aa,tI,tI,ae,aa,af,ac,aa,aq],[tI],⟨87,aN 2 (.box 0 0::.box 1 0::aN 4 (.fn 122 []::.fn 123 [(2,0)]::.fn 124 [(2,0)]::aN 18 [.con ac,.con tI,.var tI])),cH⟩,[(.ret,⟨87,aN 2 (.box 0 0::.box 1 0::.var .bool::aN 3 (.fn 122 []::.fn 123 [(2,0)]::.fn 124 [(2,0)]::aN 18 [.con ac,.con tI])),cH⟩,[.bool]),(.exit 2,⟨87,aN 2 (.box 0 0::.box 1 0::aN 4 (.fn 122 []::.fn 123 [(2,0)]::.fn 124 [(2,0)]::aN 18 [.con ac,.con tI])),cH⟩,[])],false⟩
def HF (ρ:Type):Ø ρ:=⟨[],55,2,HG,fun(p:Val (tyL HG.cs)) (v:Val tI) b a=>qZ p.1 p.2.1 p.2.2.2.2.2.2.2.2.2.2.2.2.2.2.1 v (fun c=>b c) (a 0) (a 1)⟩
def Hy:Æ:=⟨6,[ae,tI,tI,tI,ae,aa,af,ac,aa,tI,tI,ae,aa,af,ac,aa,aq,ae],[tI],⟨19,.con ae::.fn 189 [(5,0),(4,0)]::aN 5 [.con tI,.var tI],cI⟩,[(.ret,⟨19,[.con ae,.fn 189 [(5,0),(4,0)],.any,.any,.var tI,.any,.any,.con tI],cI⟩,[tI]),(.exit 0,⟨19,.con ae::.fn 189 [(5,0),(4,0)]::aN 5 [.con tI],cI⟩,[])],false⟩
def Hx (ρ:Type):Ø ρ:=⟨[17,11,1,2,1,2],232,0,Hy,fun(p:Val (tyL Hy.cs)) (v:Val tI) b a=>qX p.1 p.2.1 p.2.2.2.2.2.2.2.2.2.2.2.2.2.2.2.2.2 v (fun c=>b c) (a 0) (a 1)⟩
def Hw:Æ:=⟨8,[aa,tI,tI,tI,ae,aa,af,ac,aa,tI,tI,ae,aa,af,ac,aa,aq,ae,aa],[tI],⟨19,.con aa::.fn 192 [(7,0),(6,0)]::aN 5 [.con tI,.var tI],cJ⟩,[(.ret,⟨19,[.con aa,.fn 192 [(7,0),(6,0)],.any,.any,.var tI,.any,.any,.con tI],cJ⟩,[tI]),(.exit 0,⟨19,.con aa::.fn 192 [(7,0),(6,0)]::aN 5 [.con tI],cJ⟩,[])],false⟩
def Hv (ρ:Type):Ø ρ:=⟨[17,19,1,2,1,2],234,0,Hw,fun(p:Val (tyL Hw.cs)) (v:Val tI) b a=>ld p.1 p.2.1 p.2.2.2.2.2.2.2.2.2.2.2.2.2.2.2.2.1 p.2.2.2.2.2.2.2.2.2.2.2.2.2.2.2.2.2.2 v (fun c=>b c) (a 0) (a 1)⟩
def Hu:Æ:=⟨10,[aa,tI,tI,tI,ae,aa,af,ac,aa,tI,tI,ae,aa,af,ac,aa,aq,ae,aa,aa],[tI],⟨19,.con aa::.fn 192 [(9,0),(8,0)]::aN 5 [.con tI,.var tI],cM⟩,[(.ret,⟨19,[.con aa,.fn 192 [(9,0),(8,0)],.any,.any,.var tI,.any,.any,.con tI],cM⟩,[tI]),(.exit 0,⟨19,.con aa::.fn 192 [(9,0),(8,0)]::aN 5 [.con tI],cM⟩,[])],false⟩
def Ht (ρ:Type):Ø ρ:=⟨[17,27,1,2,1,2],234,0,Hu,fun(p:Val (tyL Hu.cs)) (v:Val tI) b a=>nr p.1 p.2.1 p.2.2.2.2.2.2.2.2.2.2.2.2.2.2.2.2.1 p.2.2.2.2.2.2.2.2.2.2.2.2.2.2.2.2.2.2.2 v (fun c=>b c) (a 0) (a 1)⟩
def Hs:Æ:=⟨12,[af,tI,tI,tI,ae,aa,af,ac,aa,tI,tI,ae,aa,af,ac,aa,aq,ae,aa,aa,af],[tI],⟨19,.con af::.fn 195 [(11,0),(10,0)]::aN 5 [.con tI,.var tI],cN⟩,[(.ret,⟨19,[.con af,.fn 195 [(11,0),(10,0)],.any,.any,.var tI,.any,.any,.con tI],cN⟩,[tI]),(.exit 0,⟨19,.con af::.fn 195 [(11,0),(10,0)]::aN 5 [.con tI],cN⟩,[])],false⟩
def Hr (ρ:Type):Ø ρ:=⟨[17,35,1,2,1,2],236,0,Hs,fun(p:Val (tyL Hs.cs)) (v:Val tI) b a=>Ń p.1 p.2.1 p.2.2.2.2.2.2.2.2.2.2.2.2.2.2.2.2.1 p.2.2.2.2.2.2.2.2.2.2.2.2.2.2.2.2.2.2.2.2 v (fun c=>b c) (a 0) (a 1)⟩
def Hq:Æ:=⟨14,[af,tI,tI,tI,ae,aa,af,ac,aa,tI,tI,ae,aa,af,ac,aa,aq,ae,aa,aa,af,af],[tI],⟨19,.con af::.fn 195 [(13,0),(12,0)]::aN 5 [.con tI,.var tI],cO⟩,[(.ret,⟨19,[.con af,.fn 195 [(13,0),(12,0)],.any,.any,.var tI,.any,.any,.con tI],cO⟩,[tI]),(.exit 0,⟨19,.con af::.fn 195 [(13,0),(12,0)]::aN 5 [.con tI],cO⟩,[])],false⟩
def Hp (ρ:Type):Ø ρ:=⟨[17,43,1,2,1,2],236,0,Hq,fun(p:Val (tyL Hq.cs)) (v:Val tI) b a=>Ę p.1 p.2.1 p.2.2.2.2.2.2.2.2.2.2.2.2.2.2.2.2.1 p.2.2.2.2.2.2.2.2.2.2.2.2.2.2.2.2.2.2.2.2.2 v (fun c=>b c) (a 0) (a 1)⟩
def agT:List (Nat×Ö):=[(190,iy),(193,jC),(196,iR)]
def adM (ρ:Type):List (Ø ρ):=[HH ρ,HB ρ,Hz ρ,HD ρ,HF ρ,Hx ρ,Hv ρ,Ht ρ,Hr ρ,Hp ρ]
def Φ (ρ:Type):Env ρ:=Ù agT (adM ρ)
def Ws:Ö:=⟨[Ä,iv],[.bool,tI],fun(x:Val (.pair Ä iv))=>Cb x.1 x.2⟩
def ZM:List (Nat×Ö):=[(25,C7),(40,wd),(43,ś),(55,aiN)]
def UY (ρ:Type):List (Ø ρ):=[]
def MF (ρ:Type):Env ρ:=Ù ZM (UY ρ)
def Ps:Ö:=⟨[],[.bool],fun(_:Unit)=>ω⟩
def TP:List (Nat×Ö):=[(9,Mn),(10,X7),(12,PD),(24,acA),(34,Mk),(35,acz),(36,PC),(37,acy),(38,PB),(39,Ws),(40,wd)]
def PU (ρ:Type):List (Ø ρ):=[]
def GF (ρ:Type):Env ρ:=Ù TP (PU ρ)
def Gm:Ö:=⟨[ak,ab,ab],[tI],fun(x:Val (.pair ak aE))=>ξ x.1 x.2.1 x.2.2⟩
def Hg:Æ:=⟨6,[ab,tI,ak,ab,ab,ao],[tI,tI],⟨81,aN 3 (.box 4 0::.box 0 0::aN 3 (.var tI::aN 9 [.con ab,.con tI,.var tI])),cQ⟩,[(.exit 0,⟨81,aN 3 (.box 4 0::.box 0 0::aN 3 (.var tI::aN 9 [.con ab,.con tI])),cQ⟩,[tI])],false⟩
def sI (ρ:Type):Ø ρ:=⟨[4,1],117,0,Hg,fun(p:Val ay) (v:Val Â) a b=>jp p.1 p.2.1 p.2.2.1 p.2.2.2.2.2 v.1 v.2 (fun c d=>a (c,d)) (b 0)⟩
def Hf:Æ:=⟨6,[ab,tI,ak,ab,ab,ao],[tI,tI],⟨81,aN 3 (.box 4 0::.box 0 0::aN 3 (.var tI::aN 9 [.con ab,.con tI,.var tI])),cQ⟩,[(.exit 0,⟨81,aN 3 (.box 4 0::.box 0 0::aN 3 (.var tI::aN 9 [.con ab,.con tI])),cQ⟩,[tI])],false⟩
def sH (ρ:Type):Ø ρ:=⟨[4,1,10,9],117,0,Hf,fun(p:Val ay) (v:Val Â) a b=>ya p.1 p.2.1 p.2.2.1 p.2.2.2.2.2 v.1 v.2 (fun c d=>a (c,d)) (b 0)⟩
def Hc:Æ:=⟨6,[ab,tI,ak,ab,ab,ao],[tI,tI],⟨81,aN 3 (.box 4 0::.box 0 0::aN 3 (.var tI::aN 9 [.con ab,.con tI,.var tI])),cQ⟩,[(.exit 0,⟨81,aN 3 (.box 4 0::.box 0 0::aN 3 (.var tI::aN 9 [.con ab,.con tI])),cQ⟩,[tI])],false⟩
def sF (ρ:Type):Ø ρ:=⟨[4,1,16,11],117,0,Hc,fun(p:Val ay) (v:Val Â) a b=>xZ p.1 p.2.1 p.2.2.1 p.2.2.2.2.2 v.1 v.2 (fun c d=>a (c,d)) (b 0)⟩
def Hb:Æ:=⟨6,[ab,tI,ak,ab,ab,ao],[tI,tI],⟨81,aN 3 (.box 4 0::.box 0 0::aN 3 (.var tI::aN 9 [.con ab,.con tI,.var tI])),cQ⟩,[(.exit 0,⟨81,aN 3 (.box 4 0::.box 0 0::aN 3 (.var tI::aN 9 [.con ab,.con tI])),cQ⟩,[tI])],false⟩
def sw (ρ:Type):Ø ρ:=⟨[4,1,16,11,10,9],117,0,Hb,fun(p:Val ay) (v:Val Â) a b=>xY p.1 p.2.1 p.2.2.1 p.2.2.2.2.2 v.1 v.2 (fun c d=>a (c,d)) (b 0)⟩
def G9:Æ:=⟨6,[ab,tI,ak,ab,ab,ao],[tI,tI],⟨81,aN 3 (.box 4 0::.box 0 0::aN 3 (.var tI::aN 9 [.con ab,.con tI,.var tI])),cQ⟩,[(.exit 0,⟨81,aN 3 (.box 4 0::.box 0 0::aN 3 (.var tI::aN 9 [.con ab,.con tI])),cQ⟩,[tI])],false⟩
def su (ρ:Type):Ø ρ:=⟨[4,1,16,11,16,11],117,0,G9,fun(p:Val ay) (v:Val Â) a b=>xX p.1 p.2.1 p.2.2.1 p.2.2.2.2.2 v.1 v.2 (fun c d=>a (c,d)) (b 0)⟩
def G8:Æ:=⟨6,[ab,tI,ak,ab,ab,ao],[tI,tI],⟨81,aN 3 (.box 4 0::.box 0 0::aN 3 (.var tI::aN 9 [.con ab,.con tI,.var tI])),cQ⟩,[(.exit 0,⟨81,aN 3 (.box 4 0::.box 0 0::aN 3 (.var tI::aN 9 [.con ab,.con tI])),cQ⟩,[tI])],false⟩
def sr (ρ:Type):Ø ρ:=⟨[4,1,16,11,16,11,10,9],117,0,G8,fun(p:Val ay) (v:Val Â) a b=>xW p.1 p.2.1 p.2.2.1 p.2.2.2.2.2 v.1 v.2 (fun c d=>a (c,d)) (b 0)⟩
def G6:Æ:=⟨6,[ab,tI,ak,ab,ab,ao],[tI,tI],⟨81,aN 3 (.box 4 0::.box 0 0::aN 3 (.var tI::aN 9 [.con ab,.con tI,.var tI])),cQ⟩,[(.exit 0,⟨81,aN 3 (.box 4 0::.box 0 0::aN 3 (.var tI::aN 9 [.con ab,.con tI])),cQ⟩,[tI])],false⟩
def sn (ρ:Type):Ø ρ:=⟨[4,1,16,11,16,11,16,11],117,0,G6,fun(p:Val ay) (v:Val Â) a b=>xU p.1 p.2.1 p.2.2.1 p.2.2.2.2.2 v.1 v.2 (fun c d=>a (c,d)) (b 0)⟩
def G7:Æ:=⟨6,[tI,ab,tI,ak,ab,ab],[tI,tI,ao],⟨81,.con tI::.box 1 0::.any::.box 4 0::.box 0 0::.box 5 0::aN 5 (.var tI::aN 36 [.con ab,.con tI,.var tI]),cR⟩,[(.exit 2,⟨81,.con tI::.box 1 0::.any::.box 4 0::.box 0 0::.box 5 0::aN 5 (.var tI::aN 36 [.con ab,.con tI]),cR⟩,[tI,ao])],false⟩
def sq (ρ:Type):Ø ρ:=⟨[4,1,16,11,16,11],117,2,G7,fun(p:Val aL) (v:Val aG) a b=>xV p.1 p.2.1 p.2.2.1 p.2.2.2.1 p.2.2.2.2.1 p.2.2.2.2.2 v.1 v.2.1 v.2.2 (fun c d e=>a (c,d,e)) (b 0)⟩
def Ha:Æ:=⟨6,[tI,ab,tI,ak,ab,ab],[tI,tI,ao],⟨81,.con tI::.box 1 0::.any::.box 4 0::.box 0 0::.box 5 0::aN 5 (.var tI::aN 36 [.con ab,.con tI,.var tI]),cR⟩,[(.exit 2,⟨81,.con tI::.box 1 0::.any::.box 4 0::.box 0 0::.box 5 0::aN 5 (.var tI::aN 36 [.con ab,.con tI]),cR⟩,[tI,ao])],false⟩
def sv (ρ:Type):Ø ρ:=⟨[4,1,16,11],117,2,Ha,fun(p:Val aL) (v:Val aG) a b=>oP p.1 p.2.1 p.2.2.1 p.2.2.2.1 p.2.2.2.2.1 p.2.2.2.2.2 v.1 v.2.1 v.2.2 (fun c d e=>a (c,d,e)) (b 0)⟩
def Fp:Æ:=⟨6,[ab,tI,ak,ab,ab,ao],[tI,tI],⟨81,aN 3 (.box 4 0::.box 0 0::aN 3 (.var tI::aN 9 [.con ab,.con tI,.var tI])),cQ⟩,[(.exit 0,⟨81,aN 3 (.box 4 0::.box 0 0::aN 3 (.var tI::aN 9 [.con ab,.con tI])),cQ⟩,[tI])],false⟩
def qV (ρ:Type):Ø ρ:=⟨[4,1,16,11,10,9,10,9],117,0,Fp,fun(p:Val ay) (v:Val Â) a b=>uY p.1 p.2.1 p.2.2.1 p.2.2.2.2.2 v.1 v.2 (fun c d=>a (c,d)) (b 0)⟩
def Fm:Æ:=⟨6,[ab,tI,ak,ab,ab,ao],[tI,tI],⟨81,aN 3 (.box 4 0::.box 0 0::aN 3 (.var tI::aN 9 [.con ab,.con tI,.var tI])),cQ⟩,[(.exit 0,⟨81,aN 3 (.box 4 0::.box 0 0::aN 3 (.var tI::aN 9 [.con ab,.con tI])),cQ⟩,[tI])],false⟩
def qT (ρ:Type):Ø ρ:=⟨[4,1,16,11,10,9,16,11],117,0,Fm,fun(p:Val ay) (v:Val Â) a b=>uW p.1 p.2.1 p.2.2.1 p.2.2.2.2.2 v.1 v.2 (fun c d=>a (c,d)) (b 0)⟩
def Fo:Æ:=⟨6,[tI,ab,tI,ak,ab,ab],[tI,tI,ao],⟨81,.con tI::.box 1 0::.any::.box 4 0::.box 0 0::.box 5 0::aN 5 (.var tI::aN 36 [.con ab,.con tI,.var tI]),cR⟩,[(.exit 2,⟨81,.con tI::.box 1 0::.any::.box 4 0::.box 0 0::.box 5 0::aN 5 (.var tI::aN 36 [.con ab,.con tI]),cR⟩,[tI,ao])],false⟩
def qU (ρ:Type):Ø ρ:=⟨[4,1,16,11,10,9],117,2,Fo,fun(p:Val aL) (v:Val aG) a b=>uX p.1 p.2.1 p.2.2.1 p.2.2.2.1 p.2.2.2.2.1 p.2.2.2.2.2 v.1 v.2.1 v.2.2 (fun c d e=>a (c,d,e)) (b 0)⟩
def He:Æ:=⟨6,[tI,ab,tI,ak,ab,ab],[tI,tI,ao],⟨81,.con tI::.box 1 0::.any::.box 4 0::.box 0 0::.box 5 0::aN 5 (.var tI::aN 36 [.con ab,.con tI,.var tI]),cR⟩,[(.exit 2,⟨81,.con tI::.box 1 0::.any::.box 4 0::.box 0 0::.box 5 0::aN 5 (.var tI::aN 36 [.con ab,.con tI]),cR⟩,[tI,ao])],false⟩
def sG (ρ:Type):Ø ρ:=⟨[4,1],117,2,He,fun(p:Val aL) (v:Val aG) a b=>kP p.1 p.2.1 p.2.2.1 p.2.2.2.1 p.2.2.2.2.1 p.2.2.2.2.2 v.1 v.2.1 v.2.2 (fun c d e=>a (c,d,e)) (b 0)⟩
def Fl:Æ:=⟨6,[ab,tI,ak,ab,ab,ao],[tI,tI],⟨81,aN 3 (.box 4 0::.box 0 0::aN 3 (.var tI::aN 9 [.con ab,.con tI,.var tI])),cQ⟩,[(.exit 0,⟨81,aN 3 (.box 4 0::.box 0 0::aN 3 (.var tI::aN 9 [.con ab,.con tI])),cQ⟩,[tI])],false⟩
def qS (ρ:Type):Ø ρ:=⟨[4,1,10,9,10,9],117,0,Fl,fun(p:Val ay) (v:Val Â) a b=>uV p.1 p.2.1 p.2.2.1 p.2.2.2.2.2 v.1 v.2 (fun c d=>a (c,d)) (b 0)⟩
def Fh:Æ:=⟨6,[ab,tI,ak,ab,ab,ao],[tI,tI],⟨81,aN 3 (.box 4 0::.box 0 0::aN 3 (.var tI::aN 9 [.con ab,.con tI,.var tI])),cQ⟩,[(.exit 0,⟨81,aN 3 (.box 4 0::.box 0 0::aN 3 (.var tI::aN 9 [.con ab,.con tI])),cQ⟩,[tI])],false⟩
def qQ (ρ:Type):Ø ρ:=⟨[4,1,10,9,16,11],117,0,Fh,fun(p:Val ay) (v:Val Â) a b=>uU p.1 p.2.1 p.2.2.1 p.2.2.2.2.2 v.1 v.2 (fun c d=>a (c,d)) (b 0)⟩
def Fg:Æ:=⟨6,[ab,tI,ak,ab,ab,ao],[tI,tI],⟨81,aN 3 (.box 4 0::.box 0 0::aN 3 (.var tI::aN 9 [.con ab,.con tI,.var tI])),cQ⟩,[(.exit 0,⟨81,aN 3 (.box 4 0::.box 0 0::aN 3 (.var tI::aN 9 [.con ab,.con tI])),cQ⟩,[tI])],false⟩
def qP (ρ:Type):Ø ρ:=⟨[4,1,10,9,16,11,10,9],117,0,Fg,fun(p:Val ay) (v:Val Â) a b=>uT p.1 p.2.1 p.2.2.1 p.2.2.2.2.2 v.1 v.2 (fun c d=>a (c,d)) (b 0)⟩
def Fe:Æ:=⟨6,[ab,tI,ak,ab,ab,ao],[tI,tI],⟨81,aN 3 (.box 4 0::.box 0 0::aN 3 (.var tI::aN 9 [.con ab,.con tI,.var tI])),cQ⟩,[(.exit 0,⟨81,aN 3 (.box 4 0::.box 0 0::aN 3 (.var tI::aN 9 [.con ab,.con tI])),cQ⟩,[tI])],false⟩
def qN (ρ:Type):Ø ρ:=⟨[4,1,10,9,16,11,16,11],117,0,Fe,fun(p:Val ay) (v:Val Â) a b=>uR p.1 p.2.1 p.2.2.1 p.2.2.2.2.2 v.1 v.2 (fun c d=>a (c,d)) (b 0)⟩
def Ff:Æ:=⟨6,[tI,ab,tI,ak,ab,ab],[tI,tI,ao],⟨81,.con tI::.box 1 0::.any::.box 4 0::.box 0 0::.box 5 0::aN 5 (.var tI::aN 36 [.con ab,.con tI,.var tI]),cR⟩,[(.exit 2,⟨81,.con tI::.box 1 0::.any::.box 4 0::.box 0 0::.box 5 0::aN 5 (.var tI::aN 36 [.con ab,.con tI]),cR⟩,[tI,ao])],false⟩
def qO (ρ:Type):Ø ρ:=⟨[4,1,10,9,16,11],117,2,Ff,fun(p:Val aL) (v:Val aG) a b=>uS p.1 p.2.1 p.2.2.1 p.2.2.2.1 p.2.2.2.2.1 p.2.2.2.2.2 v.1 v.2.1 v.2.2 (fun c d e=>a (c,d,e)) (b 0)⟩
def Fk:Æ:=⟨6,[tI,ab,tI,ak,ab,ab],[tI,tI,ao],⟨81,.con tI::.box 1 0::.any::.box 4 0::.box 0 0::.box 5 0::aN 5 (.var tI::aN 36 [.con ab,.con tI,.var tI]),cR⟩,[(.exit 2,⟨81,.con tI::.box 1 0::.any::.box 4 0::.box 0 0::.box 5 0::aN 5 (.var tI::aN 36 [.con ab,.con tI]),cR⟩,[tI,ao])],false⟩
def qR (ρ:Type):Ø ρ:=⟨[4,1,10,9],117,2,Fk,fun(p:Val aL) (v:Val aG) a b=>nn p.1 p.2.1 p.2.2.1 p.2.2.2.1 p.2.2.2.2.1 p.2.2.2.2.2 v.1 v.2.1 v.2.2 (fun c d e=>a (c,d,e)) (b 0)⟩
def Fc:Æ:=⟨6,[ab,tI,ak,ab,ab,ao],[tI,tI],⟨81,aN 3 (.box 4 0::.box 0 0::aN 3 (.var tI::aN 9 [.con ab,.con tI,.var tI])),cQ⟩,[(.exit 0,⟨81,aN 3 (.box 4 0::.box 0 0::aN 3 (.var tI::aN 9 [.con ab,.con tI])),cQ⟩,[tI])],false⟩
def qM (ρ:Type):Ø ρ:=⟨[4,1,10,9,10,9,10,9],117,0,Fc,fun(p:Val ay) (v:Val Â) a b=>uQ p.1 p.2.1 p.2.2.1 p.2.2.2.2.2 v.1 v.2 (fun c d=>a (c,d)) (b 0)⟩
def E7:Æ:=⟨6,[ab,tI,ak,ab,ab,ao],[tI,tI],⟨81,aN 3 (.box 4 0::.box 0 0::aN 3 (.var tI::aN 9 [.con ab,.con tI,.var tI])),cQ⟩,[(.exit 0,⟨81,aN 3 (.box 4 0::.box 0 0::aN 3 (.var tI::aN 9 [.con ab,.con tI])),cQ⟩,[tI])],false⟩
def qK (ρ:Type):Ø ρ:=⟨[4,1,10,9,10,9,16,11],117,0,E7,fun(p:Val ay) (v:Val Â) a b=>uO p.1 p.2.1 p.2.2.1 p.2.2.2.2.2 v.1 v.2 (fun c d=>a (c,d)) (b 0)⟩
def E8:Æ:=⟨6,[tI,ab,tI,ak,ab,ab],[tI,tI,ao],⟨81,.con tI::.box 1 0::.any::.box 4 0::.box 0 0::.box 5 0::aN 5 (.var tI::aN 36 [.con ab,.con tI,.var tI]),cR⟩,[(.exit 2,⟨81,.con tI::.box 1 0::.any::.box 4 0::.box 0 0::.box 5 0::aN 5 (.var tI::aN 36 [.con ab,.con tI]),cR⟩,[tI,ao])],false⟩
def qL (ρ:Type):Ø ρ:=⟨[4,1,10,9,10,9],117,2,E8,fun(p:Val aL) (v:Val aG) a b=>uP p.1 p.2.1 p.2.2.1 p.2.2.2.1 p.2.2.2.2.1 p.2.2.2.2.2 v.1 v.2.1 v.2.2 (fun c d e=>a (c,d,e)) (b 0)⟩
def NS:List (Nat×Ö):=[(52,jv)]
def KA (ρ:Type):List (Ø ρ):=[sI ρ,sH ρ,sF ρ,sw ρ,su ρ,sr ρ,sn ρ,sq ρ,sv ρ,qV ρ,qT ρ,qU ρ,sG ρ,qS ρ,qQ ρ,qP ρ,qN ρ,qO ρ,qR ρ,qM ρ,qK ρ,qL ρ]
def á (ρ:Type):Env ρ:=Ù NS (KA ρ)
def Wt:Ö:=⟨[Ä,tI,ab,ab],[Â,tI],fun(x:Val (.pair Ä bg))=>Cc x.1 x.2.1 x.2.2.1 x.2.2.2⟩
def AA:Æ:=⟨3,[ab,tI,tI,tI,ae,aa,af,ac,aa,ab,tI,tI],[tI],⟨19,.con ab::.fn 48 [(1,0)]::aN 5 [.con tI,.var tI],[bp,bt,bw]⟩,[(.ret,⟨19,[.con ab,.fn 48 [(1,0)],.any,.any,.var tI,.any,.any,.con tI],[bp,bt,bw]⟩,[tI]),(.exit 0,⟨19,.con ab::.fn 48 [(1,0)]::aN 5 [.con tI],[bp,bt,bw]⟩,[])],false⟩
def Az (ρ:Type):Ø ρ:=⟨[4,2,1,2],115,0,AA,fun(p:Val (tyL AA.cs)) (v:Val tI) b a=>me p.1 p.2.1 p.2.2.2.2.2.2.2.2.2.1 v (fun c=>b c) (a 0) (a 1)⟩
def Ay:Æ:=⟨4,[aa,tI,tI,tI,ae,aa,af,ac,aa,ab,tI,tI,am],[tI,tI,tI,ae,aa,af,ac,aa],⟨68,aN 2 (.box 4 0::aN 20 [.con aa,.con tI,.var tI]),cW⟩,[(.ret,⟨68,aN 2 (.box 4 0::.any::.nilp::.var tI::aN 17 [.con aa,.con tI]),cW⟩,[tI,tI,tI,ae,aa,af,ac,aa]),(.exit 0,⟨68,aN 2 (.box 4 0::aN 20 [.con aa,.con tI]),cW⟩,[tI,tI,ae,aa,af,ac,aa])],false⟩
def Ax (ρ:Type):Ø ρ:=⟨[7,6],41,0,Ay,fun(p:Val (tyL Ay.cs)) (v:Val aI) b a=>md p.1 p.2.1 v.1 v.2.1 v.2.2.1 v.2.2.2.1 v.2.2.2.2.1 v.2.2.2.2.2.1 v.2.2.2.2.2.2.1 v.2.2.2.2.2.2.2 (fun c d e f g h i j=>b (c,d,e,f,g,h,i,j)) (a 0) (a 1)⟩
def Aw:Æ:=⟨0,[tI,ab,ak,aa,tI,tI,tI,ae,aa,af,ac,aa,ab,tI,tI],[tI,ab],⟨143,.any::.con tI::.con ab::.any::.box 0 0::aN 2 (.box 1 0::.box 2 0::aN 3 (.con ak::.any::.own 3::.nils::aN 57 [.con aa,.con tI,.var tI])),[bp,bt,bw,.rowv tI]⟩,[(.exit 0,⟨143,.any::.con tI::.con ab::.any::.box 0 0::aN 2 (.box 1 0::.box 2 0::aN 3 (.con ak::.any::.own 3::.nils::aN 57 [.con aa,.con tI])),[bp,bt,bw,.rowv tI]⟩,[ab])],false⟩
def Au (ρ:Type):Ø ρ:=⟨[],11,0,Aw,fun(p:Val (tyL Aw.cs)) (v:Val au) a b=>ja p.2.2.1 p.2.2.2.1 p.2.2.2.2.1 v.1 v.2 (fun c d=>a (c,d)) (b 0)⟩
def As:Æ:=⟨0,[ab,ak,aa,tI,tI,tI,ae,aa,af,ac,aa,ab,tI,tI,ab],[tI,ab],⟨143,aN 2 (.con ab::.any::.box 0 0::aN 2 (.box 1 0::.box 2 0::aN 3 (.con ak::.any::.own 3::.own 4::aN 73 [.con aa,.con tI,.var tI]))),[bp,bt,bw,.rowc tI,.rowv tI]⟩,[(.exit 2,⟨143,aN 2 (.con ab::.any::.box 0 0::aN 2 (.box 1 0::.box 2 0::aN 3 (.con ak::.any::.own 3::.own 4::aN 73 [.con aa,.con tI]))),[bp,bt,bw,.rowc tI,.rowv tI]⟩,[ab])],false⟩
def Ar (ρ:Type):Ø ρ:=⟨[],11,2,As,fun(p:Val (tyL As.cs)) (v:Val au) a b=>pG p.2.1 p.2.2.1 p.2.2.2.1 v.1 v.2 (fun c d=>a (c,d)) (b 0)⟩
def ZR:List (Nat×Ö):=[(43,ś),(44,X6),(45,PA),(46,Pz),(49,iC),(50,jJ),(51,Gm),(53,jK),(54,po),(77,ŧ),(108,ŗ)]
def U2 (ρ:Type):List (Ø ρ):=[Az ρ,Ax ρ,Au ρ,Ar ρ]
def lz (ρ:Type):Env ρ:=Ù ZR (U2 ρ)
def Pu:Ö:=⟨[ab],[.bool],fun(x:Val ab)=>vF x⟩
def TV:Æ:=⟨0,[ab],[tI],⟨41,[.con ab,.any,.any,.var tI],[]⟩,[(.ret,⟨41,[.con ab,.any,.var .bool],[]⟩,[.bool]),(.exit 0,⟨41,[.con ab],[]⟩,[])],false⟩
def De (ρ:Type):Ø ρ:=⟨[],66,0,TV,fun(p:Val ab) (v:Val tI) b a=>sa p v (fun c=>b c) (a 0) (a 1)⟩
def ac4:List (Nat×Ö):=[]
def Yx (ρ:Type):List (Ø ρ):=[De ρ]
def Ew (ρ:Type):Env ρ:=Ù ac4 (Yx ρ)
def X2:Ö:=⟨[tI],[.bool],fun(x:Val tI)=>I7 x⟩
def agA:List (Nat×Ö):=[]
def ac5 (ρ:Type):List (Ø ρ):=[]
def WE (ρ:Type):Env ρ:=Ù agA (ac5 ρ)
def C6:Ö:=⟨[tI,ab],[aa,.bool],fun(x:Val au)=>nQ x.1 x.2⟩
def Ex:Æ:=⟨0,[ab,tI],[tI,aa],⟨23,[.con ab,.con tI,.any,.any,.any,.own 0,.var tI],cn⟩,[(.exit 0,⟨23,[.con ab,.con tI,.any,.any,.any,.own 0],cn⟩,[aa])],false⟩
def qB (ρ:Type):Ø ρ:=⟨[2,2],67,0,Ex,fun(p:Val aK) (v:Val aC) a b=>ő p.1 p.2 v.1 v.2 (fun c d=>a (c,d)) (b 0)⟩
def Kb:List (Nat×Ö):=[(66,Pu),(68,X2)]
def GI (ρ:Type):List (Ø ρ):=[qB ρ]
def oN (ρ:Type):Env ρ:=Ù Kb (GI ρ)
def aiI:Ö:=⟨[ab,tI],[.bool],fun(x:Val aK)=>O2 x.1 x.2⟩
def Ze:Æ:=⟨0,[ab,tI],[tI],⟨18,[.con ab,.con tI,.any,.any,.any,.var tI],[]⟩,[(.ret,⟨18,[.con ab,.con tI,.any,.any,.var .bool],[]⟩,[.bool]),(.exit 0,⟨18,[.con ab,.con tI],[]⟩,[])],false⟩
def GX (ρ:Type):Ø ρ:=⟨[],69,0,Ze,fun(p:Val aK) (v:Val tI) b a=>wB p.1 p.2 v (fun c=>b c) (a 0) (a 1)⟩
def agI:List (Nat×Ö):=[]
def ads (ρ:Type):List (Ø ρ):=[GX ρ]
def Ks (ρ:Type):Env ρ:=Ù agI (ads ρ)
def xQ:Ö:=⟨[tI,ab,ab],[aa,.bool],fun(x:Val bg)=>kR x.1 x.2.1 x.2.2⟩
def zx:Æ:=⟨0,[tI,ab,ab],[.bool,tI],⟨66,.con tI::.con ab::.con ab::aN 7 [.var .bool,.var tI],[]⟩,[(.exit 0,⟨66,.con tI::.con ab::.con ab::aN 7 [.var .bool],[]⟩,[.bool])],false⟩
def od (ρ:Type):Ø ρ:=⟨[],17,0,zx,fun(p:Val bg) (v:Val aP) a b=>ü p.2.1 p.2.2 v.1 v.2 (fun c d=>a (c,d)) (b 0)⟩
def zw:Æ:=⟨1,[ab,tI],[tI,aa],⟨23,[.con ab,.con tI,.any,.any,.any,.own 1,.var tI],[.dead,.rowv Â]⟩,[(.exit 0,⟨23,[.con ab,.con tI,.any,.any,.any,.own 1],[.dead,.rowv Â]⟩,[aa])],false⟩
def oc (ρ:Type):Ø ρ:=⟨[8,2],67,0,zw,fun(p:Val aK) (v:Val aC) a b=>ē p.1 p.2 v.1 v.2 (fun c d=>a (c,d)) (b 0)⟩
def zu:Æ:=⟨2,[ab,tI,aa],[tI,aa],⟨23,[.con ab,.con tI,.any,.any,.any,.own 2,.var tI],[.dead,.rowc Â,.rowv Â]⟩,[(.exit 0,⟨23,[.con ab,.con tI,.any,.any,.any,.own 2],[.dead,.rowc Â,.rowv Â]⟩,[aa])],false⟩
def ob (ρ:Type):Ø ρ:=⟨[8,5],67,0,zu,fun(p:Val (.pair ab aC)) (v:Val aC) a b=>Ē p.1 p.2.1 v.1 v.2 (fun c d=>a (c,d)) (b 0)⟩
def ED:List (Nat×Ö):=[(66,Pu),(68,X2),(69,aiI)]
def Cx (ρ:Type):List (Ø ρ):=[od ρ,oc ρ,ob ρ]
def ι (ρ:Type):Env ρ:=Ù ED (Cx ρ)
def nT:Ö:=⟨[Â,tI,tI],[.bool],fun(x:Val è)=>jT x.1 x.2.1 x.2.2⟩
def P3:List (Nat×Ö):=[]
def Ns (ρ:Type):List (Ø ρ):=[]
def Dh (ρ:Type):Env ρ:=Ù P3 (Ns ρ)
def J0:Ö:=⟨[tI,tI,tI],[.bool],fun(x:Val ć)=>ml x.1 x.2.1 x.2.2⟩
def akg:List (Nat×Ö):=[]
def agD (ρ:Type):List (Ø ρ):=[]
def adm (ρ:Type):Env ρ:=Ù akg (agD ρ)
def Gl:Ö:=⟨[tI],[.bool],fun(x:Val tI)=>xx x⟩
def agH:List (Nat×Ö):=[(132,J0)]
def adq (ρ:Type):List (Ø ρ):=[]
def WG (ρ:Type):Env ρ:=Ù agH (adq ρ)
def X4:Ö:=⟨[tI,tI],[tI],fun(x:Val Â)=>B9 x.1 x.2⟩
def Zp:Æ:=⟨0,[],[tI,tI],⟨14,[.var tI,.var tI],[]⟩,[(.exit 0,⟨14,[.var tI],[]⟩,[tI])],false⟩
def GZ (ρ:Type):Ø ρ:=⟨[],197,0,Zp,fun(p:Unit) (v:Val Â) a b=>wC v.1 v.2 (fun c d=>a (c,d)) (b 0)⟩
def agP:List (Nat×Ö):=[]
def adD (ρ:Type):List (Ø ρ):=[GZ ρ]
def Kv (ρ:Type):Env ρ:=Ù agP (adD ρ)
def X5:Ö:=⟨[tI],[tI],fun(x:Val tI)=>Je x⟩
def agR:List (Nat×Ö):=[]
def adI (ρ:Type):List (Ø ρ):=[]
def WM (ρ:Type):Env ρ:=Ù agR (adI ρ)
def Wo:Ö:=⟨[Â],[.bool],fun(x:Val Â)=>B7 x⟩
def Zk:List (Nat×Ö):=[(197,X4),(198,X5)]
def Ux (ρ:Type):List (Ø ρ):=[]
def Mx (ρ:Type):Env ρ:=Ù Zk (Ux ρ)
def Wj:Ö:=⟨[Ï],[.bool],fun(x:Val Ï)=>B5 x⟩
def YI:List (Nat×Ö):=[(56,nT),(62,Gl),(131,Wo),(132,J0)]
def T4 (ρ:Type):List (Ø ρ):=[]
def Mu (ρ:Type):Env ρ:=Ù YI (T4 ρ)
def za:Ö:=⟨[Ä,tI],[tI],fun(x:Val aM)=>rt x.1 x.2⟩
def Uo:Æ:=⟨0,[tI,tI,tI,ae,aa,af,ac,aa],[tI],⟨22,[.any,.con tI,.box 0 0,.any,.any,.var tI],[bp]⟩,[(.ret,⟨22,[.any,.con tI,.box 0 0,.any,.var tI],[bp]⟩,[tI]),(.exit 0,⟨22,[.any,.con tI,.box 0 0],[bp]⟩,[])],false⟩
def Dr (ρ:Type):Ø ρ:=⟨[],134,0,Uo,fun(p:Val aI) (v:Val tI) b a=>sm p.1 p.2.2.2.1 v (fun c=>b c) (a 0) (a 1)⟩
def adp:List (Nat×Ö):=[]
def Y8 (ρ:Type):List (Ø ρ):=[Dr ρ]
def EP (ρ:Type):Env ρ:=Ù adp (Y8 ρ)
def uz:Ö:=⟨[Ä,tI,tI],[tI],fun(x:Val aJ)=>nz x.1 x.2.1 x.2.2⟩
def YR:List (Nat×Ö):=[(134,za)]
def Ud (ρ:Type):List (Ø ρ):=[]
def Mv (ρ:Type):Env ρ:=Ù YR (Ud ρ)
def aco:Ö:=⟨[Ä],[tI],fun(x:Val Ä)=>I9 x⟩
def TX:Æ:=⟨0,[tI,tI,ae,aa,af,ac,aa],[tI],⟨37,[.any,.box 0 0,.any,.var tI],[bp]⟩,[(.ret,⟨37,[.any,.box 0 0,.var tI],[bp]⟩,[tI]),(.exit 0,⟨37,[.any,.box 0 0],[bp]⟩,[])],false⟩
def Dg (ρ:Type):Ø ρ:=⟨[],58,0,TX,fun(p:Val ai) (v:Val tI) b a=>let A:=p.2.2.2.2;sc p.1 p.2.1 p.2.2.1 p.2.2.2.1 A.1 A.2.1 A.2.2 v (fun c=>b c) (a 0) (a 1)⟩
def ac8:List (Nat×Ö):=[(62,Gl),(63,uz)]
def YC (ρ:Type):List (Ø ρ):=[Dg ρ]
def EE (ρ:Type):Env ρ:=Ù ac8 (YC ρ)
def Wh:Ö:=⟨[Ä],[tI],fun(x:Val Ä)=>B4 x⟩
def P5:Æ:=⟨0,[tI,tI,tI,ae,aa,af,ac,aa,tI,tI,tI,tI],[tI],⟨111,[.any,.box 0 0,.any,.con tI,.box 1 0,.any,.var tI],ca⟩,[(.ret,⟨111,[.any,.box 0 0,.var tI,.con tI,.box 1 0],ca⟩,[tI]),(.exit 2,⟨111,[.any,.box 0 0,.any,.con tI,.box 1 0],ca⟩,[])],false⟩
def zB (ρ:Type):Ø ρ:=⟨[],59,2,P5,fun(p:Val (.pair tI aA)) (v:Val tI) b a=>let A:=p.2.2.2.2.2;pu p.1 A.1 A.2.2.2.1 A.2.2.2.2.1 A.2.2.2.2.2.1 v (fun c=>b c) (a 0) (a 1)⟩
def P4:Æ:=⟨0,[tI,tI,tI,ae,aa,af,ac,aa,tI,tI,tI,tI],[tI],⟨111,[.any,.box 0 0,.any,.con tI,.box 1 0,.any,.any,.var tI],ca⟩,[(.ret,⟨111,[.any,.box 0 0,.var tI,.con tI,.box 1 0],ca⟩,[tI]),(.exit 4,⟨111,[.any,.box 0 0,.any,.con tI,.box 1 0],ca⟩,[])],false⟩
def zA (ρ:Type):Ø ρ:=⟨[],59,4,P4,fun(p:Val (.pair tI aA)) (v:Val tI) b a=>let A:=p.2.2.2.2;let B:=A.2.2.2.2;lX A.1 B.1 B.2.1 B.2.2.1 v (fun c=>b c) (a 0) (a 1)⟩
def P6:Æ:=⟨0,[tI,tI,ae,aa,af,ac,aa],[tI],⟨111,[.any,.box 0 0,.any,.var tI],[bp]⟩,[(.ret,⟨111,[.any,.box 0 0,.var tI],[bp]⟩,[tI]),(.exit 0,⟨111,[.any,.box 0 0],[bp]⟩,[])],false⟩
def zC (ρ:Type):Ø ρ:=⟨[],59,0,P6,fun(p:Val ai) (v:Val tI) b a=>let A:=p.2.2.2.2;pv p.1 p.2.1 p.2.2.1 p.2.2.2.1 A.1 A.2.1 A.2.2 v (fun c=>b c) (a 0) (a 1)⟩
def YG:List (Nat×Ö):=[(56,nT),(63,uz),(132,J0)]
def T0 (ρ:Type):List (Ø ρ):=[zB ρ,zA ρ,zC ρ]
def oe (ρ:Type):Env ρ:=Ù YG (T0 ρ)
def acs:Ö:=⟨[ab],[.bool],fun(x:Val ab)=>Bb x⟩
def Uf:Æ:=⟨0,[ab],[tI],⟨35,[.con ab,.any,.any,.var tI],[]⟩,[(.ret,⟨35,[.con ab,.any,.var .bool],[]⟩,[.bool]),(.exit 0,⟨35,[.con ab],[]⟩,[])],false⟩
def Dl (ρ:Type):Ø ρ:=⟨[],133,0,Uf,fun(p:Val ab) (v:Val tI) b a=>si p v (fun c=>b c) (a 0) (a 1)⟩
def adh:List (Nat×Ö):=[(132,J0)]
def YU (ρ:Type):List (Ø ρ):=[Dl ρ]
def EK (ρ:Type):Env ρ:=Ù adh (YU ρ)
def Wg:Ö:=⟨[Ì],[.bool],fun(x:Val Ì)=>B3 x⟩
def YE:List (Nat×Ö):=[(56,nT),(62,Gl),(132,J0),(133,acs)]
def TY (ρ:Type):List (Ø ρ):=[]
def Mr (ρ:Type):Env ρ:=Ù YE (TY ρ)
def Pw:Ö:=⟨[Ä,tI,tI],[Ŏ,.bool],fun(x:Val aJ)=>Bc x.1 x.2.1 x.2.2⟩
def Ui:Æ:=⟨0,[tI,tI,tI,tI,ae,aa,af,ac,aa],[tI,tI,tI,tI,tI],⟨42,[.any,.con tI,.con tI,.box 0 0,.any,.any,.box 1 0,.any,.var tI],[bp,bX]⟩,[(.ret,⟨42,[.any,.con tI,.con tI,.box 0 0,.any,.any,.box 1 0,.var .bool],[bp,bX]⟩,[.bool,tI,tI,tI,tI]),(.exit 0,⟨42,[.any,.con tI,.con tI,.box 0 0,.any,.any,.box 1 0],[bp,bX]⟩,[tI,tI,tI,tI])],false⟩
def Dp (ρ:Type):Ø ρ:=⟨[],135,0,Ui,fun(p:Val (.pair tI aI)) (v:Val bn) b a=>sk p.1 p.2.1 p.2.2.2.2.2.2.1 v.1 v.2.1 v.2.2.1 v.2.2.2.1 v.2.2.2.2 (fun c d e f g=>b (c,d,e,f,g)) (a 0) (a 1)⟩
def adk:List (Nat×Ö):=[]
def Y1 (ρ:Type):List (Ø ρ):=[Dp ρ]
def EM (ρ:Type):Env ρ:=Ù adk (Y1 ρ)
def aiH:Ö:=⟨[ab,tI],[.bool],fun(x:Val aK)=>O1 x.1 x.2⟩
def Y6:Æ:=⟨0,[ab,tI],[tI],⟨18,[.con ab,.con tI,.any,.any,.any,.var tI],[]⟩,[(.ret,⟨18,[.con ab,.con tI,.any,.any,.var .bool],[]⟩,[.bool]),(.exit 0,⟨18,[.con ab,.con tI],[]⟩,[])],false⟩
def GV (ρ:Type):Ø ρ:=⟨[],199,0,Y6,fun(p:Val aK) (v:Val tI) b a=>wA p.1 p.2 v (fun c=>b c) (a 0) (a 1)⟩
def agG:List (Nat×Ö):=[]
def adn (ρ:Type):List (Ø ρ):=[GV ρ]
def Kn (ρ:Type):Env ρ:=Ù agG (adn ρ)
def Px:Ö:=⟨[ab,ab],[ab],fun(x:Val aE)=>kF x.1 x.2⟩
def Uj:Æ:=⟨0,[ab,ab],[tI,ab],⟨28,[.con ab,.con ab,.any,.any,.any,.own 0,.var tI],[.rowv tI]⟩,[(.exit 0,⟨28,[.con ab,.con ab,.any,.any,.any,.own 0],[.rowv tI]⟩,[ab])],false⟩
def Dq (ρ:Type):Ø ρ:=⟨[],136,0,Uj,fun(p:Val aE) (v:Val au) a b=>sl p.1 p.2 v.1 v.2 (fun c d=>a (c,d)) (b 0)⟩
def adl:List (Nat×Ö):=[(199,aiH)]
def Y3 (ρ:Type):List (Ø ρ):=[Dq ρ]
def EN (ρ:Type):Env ρ:=Ù adl (Y3 ρ)
def Gk:Ö:=⟨[Ä,Ì],[tI],fun(x:Val aH)=>kg x.1 x.2⟩
def GP:Æ:=⟨0,[tI,tI,ae,aa,af,ac,aa,tI,tI,ab,ab,tI,tI,tI,tI,ab],[tI],⟨90,[.any,.any,.box 0 0,.box 1 0,.any,.own 2,.var tI],cd⟩,[(.ret,⟨90,[.any,.any,.box 0 0,.box 1 0,.var tI,.own 2],cd⟩,[tI]),(.exit 0,⟨90,[.any,.any,.box 0 0,.box 1 0,.any,.own 2],cd⟩,[])],false⟩
def sf (ρ:Type):Ø ρ:=⟨[],61,0,GP,fun(p:Val aB) (v:Val tI) b a=>let A:=p.2.2.2.2;kM p.1 p.2.1 p.2.2.1 p.2.2.2.1 A.1 A.2.1 A.2.2.1 A.2.2.2.2.2.2.2.2.2.2.2 v (fun c=>b c) (a 0) (a 1)⟩
def GO:Æ:=⟨0,[tI,tI,ae,aa,af,ac,aa,tI,tI,ab,ab,tI,tI,tI,tI,ab],[tI],⟨90,[.any,.any,.box 0 0,.box 1 0,.any,.own 2,.any,.var tI],cd⟩,[(.ret,⟨90,[.any,.any,.box 0 0,.box 1 0,.var tI,.own 2],cd⟩,[tI]),(.exit 2,⟨90,[.any,.any,.box 0 0,.box 1 0,.any,.own 2],cd⟩,[])],false⟩
def se (ρ:Type):Ø ρ:=⟨[],61,2,GO,fun(p:Val aB) (v:Val tI) b a=>let A:=p.2.2.2.2;jo p.1 p.2.1 p.2.2.1 p.2.2.2.1 A.1 A.2.1 A.2.2.1 A.2.2.2.2.1 A.2.2.2.2.2.2.2.2.2.2.2 v (fun c=>b c) (a 0) (a 1)⟩
def GN:Æ:=⟨0,[tI,tI,ae,aa,af,ac,aa,tI,tI,ab,ab,tI,tI,tI,tI,ab],[tI],⟨90,[.any,.any,.box 0 0,.box 1 0,.any,.own 2,.any,.any,.var tI],cd⟩,[(.ret,⟨90,[.any,.any,.box 0 0,.box 1 0,.var tI,.own 2],cd⟩,[tI]),(.exit 4,⟨90,[.any,.any,.box 0 0,.box 1 0,.any,.own 2],cd⟩,[])],false⟩
def sd (ρ:Type):Ø ρ:=⟨[],61,4,GN,fun(p:Val aB) (v:Val tI) b a=>let A:=p.2.2.2.2;Υ p.1 p.2.1 p.2.2.1 p.2.2.2.1 A.1 A.2.1 A.2.2.1 A.2.2.2.2.1 A.2.2.2.2.2.2.2.2.2.2.2 v (fun c=>b c) (a 0) (a 1)⟩
def Nx:List (Nat×Ö):=[(63,uz),(134,za),(135,Pw),(136,Px)]
def Ki (ρ:Type):List (Ø ρ):=[sf ρ,se ρ,sd ρ]
def jM (ρ:Type):Env ρ:=Ù Nx (Ki ρ)
def OI:Ö:=⟨[ab,ab],[tI],fun(x:Val aE)=>pN x.1 x.2⟩
def agB:List (Nat×Ö):=[(136,Px)]
def ac9 (ρ:Type):List (Ø ρ):=[]
def WF (ρ:Type):Env ρ:=Ù agB (ac9 ρ)
def acp:Ö:=⟨[Ä,Ï,tI],[.bool],fun(x:Val (.pair Ä (.pair Ï tI)))=>Ja x.1 x.2.1 x.2.2⟩
def T7:Æ:=⟨0,[tI,tI,tI,ae,aa,af,ac,aa,tI,tI,tI,tI,tI,tI,tI,tI],[tI],⟨76,[.any,.any,.con tI,.box 0 0,.box 1 0,.any,.any,.var tI],[bp,bq]⟩,[(.ret,⟨76,[.any,.any,.con tI,.box 0 0,.box 1 0,.any,.var .bool],[bp,bq]⟩,[.bool]),(.exit 0,⟨76,[.any,.any,.con tI,.box 0 0,.box 1 0],[bp,bq]⟩,[])],false⟩
def Dj (ρ:Type):Ø ρ:=⟨[],137,0,T7,fun(p:Val aD) (v:Val tI) b a=>sg p.1 p.2.2.2.2.2.2.1 p.2.2.2.2.2.2.2.2.1 v (fun c=>b c) (a 0) (a 1)⟩
def T6:Æ:=⟨0,[tI,tI,tI,ae,aa,af,ac,aa,tI,tI,tI,tI,tI,tI,tI,tI],[tI],⟨76,aN 2 (.con tI::.box 0 0::.box 1 0::aN 4 [.var tI]),[bp,bq]⟩,[(.ret,⟨76,[.any,.any,.con tI,.box 0 0,.box 1 0,.any,.var .bool],[bp,bq]⟩,[.bool]),(.exit 2,⟨76,[.any,.any,.con tI,.box 0 0,.box 1 0],[bp,bq]⟩,[])],false⟩
def Di (ρ:Type):Ø ρ:=⟨[],137,2,T6,fun(p:Val aD) (v:Val tI) b a=>og p.1 p.2.2.2.2.2.2.2.1 p.2.2.2.2.2.2.2.2.1 v (fun c=>b c) (a 0) (a 1)⟩
def adb:List (Nat×Ö):=[(139,OI)]
def YJ (ρ:Type):List (Ø ρ):=[Dj ρ,Di ρ]
def wx (ρ:Type):Env ρ:=Ù adb (YJ ρ)
def uA:Ö:=⟨[Ä],[aa],fun(x:Val Ä)=>kh x⟩
def Qk:Æ:=⟨0,[tI,tI,ae,aa,af,ac,aa],[tI,ab],⟨114,[.any,.box 0 0,.any,.own 1,.var tI],cX⟩,[(.exit 0,⟨114,[.any,.box 0 0,.any,.own 1],cX⟩,[ab])],false⟩
def zL (ρ:Type):Ø ρ:=⟨[],64,0,Qk,fun(p:Val ai) (v:Val au) a b=>pC p.2.2.1 v.1 v.2 (fun c d=>a (c,d)) (b 0)⟩
def Qj:Æ:=⟨0,[tI,tI,ae,aa,af,ac,aa],[tI,ab],⟨114,[.any,.box 0 0,.any,.own 1,.any,.var tI],cX⟩,[(.exit 2,⟨114,[.any,.box 0 0,.any,.own 1],cX⟩,[ab])],false⟩
def zK (ρ:Type):Ø ρ:=⟨[],64,2,Qj,fun(p:Val ai) (v:Val au) a b=>pB p.2.2.2.2.2.1 v.1 v.2 (fun c d=>a (c,d)) (b 0)⟩
def Qi:Æ:=⟨0,[tI,tI,ae,aa,af,ac,aa],[tI,ab],⟨114,[.any,.box 0 0,.any,.own 1,.any,.any,.var tI],cX⟩,[(.exit 4,⟨114,[.any,.box 0 0,.any,.own 1],cX⟩,[ab])],false⟩
def zJ (ρ:Type):Ø ρ:=⟨[],64,4,Qi,fun(p:Val ai) (v:Val au) a b=>pA p.2.2.2.2.2.2 v.1 v.2 (fun c d=>a (c,d)) (b 0)⟩
def zE:Æ:=⟨0,[tI,tI,tI,tI,ae,aa,af,ac,aa,ab,aa],[tI,tI],⟨114,[.any,.box 0 0,.any,.own 1,.any,.any,.any,.own 2,.con tI,.con tI,.var tI,.var tI],[bp,.rowc tI,.rowc Â]⟩,[(.exit 10,⟨114,[.any,.box 0 0,.any,.own 1,.any,.any,.any,.own 2,.con tI,.con tI,.var tI],[bp,.rowc tI,.rowc Â]⟩,[tI])],false⟩
def zD (ρ:Type):Ø ρ:=⟨[],64,10,zE,fun(p:Val (tyL zE.cs)) (v:Val Â) a b=>lY p.2.1 p.2.2.2.2.2.2.2.2.2.1 v.1 v.2 (fun c d=>a (c,d)) (b 0)⟩
def zG:Æ:=⟨0,[tI,tI,tI,ae,aa,af,ac,aa,ab],[tI,aa],⟨114,[.any,.box 0 0,.any,.own 1,.any,.any,.any,.own 2,.con tI,.var tI],cY⟩,[(.exit 8,⟨114,[.any,.box 0 0,.any,.own 1,.any,.any,.any,.own 2,.con tI],cY⟩,[aa])],false⟩
def zF (ρ:Type):Ø ρ:=⟨[],64,8,zG,fun(p:Val (tyL zG.cs)) (v:Val aC) a b=>let A:=p.2.2.2.2;lZ p.1 p.2.1 p.2.2.1 p.2.2.2.1 A.1 A.2.1 A.2.2.1 A.2.2.2.1 A.2.2.2.2 v.1 v.2 (fun c d=>a (c,d)) (b 0)⟩
def zI:Æ:=⟨0,[tI,tI,ae,aa,af,ac,aa,ab],[tI,aa],⟨114,[.any,.box 0 0,.any,.own 1,.any,.any,.any,.own 2,.var tI],cY⟩,[(.exit 6,⟨114,[.any,.box 0 0,.any,.own 1,.any,.any,.any,.own 2],cY⟩,[aa])],false⟩
def zH (ρ:Type):Ø ρ:=⟨[],64,6,zI,fun(p:Val (tyL zI.cs)) (v:Val aC) a b=>let A:=p.2.2.2.2;pw p.1 p.2.1 p.2.2.1 p.2.2.2.1 A.1 A.2.1 A.2.2.1 A.2.2.2 v.1 v.2 (fun c d=>a (c,d)) (b 0)⟩
def YW:List (Nat×Ö):=[(137,acp)]
def Ug (ρ:Type):List (Ø ρ):=[zL ρ,zK ρ,zJ ρ,zD ρ,zF ρ,zH ρ]
def iU (ρ:Type):Env ρ:=Ù YW (Ug ρ)
def BD:Ö:=⟨[Ä,Â],[tI],fun(x:Val aJ)=>ŕ x.1 x.2⟩
def Qt:Æ:=⟨0,[aa,tI,tI],[tI],⟨23,[.any,.any,.any,.box 0 0,.any,.con aa,.var tI],[bw]⟩,[(.ret,⟨23,[.any,.any,.any,.box 0 0,.var tI,.con aa],[bw]⟩,[tI]),(.exit 0,⟨23,[.any,.any,.any,.box 0 0,.any,.con aa],[bw]⟩,[])],false⟩
def zM (ρ:Type):Ø ρ:=⟨[],85,0,Qt,fun(p:Val bc) (v:Val tI) b a=>pD p.1 p.2.1 p.2.2 v (fun c=>b c) (a 0) (a 1)⟩
def Y5:List (Nat×Ö):=[(64,uA)]
def Uk (ρ:Type):List (Ø ρ):=[zM ρ]
def zN (ρ:Type):Env ρ:=Ù Y5 (Uk ρ)
def acq:Ö:=⟨[Ä,tI,tI],[.bool],fun(x:Val aJ)=>Jb x.1 x.2.1 x.2.2⟩
def T8:Æ:=⟨0,[tI,tI,tI,tI,ae,aa,af,ac,aa],[tI],⟨33,[.any,.con tI,.con tI,.box 0 0,.any,.any,.any,.var tI],[bp]⟩,[(.ret,⟨33,[.any,.con tI,.con tI,.box 0 0,.any,.any,.var .bool],[bp]⟩,[.bool]),(.exit 0,⟨33,[.any,.con tI,.con tI,.box 0 0],[bp]⟩,[])],false⟩
def Dk (ρ:Type):Ø ρ:=⟨[],200,0,T8,fun(p:Val (.pair tI aI)) (v:Val tI) b a=>sh p.1 p.2.1 p.2.2.2.2.2.1 v (fun c=>b c) (a 0) (a 1)⟩
def adc:List (Nat×Ö):=[]
def YL (ρ:Type):List (Ø ρ):=[Dk ρ]
def EI (ρ:Type):Env ρ:=Ù adc (YL ρ)
def act:Ö:=⟨[Ä,tI,tI,tI],[tI],fun(x:Val (.pair Ä ć))=>vI x.1 x.2.1 x.2.2.1 x.2.2.2⟩
def Dn:Æ:=⟨0,[tI,tI,tI,tI,tI,ae,aa,af,ac,aa],[tI,tI],⟨48,.any::.con tI::.any::.con tI::.box 0 0::aN 4 [.con tI,.var tI,.var tI],[bp]⟩,[(.exit 0,⟨48,.any::.con tI::.any::.con tI::.box 0 0::aN 4 [.con tI,.var tI],[bp]⟩,[tI])],false⟩
def Dm (ρ:Type):Ø ρ:=⟨[],138,0,Dn,fun(p:Val (tyL Dn.cs)) (v:Val Â) a b=>let A:=p.2.2.2.2;sj p.1 p.2.1 p.2.2.1 p.2.2.2.1 A.1 A.2.1 A.2.2.1 A.2.2.2.1 A.2.2.2.2.1 A.2.2.2.2.2 v.1 v.2 (fun c d=>a (c,d)) (b 0)⟩
def adi:List (Nat×Ö):=[(134,za),(135,Pw),(200,acq)]
def YX (ρ:Type):List (Ø ρ):=[Dm ρ]
def EL (ρ:Type):Env ρ:=Ù adi (YX ρ)
def Ei:Ö:=⟨[tI,tI],[ĵ],fun(x:Val Â)=>ru x.1 x.2⟩
def Uw:List (Nat×Ö):=[(197,X4),(198,X5)]
def QH (ρ:Type):List (Ø ρ):=[]
def GY (ρ:Type):Env ρ:=Ù Uw (QH ρ)
def aiM:Ö:=⟨[Â,Â],[ĵ],fun(x:Val è)=>aa7 x.1 x.2⟩
def agQ:List (Nat×Ö):=[(274,Ei)]
def adG (ρ:Type):List (Ø ρ):=[]
def WL (ρ:Type):Env ρ:=Ù agQ (adG ρ)
def aiK:Ö:=⟨[Â],[Â],fun(x:Val Â)=>aa6 x⟩
def agN:List (Nat×Ö):=[]
def adz (ρ:Type):List (Ø ρ):=[]
def WJ (ρ:Type):Env ρ:=Ù agN (adz ρ)
def aiJ:Ö:=⟨[Â,Â],[ĵ],fun(x:Val è)=>O3 x.1 x.2⟩
def agM:List (Nat×Ö):=[(254,aiM),(255,aiK)]
def adx (ρ:Type):List (Ø ρ):=[]
def WH (ρ:Type):Env ρ:=Ù agM (adx ρ)
end Go.Proofs.ZzM
end
