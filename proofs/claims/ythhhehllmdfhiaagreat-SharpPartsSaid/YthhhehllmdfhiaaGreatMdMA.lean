/- lemmas -/
import Derived.Test.YthhhehllmdfhiaaGreatAmE
import Derived.KernelRfl
import Derived.Test.YthhhehllmdfhiaaGreatMdTA
import Derived.Test.YthhhehllmdfhiaaGreatProg
set_option linter.all false
set_option linter.unusedSectionVars false
set_option linter.unusedVariables false
set_option linter.unusedSimpArgs false
noncomputable section
set_option maxRecDepth 100000
namespace Go.Proofs.ZzM
open Go Go.Am
def aEV:Nat→Bool
  |91=>true
  |140=>true
  |229=>true
  |230=>true
  |231=>true
  |232=>true
  |233=>true
  |_=>false
def aPR:Nat→Bool
  |127=>true
  |_=>false
def ao1:Nat→Bool
  |128=>true
  |_=>false
def isInl:Nat→Bool
  |2=>true
  |50=>true
  |66=>true
  |74=>true
  |84=>true
  |92=>true
  |93=>true
  |98=>true
  |100=>true
  |124=>true
  |131=>true
  |132=>true
  |136=>true
  |137=>true
  |139=>true
  |141=>true
  |147=>true
  |148=>true
  |149=>true
  |150=>true
  |151=>true
  |152=>true
  |153=>true
  |154=>true
  |155=>true
  |157=>true
  |158=>true
  |159=>true
  |160=>true
  |161=>true
  |165=>true
  |169=>true
  |170=>true
  |175=>true
  |176=>true
  |178=>true
  |193=>true
  |194=>true
  |195=>true
  |196=>true
  |199=>true
  |201=>true
  |202=>true
  |203=>true
  |204=>true
  |206=>true
  |207=>true
  |208=>true
  |209=>true
  |211=>true
  |212=>true
  |214=>true
  |215=>true
  |217=>true
  |218=>true
  |220=>true
  |221=>true
  |222=>true
  |242=>true
  |243=>true
  |244=>true
  |245=>true
  |246=>true
  |247=>true
  |249=>true
  |250=>true
  |253=>true
  |255=>true
  |257=>true
  |261=>true
  |269=>true
  |270=>true
  |272=>true
  |273=>true
  |275=>true
  |276=>true
  |279=>true
  |280=>true
  |286=>true
  |288=>true
  |289=>true
  |_=>false
def isFz:Nat→Bool
  |59=>true
  |79=>true
  |94=>true
  |_=>false
def isEat:Nat→Nat→Bool
  |41,8=>true
  |41,11=>true
  |49,4=>true
  |49,5=>true
  |50,67=>true
  |176,25=>true
  |202,0=>true
  |_,_=>false
def Ø {ρ:Type} (pt:List (Nat×Ö)) (tab:List (Þ ρ)):Env ρ :=
  {P:=Tryz.prog,eat:=isEat,clone:=aEV,sort:=aPR,compact:=ao1,inl:=isInl,fz:=isFz,pure:=aVc pt,loops:=ahy tab}
def aWS {ρ:Type} (pt:List (Nat×Ö)) (tab:List (Þ ρ)) (us:List aYy):Env ρ :=
  {P:=Tryz.prog,eat:=isEat,clone:=aEV,sort:=aPR,compact:=ao1,inl:=isInl,fz:=isFz,pure:=aVc pt,loops:=aPK (Ø pt tab) us}
abbrev ab8:adK:=.cells [.con tI,.con tI,.con f6,.con eI,.con l5,.con eW,.con eI]
abbrev ab9:adK:=.cells [.con tI,.con tI,.con tI,.con tI,.con tI,.con tI,.con tI,.con tI]
abbrev aca:adK:=.cells [.con tI,.con tI,.con tI,.con tI]
abbrev acb:adK:=.cells [.con m5]
abbrev acd:adK:=.cells [.con tI]
abbrev ace:adK:=.cells [.con tI,.con tI,.con m5,.con m5,.con tI,.con tI,.con tI,.con tI]
abbrev acf:adK:=.cells [.con tI,.con tI]
abbrev acg:adK:=.cells [.con tI,.con tI,.con f6,.con eI,.con l5,.con eW,.con eI,.con eI,.con tI,.own 3,.own 4]
abbrev ach:adK:=.cells [.con tI,.con tI,.con f6,.con eI,.con l5,.con eW,.con eI,.con eI,.con tI,.own 2,.own 3]
abbrev aci:adK:=.cells [.con tI,.con wi]
abbrev acj:adK:=.cells [.own 6]
abbrev ack:adK:=.cells [.con tI,.con tI,.nils,.nils,.nils,.nils,.nils]
abbrev acl:adK:=.cells [.con tI,.con tI,.own 9,.own 10,.own 11,.con eW,.own 12]
abbrev acm:adK:=.cells [.var tI,.var tI,.var f6,.var eI,.var l5,.var eW,.var eI]
abbrev acn:adK:=.cells [.con tI,.con tI,.own 11,.own 12,.own 13,.con eW,.own 14]
abbrev aco:adK:=.cells [.con tI,.con tI,.con f6,.con eI,.con l5,.con eW,.con eI,.con tI,.own 6]
abbrev acp:adK:=.cells [.omp 3]
abbrev acq:adK:=.cells [.con f6]
abbrev acr:adK:=.cells [.fn 147 []]
abbrev acs:adK:=.cells [.con eI]
abbrev acu:adK:=.cells [.fn 148 [(2,0)]]
abbrev acv:adK:=.cells [.con l5]
abbrev acw:adK:=.cells [.fn 149 [(2,0)]]
abbrev acx:adK:=.cells [.con tI,.con tI,.con tI]
abbrev acy:adK:=.cells [.con tI,.con tI,.nils,.nils,.nils,.nils,.nils,.con tI,.con tI,.con .bool,.con tI,.nils]
abbrev acz:adK:=.cells [.var tI,.var tI,.var tI,.var tI]
abbrev acA:adK:=.cells [.nils,.nils]
abbrev acB:adK:=.cells [.own 3,.own 4]
abbrev acC:List adK:=[ab8]
abbrev acD:List adK:=[ab9,.rowv tI]
abbrev acE:List adK:=[ab8,aca]
abbrev acF:List adK:=[ab8,ace,.rowc tI]
abbrev acG:List adK:=[ab8,ab9]
abbrev acH:List adK:=[ab8,ach,.rowv ÿ,.rowv Ã]
abbrev acI:List adK:=[aci,.rowc tI,aci,acj,.rowv .bool,.rowc tI,.rowv tI]
abbrev acJ:List adK:=[aci,.rowv tI,aci,acj,.rowv .bool,.rowc tI,.rowv tI]
abbrev acK:List adK:=[aci,.rowv tI,aci,acj,.rowv .bool,.rowv tI,.rowv tI]
abbrev acL:List adK:=[ab8,acf,ack,ab8,ack,.dead,acl,ack,.rowv Ê,.rowc Ð,.rowc Ã,.rowc Ł,.rowc Ã]
abbrev acM:List adK:=[ab8,acf,acf,.rowc Ã,acm]
abbrev acN:List adK:=[ab8,acf,acf,acf,.rowc Ã,acm]
abbrev acO:List adK:=[ab8,ace,ack,.dead,.dead,ab8,ack,.dead,acn,ack,.rowv Ê,.rowc Ð,.rowc Ã,.rowc Ł,.rowc Ã]
abbrev acP:List adK:=[ab8,acf,ace,.rowc Ã,acm]
abbrev acQ:List adK:=[ab8,ab8,acp,.mapc tI .bool,ace,ace]
abbrev acR:List adK:=[ab8,ab8,acp,.mapc tI .bool,ace]
abbrev acS:List adK:=[ab8,ab8,acp,.mapc tI .bool]
abbrev acT:List adK:=[ab8,ab8,acp,.mapc tI .bool,acq,acr]
abbrev acU:List adK:=[ab8,ab8,acp,.mapc tI .bool,acq,acr,acs,acu]
abbrev acV:List adK:=[ab8,ab8,acp,.mapc tI .bool,acq,acr,acs,acu,acs,acu]
abbrev acW:List adK:=[ab8,ab8,acp,.mapc tI .bool,acq,acr,acs,acu,acs,acu,acv,acw]
abbrev acX:List adK:=[ab8,ab8,acp,.mapc tI .bool,acq,acr,acs,acu,acs,acu,acv,acw,acv,acw]
abbrev acY:List adK:=[.rowc m5,aci,.dead,.dead,.rowv tI]
abbrev acZ:List adK:=[aci,.rowc abr,acx,aci,.rowv tI]
abbrev ac0:List adK:=[aci,.rowc abr]
abbrev ac1:List adK:=[ab8,acf,acf,ace,.rowc Ã,acm]
abbrev ac2:List adK:=[ab8,acf,acf,ace,.rowc Ã,ab8,aci,.dead,ab9,.rowf m5 0,.rowf m5 0,.rowf m5 0]
abbrev ac3:List adK:=[aci,acd,acd,aci,.rowv tI]
abbrev ac4:List adK:=[ab8,.dead,.dead,acy,.rowc Ã,acm]
abbrev ac5:List adK:=[ab8,.dead,.dead,acy,.rowc Ã,ab8,aci,.dead,.rowf Ã 0,ab8,ab8]
abbrev ac6:List adK:=[ab8,.rowv tI]
abbrev ac7:List adK:=[ab8,.rowc tI,.rowv Ã]
abbrev ac8:List adK:=[ab8,acA,acB,.rowv ÿ,.rowv Ã]
abbrev ac9:List adK:=[ab8,ab8,ab8]
abbrev ada:List adK:=[ab8,ab8]
end Go.Proofs.ZzM
end

noncomputable section
set_option maxRecDepth 100000
namespace Go.Proofs.ZzM
open Go Go.Am
def asf:Ö:=⟨[Ä],[abu],fun(x:Val Ä)=>Μ x⟩
def aA2:È:={pin:=0,cs:=[f6,tI],vs:=[tI,abu],head:=⟨20,aN 3 (.omp 0::aN 4 [.con f6,.con tI,.var tI]),[.mapv tI Ð]⟩,exits:=[(.exit 0,⟨20,aN 3 (.omp 0::aN 4 [.con f6,.con tI]),[.mapv tI Ð]⟩,[abu])]}
def anf (ρ:Type):Þ ρ:=⟨[],53,0,aA2,fun(p:Val (.pair f6 tI)) (v:Val (.pair tI abu)) a b=>ags p.1 p.2 v.1 v.2 (fun c d=>a (c,d)) (b 0)⟩
def aHx:List (Nat×Ö):=[]
def aoI (ρ:Type):List (Þ ρ):=[anf ρ]
def al4 (ρ:Type):Env ρ:=Ø aHx (aoI ρ)
def akx:Ö:=⟨[Ã,tI,tI],[.bool],fun(x:Val å)=>Ž x.1 x.2.1 x.2.2⟩
def aMa:List (Nat×Ö):=[]
def arM (ρ:Type):List (Þ ρ):=[]
def azT (ρ:Type):Env ρ:=Ø aMa (arM ρ)
def ae2:Ö:=⟨[tI,tI,tI],[.bool],fun(x:Val ÿ)=>ę x.1 x.2.1 x.2.2⟩
def aLT:List (Nat×Ö):=[]
def arF (ρ:Type):List (Þ ρ):=[]
def azO (ρ:Type):Env ρ:=Ø aLT (arF ρ)
def atT:Ö:=⟨[tI],[.bool],fun(x:Val tI)=>agV x⟩
def aPC:List (Nat×Ö):=[(126,ae2)]
def avP (ρ:Type):List (Þ ρ):=[]
def aEH (ρ:Type):Env ρ:=Ø aPC (avP ρ)
def aJ2:Ö:=⟨[tI],[(.int .u64)],fun(x:Val tI)=>ajK x⟩
def aRS:List (Nat×Ö):=[]
def azJ (ρ:Type):List (Þ ρ):=[]
def aIY (ρ:Type):Env ρ:=Ø aRS (azJ ρ)
def aRg:Ö:=⟨[(.int .u64),(.int .u64)],[(.int .u64)],fun(x:Val ab4)=>aFf x.1 x.2⟩
def aPm:È:={pin:=0,cs:=[],vs:=[(.int .u64),(.int .u64)],head:=⟨12,[.var (.int .u64),.var (.int .u64)],[]⟩,exits:=[(.exit 0,⟨12,[.var (.int .u64)],[]⟩,[(.int .u64)])]}
def azK (ρ:Type):Þ ρ:=⟨[],260,0,aPm,fun(p:Unit) (v:Val ab4) a b=>apL v.1 v.2 (fun c d=>a (c,d)) (b 0)⟩
def aUY:List (Nat×Ö):=[]
def aEk (ρ:Type):List (Þ ρ):=[azK ρ]
def aEl (ρ:Type):Env ρ:=Ø aUY (aEk ρ)
def atN:Ö:=⟨[Ã],[.bool],fun(x:Val Ã)=>alj x⟩
def aPp:List (Nat×Ö):=[(259,aJ2),(260,aRg)]
def avz (ρ:Type):List (Þ ρ):=[]
def aEo (ρ:Type):Env ρ:=Ø aPp (avz ρ)
def aCm:Ö:=⟨[Ð],[.bool],fun(x:Val Ð)=>amD x⟩
def aHJ:List (Nat×Ö):=[(82,akx),(125,atT),(126,ae2),(219,atN)]
def aoP (ρ:Type):List (Þ ρ):=[]
def avO (ρ:Type):Env ρ:=Ø aHJ (aoP ρ)
def anK:Ö:=⟨[Ä],[tI],fun(x:Val Ä)=>ů x⟩
def aqu:È:={pin:=0,cs:=[f6,tI,tI,tI,f6,eI,l5,eW,eI],vs:=[tI],head:=⟨31,.any::.box 0 0::aN 4 [.con f6,.con tI,.var tI],acC⟩,exits:=[(.ret,⟨31,[.any,.box 0 0,.var tI,.any,.any,.any,.con f6,.con tI],acC⟩,[tI]),(.exit 0,⟨31,.any::.box 0 0::aN 4 [.con f6,.con tI],acC⟩,[])]}
def ahd (ρ:Type):Þ ρ:=⟨[],83,0,aqu,fun(p:Val (.pair f6 abD)) (v:Val tI) b a=>adR p.1 p.2.1 p.2.2.2.2.1 v (fun c=>b c) (a 0) (a 1)⟩
def avV:List (Nat×Ö):=[(162,aCm)]
def aim (ρ:Type):List (Þ ρ):=[ahd ρ]
def af9 (ρ:Type):Env ρ:=Ø avV (aim ρ)
def aks:Ö:=⟨[m5,tI],[tI],fun(x:Val abI)=>aeg x.1 x.2⟩
def anm:È:={pin:=0,cs:=[m5,tI,tI],vs:=[tI],head:=⟨19,.con m5::.con tI::aN 5 [.con tI,.var tI],[]⟩,exits:=[(.ret,⟨19,[.con m5,.con tI,.any,.any,.var tI,.any,.any,.con tI],[]⟩,[tI]),(.exit 0,⟨19,.con m5::.con tI::aN 5 [.con tI],[]⟩,[])]}
def afP (ρ:Type):Þ ρ:=⟨[],73,0,anm,fun(p:Val (.pair m5 Ã)) (v:Val tI) b a=>Ω p.1 p.2.1 p.2.2 v (fun c=>b c) (a 0) (a 1)⟩
def aqm:List (Nat×Ö):=[]
def agB (ρ:Type):List (Þ ρ):=[afP ρ]
def aeS (ρ:Type):Env ρ:=Ø aqm (agB ρ)
def aep:Ö:=⟨[m5,tI],[.bool],fun(x:Val abI)=>ġ x.1 x.2⟩
def alA:List (Nat×Ö):=[(73,aks)]
def ae4 (ρ:Type):List (Þ ρ):=[]
def afQ (ρ:Type):Env ρ:=Ø alA (ae4 ρ)
def aJ6:Ö:=⟨[Ä,Ð],[m5],fun(x:Val (.pair Ä Ð))=>ahE x.1 x.2⟩
def aMe:È:={pin:=0,cs:=[eW,tI,tI,tI,f6,eI,l5,eW,eI,tI,tI,tI,tI,tI,tI,tI,tI],vs:=[tI,m5],head:=⟨59,aN 2 (.box 0 0::.box 1 0::.any::.own 2::aN 8 [.con eW,.con tI,.var tI]),[ab8,ab9,.rowv tI]⟩,exits:=[(.exit 0,⟨59,aN 2 (.box 0 0::.box 1 0::.any::.own 2::aN 8 [.con eW,.con tI]),[ab8,ab9,.rowv tI]⟩,[m5])]}
def avS (ρ:Type):Þ ρ:=⟨[],168,0,aMe,fun(p:Val (.pair eW (.pair tI abB))) (v:Val abz) a b=>amf p.1 p.2.1 p.2.2.2.2.2.2.2.2.2.1 v.1 v.2 (fun c d=>a (c,d)) (b 0)⟩
def aMd:È:={pin:=0,cs:=[eI,tI,tI,tI,tI,tI,tI,tI,tI,tI],vs:=[tI,m5],head:=⟨59,aN 3 (.box 0 0::.any::.own 1::aN 32 [.con eI,.con tI,.var tI]),acD⟩,exits:=[(.exit 2,⟨59,aN 3 (.box 0 0::.any::.own 1::aN 32 [.con eI,.con tI]),acD⟩,[m5])]}
def avR (ρ:Type):Þ ρ:=⟨[],168,2,aMd,fun(p:Val (.pair eI (.pair tI abt))) (v:Val abz) a b=>ame p.1 p.2.1 p.2.2.1 v.1 v.2 (fun c d=>a (c,d)) (b 0)⟩
def aR6:List (Nat×Ö):=[(65,aep)]
def azV (ρ:Type):List (Þ ρ):=[avS ρ,avR ρ]
def apO (ρ:Type):Env ρ:=Ø aR6 (azV ρ)
def atS:Ö:=⟨[Ä],[eI],fun(x:Val Ä)=>aiF x⟩
def aHz:È:={pin:=0,cs:=[f6,tI,tI,m5,tI,tI,tI,f6,eI,l5,eW,eI,tI,tI,tI,tI,tI,tI,tI,tI],vs:=[tI,eI],head:=⟨33,.any::.box 0 0::.any::.own 1::.any::.box 2 0::aN 3 (.con f6::.con tI::.con tI::aN 5 [.con m5,.con tI,.var tI]),[ab8,.rowv Ã,ab9]⟩,exits:=[(.exit 2,⟨33,.any::.box 0 0::.any::.own 1::.any::.box 2 0::aN 3 (.con f6::.con tI::.con tI::aN 5 [.con m5,.con tI]),[ab8,.rowv Ã,ab9]⟩,[eI])]}
def arG (ρ:Type):Þ ρ:=⟨[],85,2,aHz,fun(p:Val (.pair f6 (.pair tI (.pair tI (.pair m5 (.pair tI abB)))))) (v:Val abG) a b=>ajC p.2.2.2.1 p.2.2.2.2.1 p.2.2.2.2.2.2.2.2.2.2.2.2.1 v.1 v.2 (fun c d=>a (c,d)) (b 0)⟩
def aHA:È:={pin:=0,cs:=[f6,tI,tI,tI,f6,eI,l5,eW,eI],vs:=[tI,eI],head:=⟨33,.any::.box 0 0::.any::.own 1::aN 5 [.con f6,.con tI,.var tI],[ab8,.rowv Ã]⟩,exits:=[(.exit 0,⟨33,.any::.box 0 0::.any::.own 1::aN 5 [.con f6,.con tI],[ab8,.rowv Ã]⟩,[eI])]}
def arH (ρ:Type):Þ ρ:=⟨[],85,0,aHA,fun(p:Val (.pair f6 abD)) (v:Val abG) a b=>let A:=p.2.2.2.2;ajD p.1 p.2.1 p.2.2.1 p.2.2.2.1 A.1 A.2.1 A.2.2.1 A.2.2.2.1 A.2.2.2.2 v.1 v.2 (fun c d=>a (c,d)) (b 0)⟩
def aPy:List (Nat×Ö):=[(168,aJ6)]
def avG (ρ:Type):List (Þ ρ):=[arG ρ,arH ρ]
def al7 (ρ:Type):Env ρ:=Ø aPy (avG ρ)
def agm:Ö:=⟨[abu,tI,tI],[tI],fun(x:Val (.pair abu Ã))=>adH x.1 x.2.1 x.2.2⟩
def ax6:List (Nat×Ö):=[]
def ajB (ρ:Type):List (Þ ρ):=[]
def ang (ρ:Type):Env ρ:=Ø ax6 (ajB ρ)
def aRi:Ö:=⟨[tI,tI,(.ptr abu)],[tI],fun(x:Val (.pair tI (.pair tI (.ptr abu))))=>ĸ x.1 x.2.1 x.2.2⟩
def aHy:List (Nat×Ö):=[(125,atT),(164,agm)]
def aoL (ρ:Type):List (Þ ρ):=[]
def avF (ρ:Type):Env ρ:=Ø aHy (aoL ρ)
def aJ7:Ö:=⟨[Ä,abu,tI],[tI],fun(x:Val ab6)=>Γ x.1 x.2.1 x.2.2⟩
def avU:È:={pin:=2,cs:=[l5,tI,tI,tI,f6,eI,l5,eW,eI,tI,tI,tI,tI],vs:=[tI],head:=⟨19,.con l5::.fn 220 [(1,0)]::aN 5 [.con tI,.var tI],acE⟩,exits:=[(.ret,⟨19,[.con l5,.fn 220 [(1,0)],.any,.any,.var tI,.any,.any,.con tI],acE⟩,[tI]),(.exit 0,⟨19,.con l5::.fn 220 [(1,0)]::aN 5 [.con tI],acE⟩,[])]}
def ajF (ρ:Type):Þ ρ:=⟨[9,5,1,2],257,0,avU,fun(p:Val (.pair l5 abE)) (v:Val tI) b a=>let A:=p.2.2.2.2.2.2.2.2.2;aeK p.1 p.2.1 A.1 A.2.1 A.2.2.1 v (fun c=>b c) (a 0) (a 1)⟩
def avT:È:={pin:=2,cs:=[eI,tI,tI,tI,f6,eI,l5,eW,eI,tI,tI,tI,tI],vs:=[tI],head:=⟨19,.con eI::.fn 221 [(1,0)]::aN 5 [.con tI,.var tI],acE⟩,exits:=[(.ret,⟨19,[.con eI,.fn 221 [(1,0)],.any,.any,.var tI,.any,.any,.con tI],acE⟩,[tI]),(.exit 0,⟨19,.con eI::.fn 221 [(1,0)]::aN 5 [.con tI],acE⟩,[])]}
def ajE (ρ:Type):Þ ρ:=⟨[9,10,1,2],255,0,avT,fun(p:Val (.pair eI abE)) (v:Val tI) b a=>let A:=p.2.2.2.2.2.2.2.2.2;Ż p.1 p.2.1 A.1 A.2.1 A.2.2.1 v (fun c=>b c) (a 0) (a 1)⟩
def aA7:List (Nat×Ö):=[(82,akx),(126,ae2),(164,agm)]
def ak4 (ρ:Type):List (Þ ρ):=[ajF ρ,ajE ρ]
def afv (ρ:Type):Env ρ:=Ø aA7 (ak4 ρ)
def apD:Ö:=⟨[m5,m5],[m5],fun(x:Val abM)=>ŝ x.1 x.2⟩
def aL6:È:={pin:=2,cs:=[tI,m5,m5],vs:=[tI],head:=⟨19,.own 1::.fn 170 [(0,0)]::aN 5 [.con tI,.var tI],[acb,.rowc tI]⟩,exits:=[(.ret,⟨19,[.own 1,.fn 170 [(0,0)],.any,.any,.var tI,.any,.any,.con tI],[acb,.rowc tI]⟩,[tI]),(.exit 0,⟨19,.own 1::.fn 170 [(0,0)]::aN 5 [.con tI],[acb,.rowc tI]⟩,[])]}
def avN (ρ:Type):Þ ρ:=⟨[1,3,1,2],178,0,aL6,fun(p:Val (.pair tI abM)) (v:Val tI) b a=>amd p.1 p.2.1 p.2.2 v (fun c=>b c) (a 0) (a 1)⟩
def aL5:È:={pin:=2,cs:=[m5],vs:=[tI,tI,m5],head:=⟨42,[.own 1,.fn 170 [(0,0)],.any,.any,.any,.var tI,.var tI],[acb,.rowv tI]⟩,exits:=[(.exit 0,⟨42,[.own 1,.fn 170 [(0,0)],.any,.any,.any,.var tI],[acb,.rowv tI]⟩,[tI,m5])]}
def avM (ρ:Type):Þ ρ:=⟨[1,3],169,0,aL5,fun(p:Val m5) (v:Val (.pair tI abz)) a b=>aeY p v.1 v.2.1 v.2.2 (fun c d e=>a (c,d,e)) (b 0)⟩
def aR5:List (Nat×Ö):=[(65,aep)]
def azS (ρ:Type):List (Þ ρ):=[avN ρ,avM ρ]
def apN (ρ:Type):Env ρ:=Ø aR5 (azS ρ)
def Ŏ:Ö:=⟨[abr],[m5],fun(x:Val abr)=>é x⟩
def alC:È:={pin:=0,cs:=[abr,abr,tI],vs:=[tI,tI],head:=⟨36,.con abr::aN 2 (.var tI::aN 5 [.con abr,.con tI,.var tI]),[]⟩,exits:=[(.exit 0,⟨36,.con abr::aN 2 (.var tI::aN 5 [.con abr,.con tI]),[]⟩,[tI])]}
def afo (ρ:Type):Þ ρ:=⟨[],94,0,alC,fun(p:Val (.pair abr (.pair abr tI))) (v:Val Ã) a b=>Ī p.2.1 p.2.2 v.1 v.2 (fun c d=>a (c,d)) (b 0)⟩
def alB:È:={pin:=0,cs:=[abr,tI],vs:=[tI,m5],head:=⟨36,aN 6 (.own 0::aN 18 [.con abr,.con tI,.var tI]),[.rowv tI]⟩,exits:=[(.exit 2,⟨36,aN 6 (.own 0::aN 18 [.con abr,.con tI]),[.rowv tI]⟩,[m5])]}
def afn (ρ:Type):Þ ρ:=⟨[],94,2,alB,fun(p:Val (.pair abr tI)) (v:Val abz) a b=>í p.1 p.2 v.1 v.2 (fun c d=>a (c,d)) (b 0)⟩
def anQ:List (Nat×Ö):=[]
def afR (ρ:Type):List (Þ ρ):=[afo ρ,afn ρ]
def δ (ρ:Type):Env ρ:=Ø anQ (afR ρ)
def aw2:Ö:=⟨[m5],[.bool],fun(x:Val m5)=>agf x⟩
def aEF:È:={pin:=0,cs:=[m5,m5,tI],vs:=[tI],head:=⟨32,.con m5::aN 4 [.con m5,.con tI,.var tI],[]⟩,exits:=[(.ret,⟨32,[.con m5,.any,.var .bool,.any,.any,.con m5,.con tI],[]⟩,[.bool]),(.exit 0,⟨32,.con m5::aN 4 [.con m5,.con tI],[]⟩,[])]}
def aoN (ρ:Type):Þ ρ:=⟨[],198,0,aEF,fun(p:Val (.pair m5 abI)) (v:Val tI) b a=>ahx p.1 p.2.1 p.2.2 v (fun c=>b c) (a 0) (a 1)⟩
def aL8:List (Nat×Ö):=[(126,ae2)]
def arL (ρ:Type):List (Þ ρ):=[aoN ρ]
def aoO (ρ:Type):Env ρ:=Ø aL8 (arL ρ)
def aTw:Ö:=⟨[Ä,tI,tI],[Ł,.bool],fun(x:Val abH)=>ap9 x.1 x.2.1 x.2.2⟩
def aMg:È:={pin:=4,cs:=[l5,tI,tI,tI,f6,eI,l5,eW,eI,tI,tI,tI,tI,tI,tI],vs:=[tI],head:=⟨19,.con l5::.fn 261 [(1,0),(2,0)]::aN 5 [.con tI,.var tI],[ab8,acd,acd,aca]⟩,exits:=[(.ret,⟨19,[.con l5,.fn 261 [(1,0),(2,0)],.any,.any,.var tI,.any,.any,.con tI],[ab8,acd,acd,aca]⟩,[tI]),(.exit 0,⟨19,.con l5::.fn 261 [(1,0),(2,0)]::aN 5 [.con tI],[ab8,acd,acd,aca]⟩,[])]}
def avW (ρ:Type):Þ ρ:=⟨[1,3],257,0,aMg,fun(p:Val (.pair l5 (.pair tI (.pair tI (.pair tI (.pair f6 (.pair eI (.pair l5 (.pair eW (.pair eI (.pair tI ab7))))))))))) (v:Val tI) b a=>amh p.1 p.2.1 p.2.2.2.2.2.2.2.2.2.1 p.2.2.2.2.2.2.2.2.2.2.1 v (fun c=>b c) (a 0) (a 1)⟩
def aR7:List (Nat×Ö):=[(126,ae2)]
def azW (ρ:Type):List (Þ ρ):=[avW ρ]
def ayd (ρ:Type):Env ρ:=Ø aR7 (azW ρ)
def aAj:Ö:=⟨[Ä,abu,tI],[tI],fun(x:Val ab6)=>ĺ x.1 x.2.1 x.2.2⟩
def aoU:È:={pin:=2,cs:=[eW,tI,tI,tI,f6,eI,l5,eW,eI,tI,tI,m5,m5,tI,tI,tI,tI],vs:=[tI],head:=⟨19,.con eW::.fn 222 [(1,0)]::aN 5 [.con tI,.var tI],[ab8,ace]⟩,exits:=[(.ret,⟨19,[.con eW,.fn 222 [(1,0)],.any,.any,.var tI,.any,.any,.con tI],[ab8,ace]⟩,[tI]),(.exit 0,⟨19,.con eW::.fn 222 [(1,0)]::aN 5 [.con tI],[ab8,ace]⟩,[])]}
def agN (ρ:Type):Þ ρ:=⟨[4,5,1,2],207,0,aoU,fun(p:Val (.pair eW (.pair tI (.pair tI (.pair tI (.pair f6 (.pair eI (.pair l5 (.pair eW (.pair eI Ê)))))))))) (v:Val tI) b a=>adr p.1 p.2.1 p.2.2.2.2.2.2.2.2.2.1 v (fun c=>b c) (a 0) (a 1)⟩
def aoS:È:={pin:=0,cs:=[abu,m5,tI,tI,tI,m5,tI,tI,tI,f6,eI,l5,eW,eI,tI,tI,m5,m5,tI,tI,tI,tI,m5],vs:=[tI],head:=⟨140,.any::.con abu::.any::.box 0 0::aN 3 (.box 1 0::.con m5::.any::.con tI::aN 65 [.own 2,.con tI,.con tI,.any,.any,.any,.con m5,.con tI,.var tI]),acF⟩,exits:=[(.ret,⟨140,.any::.con abu::.any::.box 0 0::aN 2 (.var tI::.box 1 0::.con m5::.any::.con tI::aN 65 [.own 2,.con tI,.con tI,.any,.any,.any,.con m5,.con tI]),acF⟩,[tI]),(.exit 2,⟨140,.any::.con abu::.any::.box 0 0::aN 3 (.box 1 0::.con m5::.any::.con tI::aN 65 [.own 2,.con tI,.con tI,.any,.any,.any,.con m5,.con tI]),acF⟩,[])]}
def agL (ρ:Type):Þ ρ:=⟨[],167,2,aoS,fun(p:Val (.pair abu (.pair m5 (.pair tI (.pair tI (.pair tI (.pair m5 (.pair tI abv)))))))) (v:Val tI) b a=>let A:=p.2.2.2.2.2;adq p.1 p.2.2.1 A.1 A.2.1 A.2.2.2.2.2.2.2.2.2.2.1 v (fun c=>b c) (a 0) (a 1)⟩
def aoT:È:={pin:=0,cs:=[abu,m5,tI,tI,tI,f6,eI,l5,eW,eI,tI,tI,m5,m5,tI,tI,tI,tI,m5],vs:=[tI],head:=⟨140,.any::.con abu::.any::.box 0 0::aN 3 (.box 1 0::.con m5::aN 67 [.own 2,.con tI,.var tI]),acF⟩,exits:=[(.ret,⟨140,.any::.con abu::.any::.box 0 0::aN 2 (.var tI::.box 1 0::.con m5::aN 67 [.own 2,.con tI]),acF⟩,[tI]),(.exit 0,⟨140,.any::.con abu::.any::.box 0 0::aN 3 (.box 1 0::.con m5::aN 67 [.own 2,.con tI]),acF⟩,[])]}
def agM (ρ:Type):Þ ρ:=⟨[],167,0,aoT,fun(p:Val (.pair abu (.pair m5 (.pair tI abv)))) (v:Val tI) b a=>Ņ p.1 p.2.1 p.2.2.1 p.2.2.2.2.2.2.2.2.2.2.2.1 p.2.2.2.2.2.2.2.2.2.2.2.2.2.2.2.2.2.2 v (fun c=>b c) (a 0) (a 1)⟩
def aoR:È:={pin:=0,cs:=[m5,tI,tI,tI,f6,eI,l5,eW,eI,tI,tI,m5,m5,tI,tI,tI,tI],vs:=[tI],head:=⟨140,aN 3 (.box 0 0::aN 3 (.box 1 0::aN 90 [.con m5,.con tI,.var tI])),[ab8,ace]⟩,exits:=[(.ret,⟨140,aN 3 (.box 0 0::aN 2 (.var tI::.box 1 0::aN 90 [.con m5,.con tI])),[ab8,ace]⟩,[tI]),(.exit 4,⟨140,aN 3 (.box 0 0::aN 3 (.box 1 0::aN 90 [.con m5,.con tI])),[ab8,ace]⟩,[])]}
def agK (ρ:Type):Þ ρ:=⟨[],167,4,aoR,fun(p:Val (.pair m5 (.pair tI (.pair tI (.pair tI (.pair f6 (.pair eI (.pair l5 (.pair eW (.pair eI Ê)))))))))) (v:Val tI) b a=>let A:=p.2.2.2.2;ń p.1 p.2.1 p.2.2.1 p.2.2.2.1 A.1 A.2.1 A.2.2.1 A.2.2.2.1 A.2.2.2.2.1 A.2.2.2.2.2.2.1 v (fun c=>b c) (a 0) (a 1)⟩
def as5:List (Nat×Ö):=[(82,akx),(88,apD),(94,Ŏ),(125,atT),(126,ae2),(164,agm),(198,aw2),(223,aTw)]
def ahe (ρ:Type):List (Þ ρ):=[agN ρ,agL ρ,agM ρ,agK ρ]
def Ő (ρ:Type):Env ρ:=Ø as5 (ahe ρ)
def Ŋ:Ö:=⟨[Ä],[tI],fun(x:Val Ä)=>ö x⟩
def ah2:Ö:=⟨[Ä,eI,eI],[Ä],fun(x:Val (.pair Ä (.pair eI eI)))=>aFe x.1 x.2.1 x.2.2⟩
noncomputable def aO5:È:={pin:=8,cs:=[m5,tI,tI,tI,f6,eI,l5,eW,eI,tI,tI,abp,tI,tI],vs:=[tI,abp],head:=⟨34,.any::.any::.any::.box 2 0::aN 21 [.con m5,.con tI,.var tI],[.cells [.con tI,.con tI,.con f6,.con eI,.con l5,.con eW,.con eI],.cells [.con tI,.con tI,.nils,.nils,.nils,.nils,.nils],.cells [.omp 5],.cells [.omp 6],.cells [.nilfn,.fn 159 [(2,0),(0,0)],.fn 159 [(2,0),(0,0)],.fn 160 [(3,0),(0,0),(2,0)]],.mapv tI .bool,.mapc tI .bool,.cells [.con tI,.con tI]]⟩,exits:=[(.exit 0,⟨34,.any::.any::.any::.box 2 0::aN 21 [.con m5,.con tI],[.cells [.con tI,.con tI,.con f6,.con eI,.con l5,.con eW,.con eI],.cells [.con tI,.con tI,.nils,.nils,.nils,.nils,.nils],.cells [.omp 5],.cells [.omp 6],.cells [.nilfn,.fn 159 [(2,0),(0,0)],.fn 159 [(2,0),(0,0)],.fn 160 [(3,0),(0,0),(2,0)]],.mapv tI .bool,.mapc tI .bool,.cells [.con tI,.con tI]]⟩,[abp])]}
noncomputable def azx (ρ:Type):Þ ρ:=⟨[7,5],160,0,aO5,fun(p:Val (.pair m5 (.pair tI (.pair tI (.pair tI (.pair f6 (.pair eI (.pair l5 (.pair eW (.pair eI (.pair tI (.pair tI (.pair abp Ã))))))))))))) (v:Val (.pair tI abp)) kn kx=>akR p.1 p.2.1 v.1 v.2 (fun u0 u1=>kn (u0,u1)) (kx 0)⟩
noncomputable def aO6:È:={pin:=0,cs:=[eI,eI,tI,tI,tI,f6,eI,l5,eW,eI,tI,tI],vs:=[tI,abp,abp],head:=⟨130,.any::.any::.con eI::.box 0 0::.any::.any::.box 1 0::.box 2 0::.box 3 0::.any::.box 4 0::aN 19 [.con eI,.con tI,.var tI],[.cells [.con tI,.con tI,.con f6,.con eI,.con l5,.con eW,.con eI],.cells [.con tI,.con tI,.nils,.nils,.nils,.nils,.nils],.cells [.omp 5],.cells [.omp 6],.cells [.nilfn,.fn 159 [(2,0),(0,0)],.fn 159 [(2,0),(0,0)],.fn 160 [(3,0),(0,0),(2,0)]],.mapv tI .bool,.mapv tI .bool]⟩,exits:=[(.exit 0,⟨130,.any::.any::.con eI::.box 0 0::.any::.any::.box 1 0::.box 2 0::.box 3 0::.any::.box 4 0::aN 19 [.con eI,.con tI],[.cells [.con tI,.con tI,.con f6,.con eI,.con l5,.con eW,.con eI],.cells [.con tI,.con tI,.nils,.nils,.nils,.nils,.nils],.cells [.omp 5],.cells [.omp 6],.cells [.nilfn,.fn 159 [(2,0),(0,0)],.fn 159 [(2,0),(0,0)],.fn 160 [(3,0),(0,0),(2,0)]],.mapv tI .bool,.mapv tI .bool]⟩,[abp,abp])]}
noncomputable def azy (ρ:Type):Þ ρ:=⟨[],79,0,aO6,fun(p:Val (.pair eI (.pair eI (.pair tI (.pair tI (.pair tI (.pair f6 (.pair eI (.pair l5 (.pair eW ab1)))))))))) (v:Val (.pair tI (.pair abp abp))) kn kx=>apI p.2.1 p.2.2.1 p.2.2.2.2.2.1 p.2.2.2.2.2.2.2.2.1 v.1 v.2.1 v.2.2 (fun u0 u1 u2=>kn (u0,u1,u2)) (kx 0)⟩
noncomputable def aO4:È:={pin:=0,cs:=[eI,eI,tI,tI,tI,f6,eI,l5,eW,eI,tI,tI,abp],vs:=[tI,abp],head:=⟨130,.any::.any::.con eI::.box 0 0::.any::.any::.box 1 0::.box 2 0::.box 3 0::aN 34 [.con eI,.con tI,.var tI],[.cells [.con tI,.con tI,.con f6,.con eI,.con l5,.con eW,.con eI],.cells [.con tI,.con tI,.nils,.nils,.nils,.nils,.nils],.cells [.omp 4],.cells [.omp 5],.mapv tI .bool,.mapc tI .bool]⟩,exits:=[(.exit 2,⟨130,.any::.any::.con eI::.box 0 0::.any::.any::.box 1 0::.box 2 0::.box 3 0::aN 34 [.con eI,.con tI],[.cells [.con tI,.con tI,.con f6,.con eI,.con l5,.con eW,.con eI],.cells [.con tI,.con tI,.nils,.nils,.nils,.nils,.nils],.cells [.omp 4],.cells [.omp 5],.mapv tI .bool,.mapc tI .bool]⟩,[abp])]}
noncomputable def azw (ρ:Type):Þ ρ:=⟨[],79,2,aO4,fun(p:Val (.pair eI (.pair eI (.pair tI (.pair tI (.pair tI (.pair f6 (.pair eI (.pair l5 (.pair eW (.pair eI (.pair tI (.pair tI abp))))))))))))) (v:Val (.pair tI abp)) kn kx=>akQ p.2.1 p.2.2.1 v.1 v.2 (fun u0 u1=>kn (u0,u1)) (kx 0)⟩
noncomputable def aO3:È:={pin:=0,cs:=[eI,tI,tI,tI,f6,eI,l5,eW,eI,tI,tI,f6,eI,l5,eW,eI,tI,tI,eI,abp,abp,f6],vs:=[tI,eI],head:=⟨130,.any::.any::.any::.box 0 0::.any::.any::.box 1 0::.box 2 0::.box 3 0::aN 6 (.box 4 0::aN 52 [.con eI,.con tI,.var tI]),[.cells [.con tI,.con tI,.con f6,.con eI,.con l5,.con eW,.con eI],.cells [.con tI,.con tI,.con f6,.con eI,.con l5,.con eW,.con eI],.cells [.omp 5],.cells [.omp 6],.cells [.con tI,.con tI,.own 7,.own 8,.nils,.nils,.con eI],.mapc tI .bool,.mapc tI .bool,.rowc Ð,.rowv Ã]⟩,exits:=[(.exit 6,⟨130,.any::.any::.any::.box 0 0::.any::.any::.box 1 0::.box 2 0::.box 3 0::aN 6 (.box 4 0::aN 52 [.con eI,.con tI]),[.cells [.con tI,.con tI,.con f6,.con eI,.con l5,.con eW,.con eI],.cells [.con tI,.con tI,.con f6,.con eI,.con l5,.con eW,.con eI],.cells [.omp 5],.cells [.omp 6],.cells [.con tI,.con tI,.own 7,.own 8,.nils,.nils,.con eI],.mapc tI .bool,.mapc tI .bool,.rowc Ð,.rowv Ã]⟩,[eI])]}
noncomputable def ajp (ρ:Type):Þ ρ:=⟨[],79,6,aO3,fun(p:Val (.pair eI (.pair tI (.pair tI (.pair tI (.pair f6 (.pair eI (.pair l5 (.pair eW (.pair eI (.pair tI (.pair tI (.pair f6 (.pair eI (.pair l5 (.pair eW (.pair eI (.pair tI (.pair tI (.pair eI (.pair abp (.pair abp f6)))))))))))))))))))))) (v:Val abG) kn kx=>akP p.1 p.2.1 p.2.2.2.2.2.2.2.2.2.2.2.2.2.2.2.2.2.2.2.1 v.1 v.2 (fun u0 u1=>kn (u0,u1)) (kx 0)⟩
noncomputable def aO2:È:={pin:=0,cs:=[l5,tI,tI,tI,f6,eI,l5,eW,eI,tI,tI,f6,eI,l5,eW,eI,tI,tI,eI,abp,abp,f6,eI],vs:=[tI,l5],head:=⟨130,.any::.any::.any::.box 0 0::.any::.any::.box 1 0::.box 2 0::.box 3 0::aN 6 (.box 4 0::aN 70 [.con l5,.con tI,.var tI]),[.cells [.con tI,.con tI,.con f6,.con eI,.con l5,.con eW,.con eI],.cells [.con tI,.con tI,.con f6,.con eI,.con l5,.con eW,.con eI],.cells [.omp 5],.cells [.omp 6],.cells [.con tI,.con tI,.own 7,.own 8,.own 9,.nils,.con eI],.mapc tI .bool,.mapc tI .bool,.rowc Ð,.rowc Ã,.rowv Ł]⟩,exits:=[(.exit 8,⟨130,.any::.any::.any::.box 0 0::.any::.any::.box 1 0::.box 2 0::.box 3 0::aN 6 (.box 4 0::aN 70 [.con l5,.con tI]),[.cells [.con tI,.con tI,.con f6,.con eI,.con l5,.con eW,.con eI],.cells [.con tI,.con tI,.con f6,.con eI,.con l5,.con eW,.con eI],.cells [.omp 5],.cells [.omp 6],.cells [.con tI,.con tI,.own 7,.own 8,.own 9,.nils,.con eI],.mapc tI .bool,.mapc tI .bool,.rowc Ð,.rowc Ã,.rowv Ł]⟩,[l5])]}
noncomputable def ajo (ρ:Type):Þ ρ:=⟨[],79,8,aO2,fun(p:Val (.pair l5 (.pair tI (.pair tI (.pair tI (.pair f6 (.pair eI (.pair l5 (.pair eW (.pair eI (.pair tI (.pair tI (.pair f6 (.pair eI (.pair l5 (.pair eW (.pair eI (.pair tI (.pair tI (.pair eI (.pair abp (.pair abp (.pair f6 eI))))))))))))))))))))))) (v:Val (.pair tI l5)) kn kx=>akO p.1 p.2.1 p.2.2.2.2.2.2.2.2.2.2.2.2.2.2.2.2.2.2.2.1 v.1 v.2 (fun u0 u1=>kn (u0,u1)) (kx 0)⟩
noncomputable def aO1:È:={pin:=0,cs:=[eW,tI,tI,tI,f6,eI,l5,eW,eI,tI,tI,eI,abp,f6,eI,l5],vs:=[tI,eW],head:=⟨130,aN 6 (.box 0 0::.any::.box 1 0::aN 6 (.box 2 0::aN 88 [.con eW,.con tI,.var tI])),[.cells [.con tI,.con tI,.con f6,.con eI,.con l5,.con eW,.con eI],.cells [.omp 3],.cells [.con tI,.con tI,.own 4,.own 5,.own 6,.own 7,.con eI],.mapc tI .bool,.rowc Ð,.rowc Ã,.rowc Ł,.rowv Ê]⟩,exits:=[(.exit 10,⟨130,aN 6 (.box 0 0::.any::.box 1 0::aN 6 (.box 2 0::aN 88 [.con eW,.con tI])),[.cells [.con tI,.con tI,.con f6,.con eI,.con l5,.con eW,.con eI],.cells [.omp 3],.cells [.con tI,.con tI,.own 4,.own 5,.own 6,.own 7,.con eI],.mapc tI .bool,.rowc Ð,.rowc Ã,.rowc Ł,.rowv Ê]⟩,[eW])]}
noncomputable def ajn (ρ:Type):Þ ρ:=⟨[],79,10,aO1,fun(p:Val (.pair eW (.pair tI (.pair tI (.pair tI (.pair f6 (.pair eI (.pair l5 (.pair eW (.pair eI (.pair tI (.pair tI (.pair eI (.pair abp (.pair f6 (.pair eI l5)))))))))))))))) (v:Val (.pair tI eW)) kn kx=>akN p.1 p.2.1 p.2.2.2.2.2.2.2.2.2.2.2.2.1 v.1 v.2 (fun u0 u1=>kn (u0,u1)) (kx 0)⟩
noncomputable def axE:List (Nat×Ö):=[(94,Ŏ)]
noncomputable def asL (ρ:Type):List (Þ ρ):=[azx ρ,azy ρ,azw ρ,ajp ρ,ajo ρ,ajn ρ]
noncomputable def ŭ (ρ:Type):Env ρ:=Ø axE (asL ρ)
noncomputable def akM:Tpl:=⟨130,.any::.any::.any::.box 0 0::.any::.any::.box 1 0::.box 2 0::.box 3 0::aN 6 (.box 4 0::aN 43 [.fn 218 [(5,0),(6,0)]]),[.cells [.var tI,.var tI,.var f6,.var eI,.var l5,.var eW,.var eI],.cells [.var tI,.var tI,.var f6,.var eI,.var l5,.var eW,.var eI],.cells [.omp 7],.cells [.omp 8],.cells [.con tI,.con tI,.own 9,.nils,.nils,.nils,.con eI],.cells [.var tI,.var tI,.var f6,.var eI,.var l5,.var eW,.var eI],.cells [.omp 7],.mapv tI .bool,.mapv tI .bool,.rowv Ð]⟩
noncomputable def aDG:Tpl:=⟨130,.any::.any::.any::.box 0 0::.any::.any::.box 1 0::.box 2 0::.box 3 0::aN 6 (.box 4 0::.box 10 0::aN 42 [.fn 218 [(5,0),(6,0)]]),[.cells [.var tI,.var tI,.var f6,.var eI,.var l5,.var eW,.var eI],.cells [.var tI,.var tI,.var f6,.var eI,.var l5,.var eW,.var eI],.cells [.omp 7],.cells [.omp 8],.cells [.con tI,.con tI,.own 9,.nils,.nils,.nils,.con eI],.cells [.var tI,.var tI,.var f6,.var eI,.var l5,.var eW,.var eI],.cells [.omp 7],.mapv tI .bool,.mapv tI .bool,.rowv Ð,.cells [.var tI,.var tI,.var tI,.var tI,.var tI,.var tI,.var tI,.var tI]]⟩
noncomputable def ajl (ρ:Type):List (Þ ρ):=[ajp ρ,ajo ρ,ajn ρ]
noncomputable def Ę (ρ:Type):Env ρ:={Ø axE (ajl ρ) with inl:=fun _=>false}
noncomputable def aij:Tpl:=⟨130,aN 6 [.box 0 0],[.cells [.var tI,.var tI,.var f6,.var eI,.var l5,.var eW,.var eI]]⟩
abbrev aeb:List Ty:=[tI,tI,f6,eI,l5,eW,eI]
noncomputable def ae6 (y:Val Ä):Val nn:=(y.1.1,y.1.2,y.2.1,y.2.2.1,y.2.2.2.1,y.2.2.2.2.1,y.2.2.2.2.2)
noncomputable def Ĝ:Code:=(ajN Tryz.prog 79).getD .skip
abbrev adG:List Ty:=[tI,tI,eI]
abbrev af8:List Ty:=[tI,tI,f6,eI,l5,eW,eI,tI,tI,f6,eI,l5,eW,eI,tI,tI,f6,eI,l5,eW,eI,abp,abp,f6]
abbrev apH:List Ty:=[tI,tI,f6,eI,l5,eW,eI,tI,tI,f6,eI,l5,eW,eI,tI,tI,f6,eI,l5,eW,eI,abp,abp,f6,tI,tI,tI,tI,tI,tI,tI,tI]
abbrev î (v:Val abo):List (Val Ð):=v.2.2.2.2.2.2.2.2.2.2.2.2.2.2.2.2.1
abbrev ŏ (v:Val abo):List (Int×Bool):=v.2.2.2.2.2.2.2.2.2.2.2.2.2.2.2.2.2.2.2.2.2.1
abbrev alQ (v:Val abo):List (Val Ð):=v.2.2.2.2.2.2.2.2.2.2.2.2.2.2.2.2.2.2.2.2.2.2.2
noncomputable def ě (v:Val abo) (z:List (Val Ð)):Val abo:=(v.1,v.2.1,v.2.2.1,v.2.2.2.1,v.2.2.2.2.1,v.2.2.2.2.2.1,v.2.2.2.2.2.2.1,v.2.2.2.2.2.2.2.1,v.2.2.2.2.2.2.2.2.1,v.2.2.2.2.2.2.2.2.2.1,v.2.2.2.2.2.2.2.2.2.2.1,v.2.2.2.2.2.2.2.2.2.2.2.1,v.2.2.2.2.2.2.2.2.2.2.2.2.1,v.2.2.2.2.2.2.2.2.2.2.2.2.2.1,v.2.2.2.2.2.2.2.2.2.2.2.2.2.2.1,v.2.2.2.2.2.2.2.2.2.2.2.2.2.2.2.1,v.2.2.2.2.2.2.2.2.2.2.2.2.2.2.2.2.1,v.2.2.2.2.2.2.2.2.2.2.2.2.2.2.2.2.2.1,v.2.2.2.2.2.2.2.2.2.2.2.2.2.2.2.2.2.2.1,v.2.2.2.2.2.2.2.2.2.2.2.2.2.2.2.2.2.2.2.1,v.2.2.2.2.2.2.2.2.2.2.2.2.2.2.2.2.2.2.2.2.1,v.2.2.2.2.2.2.2.2.2.2.2.2.2.2.2.2.2.2.2.2.2.1,v.2.2.2.2.2.2.2.2.2.2.2.2.2.2.2.2.2.2.2.2.2.2.1,z)
noncomputable def asM (v:Val abo) (x:Val Ð):Val (.pair tI (.pair tI (.pair f6 (.pair eI (.pair l5 (.pair eW (.pair eI (.pair tI (.pair tI (.pair f6 (.pair eI (.pair l5 (.pair eW (.pair eI (.pair tI (.pair tI (.pair f6 (.pair eI (.pair l5 (.pair eW (.pair eI (.pair abp (.pair abp (.pair f6 abt)))))))))))))))))))))))):=(v.1,v.2.1,v.2.2.1,v.2.2.2.1,v.2.2.2.2.1,v.2.2.2.2.2.1,v.2.2.2.2.2.2.1,v.2.2.2.2.2.2.2.1,v.2.2.2.2.2.2.2.2.1,v.2.2.2.2.2.2.2.2.2.1,v.2.2.2.2.2.2.2.2.2.2.1,v.2.2.2.2.2.2.2.2.2.2.2.1,v.2.2.2.2.2.2.2.2.2.2.2.2.1,v.2.2.2.2.2.2.2.2.2.2.2.2.2.1,v.2.2.2.2.2.2.2.2.2.2.2.2.2.2.1,v.2.2.2.2.2.2.2.2.2.2.2.2.2.2.2.1,v.2.2.2.2.2.2.2.2.2.2.2.2.2.2.2.2.1,v.2.2.2.2.2.2.2.2.2.2.2.2.2.2.2.2.2.1,v.2.2.2.2.2.2.2.2.2.2.2.2.2.2.2.2.2.2.1,v.2.2.2.2.2.2.2.2.2.2.2.2.2.2.2.2.2.2.2.1,v.2.2.2.2.2.2.2.2.2.2.2.2.2.2.2.2.2.2.2.2.1,v.2.2.2.2.2.2.2.2.2.2.2.2.2.2.2.2.2.2.2.2.2.1,v.2.2.2.2.2.2.2.2.2.2.2.2.2.2.2.2.2.2.2.2.2.2.1,v.2.2.2.2.2.2.2.2.2.2.2.2.2.2.2.2.2.2.2.2.2.2.2,x.1,x.2.1,x.2.2.1,x.2.2.2.1.1,x.2.2.2.1.2,x.2.2.2.2.1.1,x.2.2.2.2.1.2,x.2.2.2.2.2)
end Go.Proofs.ZzM
end

noncomputable section
set_option maxRecDepth 100000
namespace Go.Proofs.ZzM
open Go Go.Am
def aIo:Ö:=⟨[Ê],[.bool],fun(x:Val Ê)=>apV x⟩
def aKm:List (Nat×Ö):=[]
def aqK (ρ:Type):List (Þ ρ):=[]
def ay7 (ρ:Type):Env ρ:=Ø aKm (aqK ρ)
def aTm:Ö:=⟨[Ä],[.bool],fun(x:Val Ä)=>apU x⟩
def aKk:È:={pin:=0,cs:=[tI,tI,f6,eI,l5,eW,eI],vs:=[tI],head:=⟨50,[.any,.box 0 0,.any,.var tI],acC⟩,exits:=[(.ret,⟨50,[.any,.box 0 0,.var .bool],acC⟩,[.bool]),(.exit 0,⟨50,[.any,.box 0 0],acC⟩,[])]}
def aub (ρ:Type):Þ ρ:=⟨[],13,0,aKk,fun(p:Val nn) (v:Val tI) b a=>aly p.2.2.2.2.2.1 v (fun c=>b c) (a 0) (a 1)⟩
def aRp:List (Nat×Ö):=[(29,aIo)]
def ay6 (ρ:Type):List (Þ ρ):=[aub ρ]
def aw7 (ρ:Type):Env ρ:=Ø aRp (ay6 ρ)
def aTv:Ö:=⟨[Ä,Ð,tI,tI],[tI],fun(x:Val (.pair Ä (.pair Ð Ã)))=>ap8 x.1 x.2.1 x.2.2.1 x.2.2.2⟩
def aL3:È:={pin:=0,cs:=[tI,tI,l5,tI,tI,tI,f6,eI,l5,eW,eI,tI,tI,tI,tI,tI,tI,tI,tI],vs:=[tI,tI],head:=⟨88,aN 2 (.con tI::.con tI::.box 0 0::.box 1 0::aN 3 (.var tI::aN 7 [.con l5,.con tI,.var tI])),acG⟩,exits:=[(.exit 0,⟨88,aN 2 (.con tI::.con tI::.box 0 0::.box 1 0::aN 3 (.var tI::aN 7 [.con l5,.con tI])),acG⟩,[tI])]}
def avL (ρ:Type):Þ ρ:=⟨[],54,0,aL3,fun(p:Val (.pair tI (.pair tI (.pair l5 (.pair tI abB))))) (v:Val Ã) a b=>amc p.1 p.2.1 p.2.2.1 p.2.2.2.1 p.2.2.2.2.2.2.2.2.2.2.2.1 v.1 v.2 (fun c d=>a (c,d)) (b 0)⟩
def aL2:È:={pin:=0,cs:=[tI,tI,tI,eI,tI,tI,tI,tI,tI,tI,tI,tI,tI],vs:=[tI,m5],head:=⟨88,aN 2 (.con tI::.con tI::.any::.box 0 0::aN 3 (.con tI::aN 3 (.own 1::aN 39 [.con eI,.con tI,.var tI]))),acD⟩,exits:=[(.exit 2,⟨88,aN 2 (.con tI::.con tI::.any::.box 0 0::aN 3 (.con tI::aN 3 (.own 1::aN 39 [.con eI,.con tI]))),acD⟩,[m5])]}
def avK (ρ:Type):Þ ρ:=⟨[],54,2,aL2,fun(p:Val (.pair tI (.pair tI (.pair tI (.pair eI (.pair tI abt)))))) (v:Val abz) a b=>amb p.1 p.2.1 p.2.2.2.1 p.2.2.2.2.1 p.2.2.2.2.2.1 v.1 v.2 (fun c d=>a (c,d)) (b 0)⟩
def aR4:List (Nat×Ö):=[(126,ae2)]
def azR (ρ:Type):List (Þ ρ):=[avL ρ,avK ρ]
def apM (ρ:Type):Env ρ:=Ø aR4 (azR ρ)
def ũ:Ö:=⟨[eI,Ã],[tI],fun(x:Val ab1)=>ø x.1 x.2⟩
def afJ:È:={pin:=0,cs:=[eI,tI,tI,tI],vs:=[tI],head:=⟨19,[.con eI,.any,.any,.box 0 0,.any,.any,.any,.con tI,.var tI],[acf]⟩,exits:=[(.ret,⟨19,[.con eI,.any,.any,.box 0 0,.var tI,.any,.any,.con tI],[acf]⟩,[tI]),(.exit 0,⟨19,[.con eI,.any,.any,.box 0 0,.any,.any,.any,.con tI],[acf]⟩,[])]}
def Τ (ρ:Type):Þ ρ:=⟨[],130,0,afJ,fun(p:Val (.pair eI ÿ)) (v:Val tI) b a=>Ģ p.1 p.2.1 p.2.2.1 p.2.2.2 v (fun c=>b c) (a 0) (a 1)⟩
def agD:List (Nat×Ö):=[]
def ι (ρ:Type):List (Þ ρ):=[Τ ρ]
def Ŕ (ρ:Type):Env ρ:=Ø agD (ι ρ)
def anJ:Ö:=⟨[abY,m5,tI],[tI],fun(x:Val (.pair abY abI))=>adk x.1 x.2.1 x.2.2⟩
def aEE:List (Nat×Ö):=[(130,ũ)]
def anh (ρ:Type):List (Þ ρ):=[]
def arJ (ρ:Type):Env ρ:=Ø aEE (anh ρ)
def amS:Ö:=⟨[abu,m5],[Ã],fun(x:Val (.pair abu m5))=>adF x.1 x.2⟩
def asZ:List (Nat×Ö):=[]
def ahc (ρ:Type):List (Þ ρ):=[]
def ajA (ρ:Type):Env ρ:=Ø asZ (ahc ρ)
def akw:Ö:=⟨[eI],[tI],fun(x:Val eI)=>aeC x⟩
def aHu:È:={pin:=0,cs:=[eI,tI],vs:=[tI],head:=⟨15,aN 5 [.con eI,.con tI,.var tI],[]⟩,exits:=[(.ret,⟨15,[.any,.any,.var tI,.any,.any,.con eI,.con tI],[]⟩,[tI]),(.exit 0,⟨15,aN 5 [.con eI,.con tI],[]⟩,[])]}
def arE (ρ:Type):Þ ρ:=⟨[],227,0,aHu,fun(p:Val (.pair eI tI)) (v:Val tI) b a=>ajy p.1 p.2 v (fun c=>b c) (a 0) (a 1)⟩
def aPk:List (Nat×Ö):=[(219,atN)]
def avv (ρ:Type):List (Þ ρ):=[arE ρ]
def asV (ρ:Type):Env ρ:=Ø aPk (avv ρ)
def ase:Ö:=⟨[tI,tI],[Ã,tI],fun(x:Val Ã)=>aiE x.1 x.2⟩
def aHv:List (Nat×Ö):=[(259,aJ2),(260,aRg)]
def aoH (ρ:Type):List (Þ ρ):=[]
def avw (ρ:Type):Env ρ:=Ø aHv (aoH ρ)
def aWr:Ö:=⟨[Ã,Ã],[Ã,tI],fun(x:Val å)=>aMH x.1 x.2⟩
def aU0:List (Nat×Ö):=[(227,akw),(277,ase)]
def aEq (ρ:Type):List (Þ ρ):=[]
def aPq (ρ:Type):Env ρ:=Ø aU0 (aEq ρ)
def atQ:Ö:=⟨[Ã,Ã],[Ã],fun(x:Val å)=>amC x.1 x.2⟩
def aA4:List (Nat×Ö):=[(262,aWr)]
def ak2 (ρ:Type):List (Þ ρ):=[]
def aoK (ρ:Type):Env ρ:=Ø aA4 (ak2 ρ)
def aRh:Ö:=⟨[Ã,Ã],[tI],fun(x:Val å)=>aFg x.1 x.2⟩
def aUZ:List (Nat×Ö):=[]
def aEn (ρ:Type):List (Þ ρ):=[]
def aPo (ρ:Type):Env ρ:=Ø aUZ (aEn ρ)
def aqI:Ö:=⟨[å],[.bool],fun(x:Val å)=>akg x⟩
def ax3:List (Nat×Ö):=[(227,akw),(287,aRh)]
def ajz (ρ:Type):List (Þ ρ):=[]
def ane (ρ:Type):Env ρ:=Ø ax3 (ajz ρ)
def aWs:Ö:=⟨[Ã,Ã],[Ã,tI],fun(x:Val å)=>aFi x.1 x.2⟩
def aU1:List (Nat×Ö):=[(227,akw),(277,ase)]
def aEs (ρ:Type):List (Þ ρ):=[]
def aPs (ρ:Type):Env ρ:=Ø aU1 (aEs ρ)
def aOa:Ö:=⟨[å,Ã],[å,tI],fun(x:Val (.pair å Ã))=>aFh x.1 x.2⟩
def azM:List (Nat×Ö):=[(219,atN),(278,aqI),(281,aWs),(287,aRh)]
def al3 (ρ:Type):List (Þ ρ):=[]
def azL:List aYy:=[⟨[3,2],279,0,4⟩]
def aPr (ρ:Type):Env ρ:=Ø azM (al3 ρ)
def asX (ρ:Type):Env ρ:=aWS azM (al3 ρ) azL
def atO:Ö:=⟨[Ã,Ã],[å],fun(x:Val å)=>ahD x.1 x.2⟩
def aA3:List (Nat×Ö):=[(263,aOa)]
def ak1 (ρ:Type):List (Þ ρ):=[]
def aoJ (ρ:Type):Env ρ:=Ø aA3 (ak1 ρ)
def aw3:Ö:=⟨[Ä,Ê],[å],fun(x:Val abC)=>ahV x.1 x.2⟩
def aMb:List (Nat×Ö):=[(53,asf),(88,apD),(224,amS),(225,atQ),(226,atO)]
def arN (ρ:Type):List (Þ ρ):=[]
def azU (ρ:Type):Env ρ:=Ø aMb (arN ρ)
def aCn:Ö:=⟨[Ä,Ê],[Ã],fun(x:Val abC)=>alm x.1 x.2⟩
def aPD:List (Nat×Ö):=[]
def avQ (ρ:Type):List (Þ ρ):=[]
def aEJ (ρ:Type):Env ρ:=Ø aPD (avQ ρ)
def aCk:Ö:=⟨[tI,tI],[tI],fun(x:Val Ã)=>ali x.1 x.2⟩
def aPn:List (Nat×Ö):=[]
def avx (ρ:Type):List (Þ ρ):=[]
def aEm (ρ:Type):Env ρ:=Ø aPn (avx ρ)
def aJ3:Ö:=⟨[Ã],[tI,tI],fun(x:Val Ã)=>awr x⟩
def aR1:List (Nat×Ö):=[(227,akw),(228,aCk)]
def azN (ρ:Type):List (Þ ρ):=[]
def aIZ (ρ:Type):Env ρ:=Ø aR1 (azN ρ)
def aCl:Ö:=⟨[Ã],[tI,tI],fun(x:Val Ã)=>apd x⟩
def aPt:List (Nat×Ö):=[(227,akw),(228,aCk)]
def avB (ρ:Type):List (Þ ρ):=[]
def aEt (ρ:Type):Env ρ:=Ø aPt (avB ρ)
def aJ4:Ö:=⟨[Ä,Ê],[Ã],fun(x:Val abC)=>amB x.1 x.2⟩
def aR2:List (Nat×Ö):=[(171,aw3),(172,aCn),(173,aJ3),(174,aCl)]
def azP (ρ:Type):List (Þ ρ):=[]
def aI0 (ρ:Type):Env ρ:=Ø aR2 (azP ρ)
def aJ5:Ö:=⟨[Ä],[abY],fun(x:Val Ä)=>awt x⟩
def aLZ:È:={pin:=2,cs:=[tI,m5,tI,f6,tI,tI,tI,tI,f6,eI,l5,eW,eI,tI,tI,f6,eI,l5,eW,eI,eI,tI,tI,tI,tI,tI,tI,tI,tI,tI],vs:=[tI,wi,eI],head:=⟨144,.box 1 0::.any::.con tI::.box 2 0::.con m5::.con tI::.var tI::aN 24 [.con f6,.con tI,.con tI],[ab8,acg,ab9,.rowv ÿ,.rowv Ã]⟩,exits:=[(.exit 2,⟨144,.box 1 0::.any::.con tI::.box 2 0::.con m5::.con tI::aN 25 [.con f6,.con tI,.con tI],[ab8,acg,ab9,.rowv ÿ,.rowv Ã]⟩,[wi,eI])]}
def avI (ρ:Type):Þ ρ:=⟨[2,1],132,2,aLZ,fun(p:Val (.pair tI (.pair m5 (.pair tI (.pair f6 (.pair tI (.pair tI (.pair tI (.pair tI (.pair f6 (.pair eI (.pair l5 (.pair eW (.pair eI (.pair tI (.pair tI (.pair f6 (.pair eI (.pair l5 (.pair eW (.pair eI (.pair eI (.pair tI abt))))))))))))))))))))))) (v:Val abR) a b=>let A:=p.2.2.2.2.2.2.2.2.2.2.2.2.2;let B:=A.2.2.2.2;let C:=B.2.2.2.2.2;let D:=C.2.2.2.2;al9 p.1 p.2.1 p.2.2.1 A.1 A.2.1 A.2.2.1 A.2.2.2.1 B.1 B.2.1 B.2.2.1 C.1 C.2.1 C.2.2.1 C.2.2.2.1 D.1 D.2.1 D.2.2.1 D.2.2.2 v.1 v.2.1 v.2.2 (fun c d e=>a (c,d,e)) (b 0)⟩
def aL0:È:={pin:=2,cs:=[f6,tI,tI,tI,f6,eI,l5,eW,eI,tI,tI,f6,eI,l5,eW,eI,eI,tI],vs:=[tI,wi,eI],head:=⟨144,.box 1 0::aN 30 [.con f6,.con tI,.var tI],acH⟩,exits:=[(.exit 0,⟨144,.box 1 0::aN 30 [.con f6,.con tI],acH⟩,[wi,eI])]}
def avJ (ρ:Type):Þ ρ:=⟨[2,1],132,0,aL0,fun(p:Val (.pair f6 (.pair tI (.pair tI (.pair tI (.pair f6 (.pair eI (.pair l5 (.pair eW (.pair eI (.pair tI (.pair tI (.pair f6 (.pair eI (.pair l5 (.pair eW (.pair eI (.pair eI tI)))))))))))))))))) (v:Val abR) a b=>let A:=p.2.2.2.2.2.2.2.2.2;let B:=A.2.2.2.2;ama p.1 p.2.1 A.1 A.2.1 A.2.2.1 A.2.2.2.1 B.1 B.2.1 B.2.2.1 B.2.2.2.1 B.2.2.2.2 v.1 v.2.1 v.2.2 (fun c d e=>a (c,d,e)) (b 0)⟩
def aLY:È:={pin:=2,cs:=[eW,tI,tI,tI,f6,eI,l5,eW,eI,tI,tI,f6,eI,l5,eW,eI,eI,tI],vs:=[tI,wi,eI],head:=⟨144,.box 1 0::aN 107 [.con eW,.con tI,.var tI],acH⟩,exits:=[(.exit 4,⟨144,.box 1 0::aN 107 [.con eW,.con tI],acH⟩,[wi,eI])]}
def avH (ρ:Type):Þ ρ:=⟨[2,1],132,4,aLY,fun(p:Val (.pair eW (.pair tI (.pair tI (.pair tI (.pair f6 (.pair eI (.pair l5 (.pair eW (.pair eI (.pair tI (.pair tI (.pair f6 (.pair eI (.pair l5 (.pair eW (.pair eI (.pair eI tI)))))))))))))))))) (v:Val abR) a b=>let A:=p.2.2.2.2.2.2.2.2.2;let B:=A.2.2.2.2;al8 p.1 p.2.1 A.1 A.2.1 A.2.2.1 A.2.2.2.1 B.1 B.2.1 B.2.2.1 B.2.2.2.1 B.2.2.2.2 v.1 v.2.1 v.2.2 (fun c d e=>a (c,d,e)) (b 0)⟩
def aR3:List (Nat×Ö):=[(54,aTv),(85,atS),(87,anJ),(88,apD),(168,aJ6),(200,aJ4)]
def azQ (ρ:Type):List (Þ ρ):=[avI ρ,avJ ρ,avH ρ]
def ak3 (ρ:Type):Env ρ:=Ø aR3 (azQ ρ)
def Ţ:Ö:=⟨[Ä],[Í,eI,tI],fun(x:Val Ä)=>ĥ x⟩
def aMk:List (Nat×Ö):=[(38,Ŋ),(62,aJ5)]
def arO (ρ:Type):List (Þ ρ):=[]
def azY (ρ:Type):Env ρ:=Ø aMk (arO ρ)
def aeu:Ö:=⟨[Ä,Ã],[tI,tI],fun(x:Val abH)=>Ř x.1 x.2⟩
def aPJ:List (Nat×Ö):=[(38,Ŋ),(85,atS),(130,ũ)]
def av0 (ρ:Type):List (Þ ρ):=[]
def aEM (ρ:Type):Env ρ:=Ø aPJ (av0 ρ)
def aeQ:Ö:=⟨[abx,Ã],[tI],fun(x:Val abU)=>Λ x.1 x.2⟩
def aGT:List (Nat×Ö):=[(60,aeu)]
def aol (ρ:Type):List (Þ ρ):=[]
def auP (ρ:Type):Env ρ:=Ø aGT (aol ρ)
def aBo:Ö:=⟨[Í,tI],[.bool],fun(x:Val (.pair Í tI))=>ajJ x.1 x.2⟩
def aRN:List (Nat×Ö):=[]
def azC (ρ:Type):List (Þ ρ):=[]
def aIT (ρ:Type):Env ρ:=Ø aRN (azC ρ)
def akv:Ö:=⟨[Í],[tI,tI],fun(x:Val Í)=>agU x⟩
def aHq:È:={pin:=0,cs:=[wi,tI,tI,wi],vs:=[tI],head:=⟨57,.any::.box 0 0::aN 17 [.con wi,.con tI,.var tI],[aci]⟩,exits:=[(.ret,⟨57,.any::.box 0 0::.var tI::.var tI::aN 15 [.con wi,.con tI],[aci]⟩,[tI,tI]),(.exit 0,⟨57,.any::.box 0 0::aN 17 [.con wi,.con tI],[aci]⟩,[])]}
def arA (ρ:Type):Þ ρ:=⟨[],133,0,aHq,fun(p:Val (.pair wi abN)) (v:Val tI) b a=>ajt p.1 p.2.1 p.2.2.1 p.2.2.2 v (fun c=>b c) (a 0) (a 1)⟩
def aPh:List (Nat×Ö):=[(134,aBo)]
def avq (ρ:Type):List (Þ ρ):=[arA ρ]
def asU (ρ:Type):Env ρ:=Ø aPh (avq ρ)
def aiP:Ö:=⟨[Í,abp],[m5,.bool],fun(x:Val (.pair Í abp))=>ae8 x.1 x.2⟩
def axW:È:={pin:=2,cs:=[abp,wi,tI,tI,wi,m5,tI,wi,abA,m5],vs:=[tI,tI],head:=⟨140,.any::.con abp::.own 1::.box 2 0::aN 3 (.box 3 0::.own 4::.own 5::.var tI::aN 14 [.con wi,.con tI,.var tI]),[aci,.rowc tI,aci,.cells [.nils],.rowc .bool,.rowc tI]⟩,exits:=[(.exit 0,⟨140,.any::.con abp::.own 1::.box 2 0::aN 3 (.box 3 0::.own 4::.own 5::.var tI::aN 14 [.con wi,.con tI]),[aci,.rowc tI,aci,.cells [.nils],.rowc .bool,.rowc tI]⟩,[tI])]}
def ak0 (ρ:Type):Þ ρ:=⟨[2,3],136,0,axW,fun(p:Val (.pair abp (.pair wi (.pair tI (.pair tI (.pair wi (.pair m5 (.pair tI (.pair wi abP))))))))) (v:Val Ã) a b=>ο p.2.1 p.2.2.1 v.1 v.2 (fun c d=>a (c,d)) (b 0)⟩
def axV:È:={pin:=2,cs:=[abp,tI,tI,tI,wi,m5,tI,wi,m5],vs:=[tI,abA,m5],head:=⟨140,.any::.con abp::.own 1::.box 2 0::aN 3 (.box 3 0::.own 4::.own 5::.con tI::aN 27 [.con tI,.var tI]),acI⟩,exits:=[(.exit 2,⟨140,.any::.con abp::.own 1::.box 2 0::aN 3 (.box 3 0::.own 4::.own 5::.con tI::aN 27 [.con tI]),acI⟩,[abA,m5])]}
def akZ (ρ:Type):Þ ρ:=⟨[2,3],136,2,axV,fun(p:Val (.pair abp (.pair tI (.pair tI (.pair tI (.pair wi (.pair m5 (.pair tI (.pair wi m5))))))))) (v:Val (.pair tI abP)) a b=>Ō p.2.2.1 p.2.2.2.2.2.1 v.1 v.2.1 v.2.2 (fun c d e=>a (c,d,e)) (b 0)⟩
def axT:È:={pin:=2,cs:=[abp,tI,tI,wi,tI,tI,wi,tI,wi,m5],vs:=[tI,m5,abA,m5],head:=⟨140,.any::.con abp::.own 1::.box 2 0::aN 3 (.box 3 0::.own 4::.own 5::.con tI::aN 3 (.con tI::aN 62 [.con wi,.con tI,.var tI])),acJ⟩,exits:=[(.ret,⟨140,.any::.con abp::.own 1::.box 2 0::aN 2 (.var .bool::.box 3 0::.own 4::.own 5::.con tI::aN 3 (.con tI::aN 62 [.con wi,.con tI])),acJ⟩,[.bool,m5,abA,m5]),(.exit 6,⟨140,.any::.con abp::.own 1::.box 2 0::aN 3 (.box 3 0::.own 4::.own 5::.con tI::aN 3 (.con tI::aN 62 [.con wi,.con tI])),acJ⟩,[m5,abA,m5])]}
def akX (ρ:Type):Þ ρ:=⟨[2,3],136,6,axT,fun(p:Val (.pair abp (.pair tI (.pair tI (.pair wi (.pair tI (.pair tI (.pair wi (.pair tI (.pair wi m5)))))))))) (v:Val (.pair tI ab5)) b a=>adW p.1 p.2.1 p.2.2.1 p.2.2.2.1 p.2.2.2.2.1 v.1 v.2.1 v.2.2.1 v.2.2.2 (fun c d e f=>b (c,d,e,f)) (a 0) (a 1)⟩
def axU:È:={pin:=2,cs:=[abp,tI,tI,wi,tI,wi],vs:=[m5,abA,m5,m5],head:=⟨140,[.any,.con abp,.own 1,.box 2 0,.any,.any,.any,.box 3 0,.own 4,.own 5,.con tI],acK⟩,exits:=[(.ret,⟨140,[.any,.con abp,.own 1,.box 2 0,.any,.any,.var .bool,.box 3 0,.own 4,.own 5,.con tI],acK⟩,[.bool,m5,abA,m5,m5])]}
def akY (ρ:Type):Þ ρ:=⟨[2,3],136,4,axU,fun(p:Val (.pair abp (.pair tI (.pair tI (.pair wi Í))))) (v:Val abZ) a b=>Ħ p.1 p.2.1 p.2.2.2.2.1 p.2.2.2.2.2 v.1 v.2.1 v.2.2.1 v.2.2.2 (fun c d e f=>a (c,d,e,f)) (b 0)⟩
def axS:È:={pin:=0,cs:=[tI,tI],vs:=[tI,m5],head:=⟨34,aN 6 (.own 0::.con tI::aN 13 [.con tI,.var tI]),[.rowv tI]⟩,exits:=[(.exit 0,⟨34,aN 6 (.own 0::.con tI::aN 13 [.con tI]),[.rowv tI]⟩,[m5])]}
def akW (ρ:Type):Þ ρ:=⟨[],135,0,axS,fun(p:Val Ã) (v:Val abz) a b=>adV p.1 p.2 v.1 v.2 (fun c d=>a (c,d)) (b 0)⟩
def aDT:List (Nat×Ö):=[]
def am8 (ρ:Type):List (Þ ρ):=[ak0 ρ,akZ ρ,akX ρ,akY ρ,akW ρ]
def Η (ρ:Type):Env ρ:=Ø aDT (am8 ρ)
def aN7:Ö:=⟨[Í,m5],[tI],fun(x:Val abT)=>awq x.1 x.2⟩
def aHk:È:={pin:=0,cs:=[m5,tI,tI,wi],vs:=[tI],head:=⟨37,aN 2 (.box 0 0::aN 16 [.con m5,.con tI,.var tI]),[aci]⟩,exits:=[(.ret,⟨37,aN 2 (.box 0 0::.any::.var tI::aN 14 [.con m5,.con tI]),[aci]⟩,[tI]),(.exit 0,⟨37,aN 2 (.box 0 0::aN 16 [.con m5,.con tI]),[aci]⟩,[])]}
def aru (ρ:Type):Þ ρ:=⟨[],63,0,aHk,fun(p:Val (.pair m5 abN)) (v:Val tI) b a=>ajr p.1 p.2.1 p.2.2.1 p.2.2.2 v (fun c=>b c) (a 0) (a 1)⟩
def aPf:List (Nat×Ö):=[(133,akv),(134,aBo),(135,aiP)]
def avn (ρ:Type):List (Þ ρ):=[aru ρ]
def asT (ρ:Type):Env ρ:=Ø aPf (avn ρ)
def aIB:Ö:=⟨[Í,abp,tI],[m5],fun(x:Val (.pair Í (.pair abp tI)))=>ap7 x.1 x.2.1 x.2.2⟩
def aD0:È:={pin:=0,cs:=[abp,tI,tI,tI,wi],vs:=[tI,m5],head:=⟨29,.any::.con abp::.con tI::.box 0 0::aN 3 (.own 1::aN 5 [.con tI,.var tI]),[aci,.rowv tI]⟩,exits:=[(.exit 0,⟨29,.any::.con abp::.con tI::.box 0 0::aN 3 (.own 1::aN 5 [.con tI]),[aci,.rowv tI]⟩,[m5])]}
def aoG (ρ:Type):Þ ρ:=⟨[],64,0,aD0,fun(p:Val (.pair abp (.pair tI abN))) (v:Val abz) a b=>ahw p.2.2.1 v.1 v.2 (fun c d=>a (c,d)) (b 0)⟩
def aDZ:È:={pin:=2,cs:=[abp,wi,tI,tI,wi,m5,tI,wi,abA,m5],vs:=[tI,tI],head:=⟨140,.any::.con abp::.own 1::.box 2 0::aN 3 (.box 3 0::.own 4::.own 5::.var tI::aN 14 [.con wi,.con tI,.var tI]),[aci,.rowc tI,aci,.cells [.nils],.rowc .bool,.rowc tI]⟩,exits:=[(.exit 0,⟨140,.any::.con abp::.own 1::.box 2 0::aN 3 (.box 3 0::.own 4::.own 5::.var tI::aN 14 [.con wi,.con tI]),[aci,.rowc tI,aci,.cells [.nils],.rowc .bool,.rowc tI]⟩,[tI])]}
def aoF (ρ:Type):Þ ρ:=⟨[8,3],136,0,aDZ,fun(p:Val (.pair abp (.pair wi (.pair tI (.pair tI (.pair wi (.pair m5 (.pair tI (.pair wi abP))))))))) (v:Val Ã) a b=>al2 p.2.1 p.2.2.1 v.1 v.2 (fun c d=>a (c,d)) (b 0)⟩
def aDY:È:={pin:=2,cs:=[abp,tI,tI,tI,wi,m5,tI,wi,m5],vs:=[tI,abA,m5],head:=⟨140,.any::.con abp::.own 1::.box 2 0::aN 3 (.box 3 0::.own 4::.own 5::.con tI::aN 27 [.con tI,.var tI]),acI⟩,exits:=[(.exit 2,⟨140,.any::.con abp::.own 1::.box 2 0::aN 3 (.box 3 0::.own 4::.own 5::.con tI::aN 27 [.con tI]),acI⟩,[abA,m5])]}
def aoE (ρ:Type):Þ ρ:=⟨[8,3],136,2,aDY,fun(p:Val (.pair abp (.pair tI (.pair tI (.pair tI (.pair wi (.pair m5 (.pair tI (.pair wi m5))))))))) (v:Val (.pair tI abP)) a b=>al1 p.2.2.1 p.2.2.2.2.2.1 v.1 v.2.1 v.2.2 (fun c d e=>a (c,d,e)) (b 0)⟩
def aDW:È:={pin:=2,cs:=[abp,tI,tI,wi,tI,tI,wi,tI,wi,m5],vs:=[tI,m5,abA,m5],head:=⟨140,.any::.con abp::.own 1::.box 2 0::aN 3 (.box 3 0::.own 4::.own 5::.con tI::aN 3 (.con tI::aN 62 [.con wi,.con tI,.var tI])),acJ⟩,exits:=[(.ret,⟨140,.any::.con abp::.own 1::.box 2 0::aN 2 (.var .bool::.box 3 0::.own 4::.own 5::.con tI::aN 3 (.con tI::aN 62 [.con wi,.con tI])),acJ⟩,[.bool,m5,abA,m5]),(.exit 6,⟨140,.any::.con abp::.own 1::.box 2 0::aN 3 (.box 3 0::.own 4::.own 5::.con tI::aN 3 (.con tI::aN 62 [.con wi,.con tI])),acJ⟩,[m5,abA,m5])]}
def aoC (ρ:Type):Þ ρ:=⟨[8,3],136,6,aDW,fun(p:Val (.pair abp (.pair tI (.pair tI (.pair wi (.pair tI (.pair tI (.pair wi (.pair tI (.pair wi m5)))))))))) (v:Val (.pair tI ab5)) b a=>avm p.1 p.2.1 p.2.2.1 p.2.2.2.1 p.2.2.2.2.1 v.1 v.2.1 v.2.2.1 v.2.2.2 (fun c d e f=>b (c,d,e,f)) (a 0) (a 1)⟩
def aDX:È:={pin:=2,cs:=[abp,tI,tI,wi,tI,wi],vs:=[m5,abA,m5,m5],head:=⟨140,[.any,.con abp,.own 1,.box 2 0,.any,.any,.any,.box 3 0,.own 4,.own 5,.con tI],acK⟩,exits:=[(.ret,⟨140,[.any,.con abp,.own 1,.box 2 0,.any,.any,.var .bool,.box 3 0,.own 4,.own 5,.con tI],acK⟩,[.bool,m5,abA,m5,m5])]}
def aoD (ρ:Type):Þ ρ:=⟨[8,3],136,4,aDX,fun(p:Val (.pair abp (.pair tI (.pair tI (.pair wi Í))))) (v:Val abZ) a b=>al0 p.1 p.2.1 p.2.2.2.2.1 p.2.2.2.2.2 v.1 v.2.1 v.2.2.1 v.2.2.2 (fun c d e f=>a (c,d,e,f)) (b 0)⟩
def aLF:List (Nat×Ö):=[]
def art (ρ:Type):List (Þ ρ):=[aoG ρ,aoF ρ,aoE ρ,aoC ρ,aoD ρ]
def adX (ρ:Type):Env ρ:=Ø aLF (art ρ)
def atM:Ö:=⟨[Í,tI,tI],[tI,tI],fun(x:Val ab2)=>aiD x.1 x.2.1 x.2.2⟩
def aPj:List (Nat×Ö):=[(63,aN7),(64,aIB)]
def avu (ρ:Type):List (Þ ρ):=[]
def aEf (ρ:Type):Env ρ:=Ø aPj (avu ρ)
def aet:Ö:=⟨[abx,tI,tI],[tI],fun(x:Val abU)=>Ą x.1 x.2.1 x.2.2⟩
def axz:List (Nat×Ö):=[(89,atM)]
def aji (ρ:Type):List (Þ ρ):=[]
def am0 (ρ:Type):Env ρ:=Ø axz (aji ρ)
def ajR:Ö:=⟨[abx,Ã],[tI],fun(x:Val abU)=>Κ x.1 x.2⟩
def axy:List (Nat×Ö):=[(55,aeQ),(56,aet)]
def ajh (ρ:Type):List (Þ ρ):=[]
def amZ (ρ:Type):Env ρ:=Ø axy (ajh ρ)
def afU:Ö:=⟨[abx,Ã],[tI],fun(x:Val abU)=>ψ x.1 x.2⟩
def aqs:List (Nat×Ö):=[(55,aeQ),(56,aet)]
def agI (ρ:Type):List (Þ ρ):=[]
def aif (ρ:Type):Env ρ:=Ø aqs (agI ρ)
def ad6:Ö:=⟨[abx,Ã],[Ã],fun(x:Val abU)=>ţ x.1 x.2⟩
def aqr:List (Nat×Ö):=[(121,ajR),(122,afU)]
def agH (ρ:Type):List (Þ ρ):=[]
def aeV (ρ:Type):Env ρ:={Ø aqr (agH ρ) with hint:=ayr [(12,121),(16,122)]}
def aiQ:Ö:=⟨[Ä,Ã],[Ä,tI],fun(x:Val abH)=>aeM x.1 x.2⟩
def aMm:È:={pin:=6,cs:=[tI,tI,tI,f6,eI,l5,eW,eI,tI,tI,tI,tI,tI,tI,f6,eI,l5,eW,eI,tI,tI,tI,tI,eW,tI,tI,f6,eI,l5,eI],vs:=[tI,eW],head:=⟨50,.any::.box 6 0::.box 7 0::.own 8::aN 21 [.own 8,.con tI,.var tI],acL⟩,exits:=[(.exit 0,⟨50,.any::.box 6 0::.box 7 0::.own 8::aN 21 [.own 8,.con tI],acL⟩,[eW])]}
def avZ (ρ:Type):Þ ρ:=⟨[1,2,4,1],175,0,aMm,fun(p:Val (.pair tI (.pair tI (.pair tI (.pair f6 (.pair eI (.pair l5 (.pair eW (.pair eI (.pair tI (.pair tI (.pair tI (.pair tI (.pair tI (.pair tI (.pair f6 (.pair eI (.pair l5 (.pair eW (.pair eI (.pair tI (.pair tI (.pair tI (.pair tI (.pair eW (.pair tI (.pair tI (.pair f6 (.pair eI (.pair l5 eI)))))))))))))))))))))))))))))) (v:Val (.pair tI eW)) a b=>amj p.1 v.1 v.2 (fun c d=>a (c,d)) (b 0)⟩
def aSa:List (Nat×Ö):=[(38,Ŋ)]
def az0 (ρ:Type):List (Þ ρ):=[avZ ρ]
def ayg (ρ:Type):Env ρ:=Ø aSa (az0 ρ)
def ş:Ö:=⟨[Í],[.bool,tI],fun(x:Val Í)=>Ğ x⟩
def ax0:List (Nat×Ö):=[(133,akv),(135,aiP)]
def ajs (ρ:Type):List (Þ ρ):=[]
def ana (ρ:Type):Env ρ:=Ø ax0 (ajs ρ)
def ay5:Ö:=⟨[Ä,Ã],[Ã,tI],fun(x:Val abH)=>agT x.1 x.2⟩
def axK:È:={pin:=4,cs:=[tI,tI,tI,f6,eI,l5,eW,eI,tI,tI,tI,tI,eI],vs:=[tI,tI,tI,f6,eI,l5,eW,eI],head:=⟨68,aN 2 (.box 4 0::aN 20 [.own 3,.con tI,.var tI]),acM⟩,exits:=[(.ret,⟨68,aN 2 (.box 4 0::.any::.nilp::.var tI::aN 17 [.own 3,.con tI]),acM⟩,[tI,tI,tI,f6,eI,l5,eW,eI]),(.exit 0,⟨68,aN 2 (.box 4 0::aN 20 [.own 3,.con tI]),acM⟩,[tI,tI,f6,eI,l5,eW,eI])]}
def akT (ρ:Type):Þ ρ:=⟨[1,3],50,0,axK,fun(p:Val (.pair tI (.pair tI (.pair tI (.pair f6 (.pair eI (.pair l5 (.pair eW (.pair eI (.pair tI (.pair tI abW))))))))))) (v:Val abD) b a=>Č p.1 p.2.2.2.2.2.2.2.2.2.2.2.2 v.1 v.2.1 v.2.2.1 v.2.2.2.1 v.2.2.2.2.1 v.2.2.2.2.2.1 v.2.2.2.2.2.2.1 v.2.2.2.2.2.2.2 (fun c d e f g h i j=>b (c,d,e,f,g,h,i,j)) (a 0) (a 1)⟩
def aDO:List (Nat×Ö):=[(20,Ţ),(38,Ŋ),(51,ad6),(60,aeu),(61,aiQ),(123,ş)]
def am3 (ρ:Type):List (Þ ρ):=[akT ρ]
def aj0 (ρ:Type):Env ρ:=Ø aDO (am3 ρ)
def aCi:Ö:=⟨[Ä,Ã,Ã],[Ã,tI],fun(x:Val (.pair Ä å))=>amA x.1 x.2.1 x.2.2⟩
def aAU:È:={pin:=5,cs:=[tI,tI,tI,f6,eI,l5,eW,eI,tI,tI,tI,tI,tI,tI,eI],vs:=[tI,tI,tI,f6,eI,l5,eW,eI],head:=⟨68,aN 2 (.box 5 0::aN 20 [.own 4,.con tI,.var tI]),acN⟩,exits:=[(.ret,⟨68,aN 2 (.box 5 0::.any::.nilp::.var tI::aN 17 [.own 4,.con tI]),acN⟩,[tI,tI,tI,f6,eI,l5,eW,eI]),(.exit 0,⟨68,aN 2 (.box 5 0::aN 20 [.own 4,.con tI]),acN⟩,[tI,tI,f6,eI,l5,eW,eI])]}
def am7 (ρ:Type):Þ ρ:=⟨[1,4],50,0,aAU,fun(p:Val (.pair tI (.pair tI (.pair tI (.pair f6 (.pair eI (.pair l5 (.pair eW (.pair eI (.pair tI (.pair tI (.pair tI (.pair tI abW))))))))))))) (v:Val abD) b a=>aj6 p.1 p.2.2.2.2.2.2.2.2.2.2.2.2.2.2 v.1 v.2.1 v.2.2.1 v.2.2.2.1 v.2.2.2.2.1 v.2.2.2.2.2.1 v.2.2.2.2.2.2.1 v.2.2.2.2.2.2.2 (fun c d e f g h i j=>b (c,d,e,f,g,h,i,j)) (a 0) (a 1)⟩
def aHg:List (Nat×Ö):=[(20,Ţ),(38,Ŋ),(55,aeQ),(56,aet),(60,aeu),(61,aiQ),(123,ş)]
def aoz (ρ:Type):List (Þ ρ):=[am7 ρ]
def alX (ρ:Type):Env ρ:=Ø aHg (aoz ρ)
def aw4:Ö:=⟨[m5,m5],[m5,m5,tI],fun(x:Val abM)=>aln x.1 x.2⟩
def aMp:List (Nat×Ö):=[(88,apD),(198,aw2)]
def arP (ρ:Type):List (Þ ρ):=[]
def az1 (ρ:Type):Env ρ:=Ø aMp (arP ρ)
def aTs:Ö:=⟨[m5,tI],[.bool],fun(x:Val abI)=>aBE x.1 x.2⟩
def aRF:List (Nat×Ö):=[(129,aw4)]
def azs (ρ:Type):List (Þ ρ):=[]
def aIS (ρ:Type):Env ρ:=Ø aRF (azs ρ)
def aN3:Ö:=⟨[tI],[.bool],fun(x:Val tI)=>awm x⟩
def aOZ:List (Nat×Ö):=[]
def au1 (ρ:Type):List (Þ ρ):=[]
def aDD (ρ:Type):Env ρ:=Ø aOZ (au1 ρ)
def aN2:Ö:=⟨[tI,abr],[eI],fun(x:Val (.pair tI abr))=>awl x.1 x.2⟩
def aG4:È:={pin:=0,cs:=[tI,m5,tI],vs:=[tI,eI],head:=⟨23,.con tI::aN 4 [.own 0,.any,.any,.any,.con m5,.con tI,.var tI],[.rowv Ã]⟩,exits:=[(.exit 0,⟨23,.con tI::aN 4 [.own 0,.any,.any,.any,.con m5,.con tI],[.rowv Ã]⟩,[eI])]}
def arj (ρ:Type):Þ ρ:=⟨[],59,0,aG4,fun(p:Val (.pair tI abI)) (v:Val abG) a b=>ajj p.1 p.2.1 p.2.2 v.1 v.2 (fun c d=>a (c,d)) (b 0)⟩
def aOY:List (Nat×Ö):=[(94,Ŏ)]
def au0 (ρ:Type):List (Þ ρ):=[arj ρ]
def asK (ρ:Type):Env ρ:=Ø aOY (au0 ρ)
def aTt:Ö:=⟨[Ä,tI,m5],[Ã,tI],fun(x:Val (.pair Ä abz))=>aBF x.1 x.2.1 x.2.2⟩
def aLw:È:={pin:=3,cs:=[eI,tI,tI,tI,f6,eI,l5,eW,eI,tI,tI,abr],vs:=[tI,tI,tI,f6,eI,l5,eW,eI],head:=⟨68,aN 2 (.box 3 0::aN 20 [.con eI,.con tI,.var tI]),[ab8,acf,.rowf m5 0,acm]⟩,exits:=[(.ret,⟨68,aN 2 (.box 3 0::.any::.nilp::.var tI::aN 17 [.con eI,.con tI]),[ab8,acf,.rowf m5 0,acm]⟩,[tI,tI,tI,f6,eI,l5,eW,eI]),(.exit 0,⟨68,aN 2 (.box 3 0::aN 20 [.con eI,.con tI]),[ab8,acf,.rowf m5 0,acm]⟩,[tI,tI,f6,eI,l5,eW,eI])]}
def ava (ρ:Type):Þ ρ:=⟨[7,2],50,0,aLw,fun(p:Val (.pair eI (.pair tI (.pair tI (.pair tI (.pair f6 (.pair eI (.pair l5 (.pair eW (.pair eI (.pair tI (.pair tI abr)))))))))))) (v:Val abD) b a=>alU p.1 p.2.1 v.1 v.2.1 v.2.2.1 v.2.2.2.1 v.2.2.2.2.1 v.2.2.2.2.2.1 v.2.2.2.2.2.2.1 v.2.2.2.2.2.2.2 (fun c d e f g h i j=>b (c,d,e,f,g,h,i,j)) (a 0) (a 1)⟩
def aLv:È:={pin:=0,cs:=[abx,eI,tI,tI,tI],vs:=[tI,tI,tI],head:=⟨87,aN 6 (.box 0 0::aN 3 (.con abx::aN 2 (.box 1 0::aN 51 [.con eI,.con tI,.var tI]))),[acf,.cells [.var tI,.var tI]]⟩,exits:=[(.exit 0,⟨87,aN 6 (.box 0 0::aN 3 (.con abx::aN 2 (.box 1 0::aN 51 [.con eI,.con tI]))),[acf,.cells [.var tI,.var tI]]⟩,[tI,tI])]}
def au9 (ρ:Type):Þ ρ:=⟨[],18,0,aLv,fun(p:Val (.pair abx (.pair eI ÿ))) (v:Val ÿ) a b=>alT p.1 p.2.1 p.2.2.1 v.1 v.2.1 v.2.2 (fun c d e=>a (c,d,e)) (b 0)⟩
def aRK:List (Nat×Ö):=[(20,Ţ),(38,Ŋ),(51,ad6),(57,aTs),(58,aN3),(59,aN2),(60,aeu),(61,aiQ),(123,ş)]
def azA (ρ:Type):List (Þ ρ):=[ava ρ,au9 ρ]
def apJ (ρ:Type):Env ρ:=Ø aRK (azA ρ)
def asb:Ö:=⟨[Ã,Ã],[tI],fun(x:Val å)=>aiz x.1 x.2⟩
def aGR:List (Nat×Ö):=[]
def aoh (ρ:Type):List (Þ ρ):=[]
def auM (ρ:Type):Env ρ:=Ø aGR (aoh ρ)
def aN5:Ö:=⟨[Ä,Ã,Ã],[tI,tI],fun(x:Val (.pair Ä å))=>awn x.1 x.2.1 x.2.2⟩
def aHe:È:={pin:=4,cs:=[tI,tI,tI,f6,eI,l5,eW,eI,tI,tI,tI,tI,eI],vs:=[tI,tI,tI,f6,eI,l5,eW,eI],head:=⟨68,aN 2 (.box 4 0::aN 20 [.own 3,.con tI,.var tI]),acM⟩,exits:=[(.ret,⟨68,aN 2 (.box 4 0::.any::.nilp::.var tI::aN 17 [.own 3,.con tI]),acM⟩,[tI,tI,tI,f6,eI,l5,eW,eI]),(.exit 0,⟨68,aN 2 (.box 4 0::aN 20 [.own 3,.con tI]),acM⟩,[tI,tI,f6,eI,l5,eW,eI])]}
def ars (ρ:Type):Þ ρ:=⟨[1,3],50,0,aHe,fun(p:Val (.pair tI (.pair tI (.pair tI (.pair f6 (.pair eI (.pair l5 (.pair eW (.pair eI (.pair tI (.pair tI abW))))))))))) (v:Val abD) b a=>aou p.1 p.2.2.2.2.2.2.2.2.2.2.2.2 v.1 v.2.1 v.2.2.1 v.2.2.2.1 v.2.2.2.2.1 v.2.2.2.2.2.1 v.2.2.2.2.2.2.1 v.2.2.2.2.2.2.2 (fun c d e f g h i j=>b (c,d,e,f,g,h,i,j)) (a 0) (a 1)⟩
def aPa:List (Nat×Ö):=[(20,Ţ),(38,Ŋ),(51,ad6),(60,aeu),(61,aiQ),(69,asb),(123,ş)]
def avb (ρ:Type):List (Þ ρ):=[ars ρ]
def asP (ρ:Type):Env ρ:=Ø aPa (avb ρ)
def aJ8:Ö:=⟨[Ä,Ê],[Ä,tI],fun(x:Val abC)=>ahF x.1 x.2⟩
def aMi:È:={pin:=8,cs:=[tI,tI,tI,f6,eI,l5,eW,eI,tI,tI,m5,m5,tI,tI,tI,tI,tI,tI,tI,tI,f6,eI,l5,eW,eI,tI,tI,tI,tI,eW,tI,tI,f6,eI,l5,eI],vs:=[tI,eW],head:=⟨50,.any::.box 8 0::.box 9 0::.own 10::aN 21 [.own 10,.con tI,.var tI],acO⟩,exits:=[(.exit 0,⟨50,.any::.box 8 0::.box 9 0::.own 10::aN 21 [.own 10,.con tI],acO⟩,[eW])]}
def avX (ρ:Type):Þ ρ:=⟨[2,2,4,1],175,0,aMi,fun(p:Val (.pair tI (.pair tI (.pair tI (.pair f6 (.pair eI (.pair l5 (.pair eW (.pair eI (.pair tI (.pair tI (.pair m5 (.pair m5 (.pair tI (.pair tI (.pair tI (.pair tI (.pair tI (.pair tI (.pair tI (.pair tI (.pair f6 (.pair eI (.pair l5 (.pair eW (.pair eI (.pair tI (.pair tI (.pair tI (.pair tI (.pair eW (.pair tI (.pair tI (.pair f6 (.pair eI (.pair l5 eI)))))))))))))))))))))))))))))))))))) (v:Val (.pair tI eW)) a b=>ami p.1 v.1 v.2 (fun c d=>a (c,d)) (b 0)⟩
def aR8:List (Nat×Ö):=[(38,Ŋ)]
def azX (ρ:Type):List (Þ ρ):=[avX ρ]
def aye (ρ:Type):Env ρ:=Ø aR8 (azX ρ)
def aOc:Ö:=⟨[Ä,Ê,Ã],[Ã,tI],fun(x:Val (.pair Ä (.pair Ê Ã)))=>alk x.1 x.2.1 x.2.2⟩
def aPw:List (Nat×Ö):=[(171,aw3),(172,aCn),(173,aJ3),(174,aCl)]
def avD (ρ:Type):List (Þ ρ):=[]
def aEx (ρ:Type):Env ρ:=Ø aPw (avD ρ)
def aCo:Ö:=⟨[Ä,Ê],[Ã,tI],fun(x:Val abC)=>amE x.1 x.2⟩
def aHR:List (Nat×Ö):=[(41,aJ8),(62,aJ5),(87,anJ),(88,apD),(89,atM),(90,aOc)]
def aoV (ρ:Type):List (Þ ρ):=[]
def avY (ρ:Type):Env ρ:=Ø aHR (aoV ρ)
def aOb:Ö:=⟨[Ä,tI],[Ê,tI],fun(x:Val abL)=>aws x.1 x.2⟩
def aPv:List (Nat×Ö):=[(38,Ŋ)]
def avC (ρ:Type):List (Þ ρ):=[]
def aEv (ρ:Type):Env ρ:=Ø aPv (avC ρ)
def aTx:Ö:=⟨[Ä,tI],[Ã,tI],fun(x:Val abL)=>aBH x.1 x.2⟩
def aR9:List (Nat×Ö):=[(200,aJ4),(205,aOb)]
def azZ (ρ:Type):List (Þ ρ):=[]
def aI1 (ρ:Type):Env ρ:=Ø aR9 (azZ ρ)
def ay4:Ö:=⟨[m5,abx,(.ptr Ê)],[tI],fun(x:Val (.pair m5 (.pair abx (.ptr Ê))))=>agS x.1 x.2.1 x.2.2⟩
def aDC:List (Nat×Ö):=[(55,aeQ)]
def am2 (ρ:Type):List (Þ ρ):=[]
def arm (ρ:Type):Env ρ:=Ø aDC (am2 ρ)
def ay3:Ö:=⟨[tI,tI,abx,(.ptr tI),abX,(.ptr tI)],[ÿ],fun(x:Val (.pair tI (.pair tI (.pair abx (.pair (.ptr tI) (.pair abX (.ptr tI)))))))=>agR x.1 x.2.1 x.2.2.1 x.2.2.2.1 x.2.2.2.2.1 x.2.2.2.2.2⟩
def aDB:List (Nat×Ö):=[(56,aet)]
def am1 (ρ:Type):List (Þ ρ):=[]
def arl (ρ:Type):Env ρ:=Ø aDB (am1 ρ)
def aw0:Ö:=⟨[abx,Ã,Ê],[Ŧ,tI],fun(x:Val (.pair abx ab0))=>alf x.1 x.2.1 x.2.2⟩
def aDA:È:={pin:=0,cs:=[tI,m5,m5,eI,wi,tI,tI,tI,tI,tI,m5,m5,tI,tI,tI,tI,tI,tI,tI,tI,tI,tI,tI,tI,tI,tI,tI,tI,tI,tI,f6,eI,l5,eW,eI,tI],vs:=[tI,wi],head:=⟨127,aN 4 (.box 0 0::.box 1 0::.box 2 0::.any::.box 3 0::aN 2 (.con tI::.box 4 0::.any::.con m5::.con m5::aN 2 (.con eI::.any::.box 5 0::aN 65 [.con wi,.con tI,.var tI]))),[acf,ace,ab9,acf,acf,aco,.rowv ÿ]⟩,exits:=[(.exit 0,⟨127,aN 4 (.box 0 0::.box 1 0::.box 2 0::.any::.box 3 0::aN 2 (.con tI::.box 4 0::.any::.con m5::.con m5::aN 2 (.con eI::.any::.box 5 0::aN 65 [.con wi,.con tI]))),[acf,ace,ab9,acf,acf,aco,.rowv ÿ]⟩,[wi])]}
def aom (ρ:Type):Þ ρ:=⟨[],71,0,aDA,fun(p:Val (.pair tI (.pair m5 (.pair m5 (.pair eI (.pair wi (.pair tI (.pair tI (.pair tI (.pair tI (.pair tI (.pair m5 (.pair m5 (.pair tI (.pair tI (.pair tI (.pair tI (.pair tI (.pair tI (.pair tI (.pair tI (.pair tI (.pair tI (.pair tI (.pair tI (.pair tI (.pair tI (.pair tI (.pair tI (.pair tI (.pair tI (.pair f6 (.pair eI (.pair l5 (.pair eW (.pair eI tI)))))))))))))))))))))))))))))))))))) (v:Val Í) a b=>aft p.1 p.2.2.2.1 p.2.2.2.2.1 p.2.2.2.2.2.1 v.1 v.2 (fun c d=>a (c,d)) (b 0)⟩
def aLk:List (Nat×Ö):=[(20,Ţ),(40,aCo),(41,aJ8),(55,aeQ),(129,aw4),(142,aTx),(143,ay4),(144,ay3)]
def ark (ρ:Type):List (Þ ρ):=[aom ρ]
def ajk (ρ:Type):Env ρ:={Ø aLk (ark ρ) with hint:=ayr [(110,143),(113,143),(120,144),(123,144)]}
def als:Ö:=⟨[ÿ],[m5],fun(x:Val ÿ)=>adv x⟩
def aAM:List (Nat×Ö):=[]
def akK (ρ:Type):List (Þ ρ):=[]
def aop (ρ:Type):Env ρ:=Ø aAM (akK ρ)
def aIA:Ö:=⟨[ÿ,tI],[tI],fun(x:Val (.pair ÿ tI))=>alg x.1 x.2⟩
def aLm:List (Nat×Ö):=[]
def arn (ρ:Type):List (Þ ρ):=[]
def azu (ρ:Type):Env ρ:=Ø aLm (arn ρ)
def ajP:Ö:=⟨[Ŧ,tI],[Ã],fun(x:Val (.pair Ŧ tI))=>Ň x.1 x.2⟩
def axv:List (Nat×Ö):=[(177,aIA)]
def ajf (ρ:Type):List (Þ ρ):=[]
def amX (ρ:Type):Env ρ:=Ø axv (ajf ρ)
def ajQ:Ö:=⟨[Ŧ,m5],[m5],fun(x:Val (.pair Ŧ m5))=>aeA x.1 x.2⟩
def asF:È:={pin:=0,cs:=[tI,m5,tI,tI,tI,tI,tI,tI,tI,tI,tI,tI],vs:=[tI,m5],head:=⟨48,aN 2 (.box 0 0::aN 2 (.own 1::.any::.con tI::.var tI::aN 7 [.con m5,.con tI,.con tI])),acD⟩,exits:=[(.exit 2,⟨48,aN 2 (.box 0 0::aN 2 (.own 1::.any::.con tI::aN 8 [.con m5,.con tI,.con tI])),acD⟩,[m5])]}
def aid (ρ:Type):Þ ρ:=⟨[],101,2,asF,fun(p:Val (.pair tI (.pair m5 (.pair tI (.pair tI abt))))) (v:Val abz) a b=>ξ p.1 p.2.2.2.2.1 p.2.2.2.2.2.1 v.1 v.2 (fun c d=>a (c,d)) (b 0)⟩
def asG:È:={pin:=0,cs:=[m5,tI,tI,tI,tI,tI,tI,tI,tI,tI],vs:=[tI,m5],head:=⟨48,aN 2 (.box 0 0::aN 2 (.own 1::aN 10 [.con m5,.con tI,.var tI])),acD⟩,exits:=[(.exit 0,⟨48,aN 2 (.box 0 0::aN 2 (.own 1::aN 10 [.con m5,.con tI])),acD⟩,[m5])]}
def aie (ρ:Type):Þ ρ:=⟨[],101,0,asG,fun(p:Val (.pair m5 (.pair tI abt))) (v:Val abz) a b=>aea p.1 p.2.1 p.2.2.1 p.2.2.2.1 v.1 v.2 (fun c d=>a (c,d)) (b 0)⟩
def axw:List (Nat×Ö):=[]
def ajg (ρ:Type):List (Þ ρ):=[aid ρ,aie ρ]
def aeJ (ρ:Type):Env ρ:=Ø axw (ajg ρ)
def anI:Ö:=⟨[Ŧ],[tI],fun(x:Val Ŧ)=>afA x⟩
def aqo:È:={pin:=0,cs:=[m5,tI,tI,tI,tI,tI,tI,tI,tI,tI],vs:=[tI,tI],head:=⟨34,.any::.box 0 0::.any::.var tI::aN 12 [.con m5,.con tI,.var tI],[ab9]⟩,exits:=[(.exit 0,⟨34,.any::.box 0 0::.any::.var tI::aN 12 [.con m5,.con tI],[ab9]⟩,[tI])]}
def ahb (ρ:Type):Þ ρ:=⟨[],72,0,aqo,fun(p:Val (.pair m5 (.pair tI abt))) (v:Val Ã) a b=>let A:=p.2.2.2.2;adQ p.1 p.2.1 p.2.2.1 p.2.2.2.1 A.1 A.2.1 A.2.2.1 A.2.2.2.1 A.2.2.2.2.1 A.2.2.2.2.2 v.1 v.2 (fun c d=>a (c,d)) (b 0)⟩
def auJ:List (Nat×Ö):=[(94,Ŏ),(95,als),(99,ajP),(101,ajQ)]
def aib (ρ:Type):List (Þ ρ):=[ahb ρ]
def af2 (ρ:Type):Env ρ:=Ø auJ (aib ρ)
def aN4:Ö:=⟨[Ä,Ã,Ê],[tI,tI],fun(x:Val (.pair Ä ab0))=>ao9 x.1 x.2.1 x.2.2⟩
def aHa:È:={pin:=4,cs:=[tI,tI,tI,f6,eI,l5,eW,eI,tI,tI,tI,tI,m5,m5,tI,tI,tI,tI,eI],vs:=[tI,tI,tI,f6,eI,l5,eW,eI],head:=⟨68,aN 2 (.box 4 0::aN 20 [.own 3,.con tI,.var tI]),acP⟩,exits:=[(.ret,⟨68,aN 2 (.box 4 0::.any::.nilp::.var tI::aN 17 [.own 3,.con tI]),acP⟩,[tI,tI,tI,f6,eI,l5,eW,eI]),(.exit 0,⟨68,aN 2 (.box 4 0::aN 20 [.own 3,.con tI]),acP⟩,[tI,tI,f6,eI,l5,eW,eI])]}
def aro (ρ:Type):Þ ρ:=⟨[1,3],50,0,aHa,fun(p:Val (.pair tI (.pair tI (.pair tI (.pair f6 (.pair eI (.pair l5 (.pair eW (.pair eI (.pair tI (.pair tI (.pair tI (.pair tI (.pair m5 (.pair m5 (.pair tI (.pair tI abW))))))))))))))))) (v:Val abD) b a=>aor p.1 p.2.2.2.2.2.2.2.2.2.2.2.2.2.2.2.2.2.2 v.1 v.2.1 v.2.2.1 v.2.2.2.1 v.2.2.2.2.1 v.2.2.2.2.2.1 v.2.2.2.2.2.2.1 v.2.2.2.2.2.2.2 (fun c d e f g h i j=>b (c,d,e,f,g,h,i,j)) (a 0) (a 1)⟩
def aO7:List (Nat×Ö):=[(20,Ţ),(38,Ŋ),(60,aeu),(61,aiQ),(71,aw0),(72,anI),(123,ş)]
def au4 (ρ:Type):List (Þ ρ):=[aro ρ]
def asN (ρ:Type):Env ρ:=Ø aO7 (au4 ρ)
def asd:Ö:=⟨[Í,m5],[tI],fun(x:Val abT)=>aiC x.1 x.2⟩
def aAW:È:={pin:=1,cs:=[m5,tI,tI,wi],vs:=[tI],head:=⟨19,.con m5::.fn 206 [(0,0)]::aN 5 [.con tI,.var tI],[aci]⟩,exits:=[(.ret,⟨19,[.con m5,.fn 206 [(0,0)],.any,.any,.var tI,.any,.any,.con tI],[aci]⟩,[tI]),(.exit 0,⟨19,.con m5::.fn 206 [(0,0)]::aN 5 [.con tI],[aci]⟩,[])]}
def am9 (ρ:Type):Þ ρ:=⟨[3,2,1,2],178,0,aAW,fun(p:Val (.pair m5 abN)) (v:Val tI) b a=>agr p.1 p.2.1 p.2.2.2 v (fun c=>b c) (a 0) (a 1)⟩
def aHi:List (Nat×Ö):=[]
def aoB (ρ:Type):List (Þ ρ):=[am9 ρ]
def alZ (ρ:Type):Env ρ:=Ø aHi (aoB ρ)
def aJ1:Ö:=⟨[Í,tI,m5],[tI,tI,.bool],fun(x:Val (.pair Í abz))=>awp x.1 x.2.1 x.2.2⟩
def aLB:È:={pin:=0,cs:=[m5,tI,tI,wi],vs:=[tI,tI,tI],head:=⟨37,.any::.var tI::.any::.box 0 0::aN 5 [.var tI,.any,.any,.any,.con m5,.con tI,.var tI],[aci]⟩,exits:=[(.ret,⟨37,aN 3 (.box 0 0::aN 2 (.var tI::.var tI::.var .bool::aN 4 [.con m5,.con tI])),[aci]⟩,[tI,tI,.bool]),(.exit 0,⟨37,.any::.var tI::.any::.box 0 0::aN 5 [.var tI,.any,.any,.any,.con m5,.con tI],[aci]⟩,[tI,tI])]}
def avf (ρ:Type):Þ ρ:=⟨[],146,0,aLB,fun(p:Val (.pair m5 abN)) (v:Val ÿ) b a=>alY p.1 p.2.1 p.2.2.2 v.1 v.2.1 v.2.2 (fun c d e=>b (c,d,e)) (a 0) (a 1)⟩
def aRM:List (Nat×Ö):=[]
def azB (ρ:Type):List (Þ ρ):=[avf ρ]
def axR (ρ:Type):Env ρ:=Ø aRM (azB ρ)
def aqH:Ö:=⟨[Í,tI,tI,m5],[tI,tI],fun(x:Val (.pair Í (.pair tI abz)))=>aeB x.1 x.2.1 x.2.2.1 x.2.2.2⟩
def ax2:List (Nat×Ö):=[(133,akv),(134,aBo),(145,asd),(146,aJ1)]
def ajv (ρ:Type):List (Þ ρ):=[]
def anc (ρ:Type):Env ρ:=Ø ax2 (ajv ρ)
def alt:Ö:=⟨[ĉ],[tI],fun(x:Val ĉ)=>afC x⟩
def aAQ:List (Nat×Ö):=[(20,Ţ),(38,Ŋ),(60,aeu),(76,aqH)]
def akU (ρ:Type):List (Þ ρ):=[]
def aow (ρ:Type):Env ρ:=Ø aAQ (akU ρ)
def aqG:Ö:=⟨[Í,m5],[tI],fun(x:Val abT)=>agu x.1 x.2⟩
def ax1:List (Nat×Ö):=[(133,akv),(145,asd),(146,aJ1)]
def aju (ρ:Type):List (Þ ρ):=[]
def anb (ρ:Type):Env ρ:=Ø ax1 (aju ρ)
def aqF:Ö:=⟨[ĉ],[tI],fun(x:Val ĉ)=>agt x⟩
def axL:List (Nat×Ö):=[(20,Ţ),(38,Ŋ),(86,aqG)]
def ajq (ρ:Type):List (Þ ρ):=[]
def am4 (ρ:Type):Env ρ:=Ø axL (ajq ρ)
def adA:Ö:=⟨[f6,Ð],[tI],fun(x:Val (.pair f6 Ð))=>ŗ x.1 x.2⟩
def afc:È:={pin:=0,cs:=[f6,tI,tI,tI,tI,tI,tI,tI,tI,tI],vs:=[tI],head:=⟨19,[.con f6,.any,.any,.box 0 0,.any,.any,.any,.con tI,.var tI],[ab9]⟩,exits:=[(.ret,⟨19,[.con f6,.any,.any,.box 0 0,.var tI,.any,.any,.con tI],[ab9]⟩,[tI]),(.exit 0,⟨19,[.con f6,.any,.any,.box 0 0,.any,.any,.any,.con tI],[ab9]⟩,[])]}
def Ų (ρ:Type):Þ ρ:=⟨[],254,0,afc,fun(p:Val (.pair f6 (.pair tI abt))) (v:Val tI) b a=>let A:=p.2.2.2.2;Ā p.1 p.2.1 p.2.2.1 p.2.2.2.1 A.1 A.2.1 A.2.2.1 A.2.2.2.1 A.2.2.2.2.1 A.2.2.2.2.2 v (fun c=>b c) (a 0) (a 1)⟩
def afL:List (Nat×Ö):=[]
def Β (ρ:Type):List (Þ ρ):=[Ų ρ]
def Ń (ρ:Type):Env ρ:=Ø afL (Β ρ)
def Ρ:Ö:=⟨[f6,Ð],[.bool],fun(x:Val (.pair f6 Ð))=>Ě x.1 x.2⟩
def aeU:List (Nat×Ö):=[(254,adA)]
def Š (ρ:Type):List (Þ ρ):=[]
def Ŵ (ρ:Type):Env ρ:=Ø aeU (Š ρ)
def aes:Ö:=⟨[eI,Ã],[tI],fun(x:Val ab1)=>Ι x.1 x.2⟩
def agC:È:={pin:=0,cs:=[eI,tI,tI,tI],vs:=[tI],head:=⟨19,[.con eI,.any,.any,.box 0 0,.any,.any,.any,.con tI,.var tI],[acf]⟩,exits:=[(.ret,⟨19,[.con eI,.any,.any,.box 0 0,.var tI,.any,.any,.con tI],[acf]⟩,[tI]),(.exit 0,⟨19,[.con eI,.any,.any,.box 0 0,.any,.any,.any,.con tI],[acf]⟩,[])]}
def adg (ρ:Type):Þ ρ:=⟨[],256,0,agC,fun(p:Val (.pair eI ÿ)) (v:Val tI) b a=>Ē p.1 p.2.1 p.2.2.1 p.2.2.2 v (fun c=>b c) (a 0) (a 1)⟩
def ahk:List (Nat×Ö):=[]
def adC (ρ:Type):List (Þ ρ):=[adg ρ]
def Ū (ρ:Type):Env ρ:=Ø ahk (adC ρ)
def adO:Ö:=⟨[eI,Ã],[.bool],fun(x:Val ab1)=>ĕ x.1 x.2⟩
def af0:List (Nat×Ö):=[(256,aes)]
def Φ (ρ:Type):List (Þ ρ):=[]
def adh (ρ:Type):Env ρ:=Ø af0 (Φ ρ)
def adT:Ö:=⟨[l5,Ł],[tI],fun(x:Val (.pair l5 Ł))=>Ů x.1 x.2⟩
def afK:È:={pin:=0,cs:=[l5,tI,tI,tI,tI,tI],vs:=[tI],head:=⟨19,[.con l5,.any,.any,.box 0 0,.any,.any,.any,.con tI,.var tI],[aca]⟩,exits:=[(.ret,⟨19,[.con l5,.any,.any,.box 0 0,.var tI,.any,.any,.con tI],[aca]⟩,[tI]),(.exit 0,⟨19,[.con l5,.any,.any,.box 0 0,.any,.any,.any,.con tI],[aca]⟩,[])]}
def Υ (ρ:Type):Þ ρ:=⟨[],258,0,afK,fun(p:Val (.pair l5 ab7)) (v:Val tI) b a=>Ć p.1 p.2.1 p.2.2.1 p.2.2.2.1 p.2.2.2.2.1 p.2.2.2.2.2 v (fun c=>b c) (a 0) (a 1)⟩
def agE:List (Nat×Ö):=[]
def κ (ρ:Type):List (Þ ρ):=[Υ ρ]
def ŕ (ρ:Type):Env ρ:=Ø agE (κ ρ)
def adf:Ö:=⟨[l5,Ł],[.bool],fun(x:Val (.pair l5 Ł))=>ć x.1 x.2⟩
def afm:List (Nat×Ö):=[(258,adT)]
def ų (ρ:Type):List (Þ ρ):=[]
def Χ (ρ:Type):Env ρ:=Ø afm (ų ρ)
def aJ0:Ö:=⟨[Ä,Ä],[.bool],fun(x:Val abV)=>ap6 x.1 x.2⟩
def aLh:È:={pin:=0,cs:=[f6,tI,tI,tI,f6,eI,l5,eW,eI,tI,tI,f6,eI,l5,eW,eI],vs:=[tI,abp],head:=⟨87,aN 2 (.box 0 0::.box 1 0::.any::.box 2 0::aN 10 [.con f6,.con tI,.var tI]),[ab8,ab8,acp,.mapv tI .bool]⟩,exits:=[(.exit 0,⟨87,aN 2 (.box 0 0::.box 1 0::.any::.box 2 0::aN 10 [.con f6,.con tI]),[ab8,ab8,acp,.mapv tI .bool]⟩,[abp])]}
def auZ (ρ:Type):Þ ρ:=⟨[],77,0,aLh,fun(p:Val (.pair f6 (.pair tI aby))) (v:Val (.pair tI abp)) a b=>alN p.1 p.2.1 v.1 v.2 (fun c d=>a (c,d)) (b 0)⟩
def aLe:È:={pin:=6,cs:=[m5,m5,tI,tI,tI,f6,eI,l5,eW,eI,tI,tI,f6,eI,l5,eW,eI,abp,tI,tI,m5,m5,tI,tI,tI,tI,tI,tI,m5,m5,tI,tI,tI,tI],vs:=[tI],head:=⟨26,.con m5::.con m5::aN 10 [.con tI,.var tI],acQ⟩,exits:=[(.ret,⟨26,.con m5::.con m5::aN 2 (.var .bool::aN 7 [.con tI]),acQ⟩,[.bool]),(.exit 0,⟨26,.con m5::.con m5::aN 10 [.con tI],acQ⟩,[])]}
def auW (ρ:Type):Þ ρ:=⟨[14,3,1,2,4,5,1,38],151,0,aLe,fun(p:Val (.pair m5 (.pair m5 (.pair tI (.pair tI (.pair tI (.pair f6 (.pair eI (.pair l5 (.pair eW (.pair eI (.pair tI (.pair tI (.pair f6 (.pair eI (.pair l5 (.pair eW (.pair eI (.pair abp (.pair tI (.pair tI (.pair m5 (.pair m5 (.pair tI (.pair tI (.pair tI (.pair tI Ê))))))))))))))))))))))))))) (v:Val tI) b a=>af7 p.1 p.2.1 p.2.2.1 v (fun c=>b c) (a 0) (a 1)⟩
def aLd:È:={pin:=6,cs:=[m5,m5,tI,tI,tI,f6,eI,l5,eW,eI,tI,tI,f6,eI,l5,eW,eI,abp,tI,tI,m5,m5,tI,tI,tI,tI,tI,tI,m5,m5,tI,tI,tI,tI],vs:=[tI],head:=⟨26,.con m5::.con m5::aN 10 [.con tI,.var tI],acQ⟩,exits:=[(.ret,⟨26,.con m5::.con m5::aN 2 (.var .bool::aN 7 [.con tI]),acQ⟩,[.bool]),(.exit 0,⟨26,.con m5::.con m5::aN 10 [.con tI],acQ⟩,[])]}
def auV (ρ:Type):Þ ρ:=⟨[14,3,1,2,4,5,1,45],151,0,aLd,fun(p:Val (.pair m5 (.pair m5 (.pair tI (.pair tI (.pair tI (.pair f6 (.pair eI (.pair l5 (.pair eW (.pair eI (.pair tI (.pair tI (.pair f6 (.pair eI (.pair l5 (.pair eW (.pair eI (.pair abp (.pair tI (.pair tI (.pair m5 (.pair m5 (.pair tI (.pair tI (.pair tI (.pair tI Ê))))))))))))))))))))))))))) (v:Val tI) b a=>alM p.1 p.2.1 p.2.2.1 v (fun c=>b c) (a 0) (a 1)⟩
def aLf:È:={pin:=5,cs:=[eW,tI,tI,tI,f6,eI,l5,eW,eI,tI,tI,f6,eI,l5,eW,eI,abp,tI,tI,m5,m5,tI,tI,tI,tI],vs:=[tI],head:=⟨19,.con eW::.fn 150 [(4,0)]::aN 5 [.con tI,.var tI],acR⟩,exits:=[(.ret,⟨19,[.con eW,.fn 150 [(4,0)],.any,.any,.var tI,.any,.any,.con tI],acR⟩,[tI]),(.exit 0,⟨19,.con eW::.fn 150 [(4,0)]::aN 5 [.con tI],acR⟩,[])]}
def auX (ρ:Type):Þ ρ:=⟨[14,3,1,2],207,0,aLf,fun(p:Val (.pair eW (.pair tI (.pair tI (.pair tI (.pair f6 (.pair eI (.pair l5 (.pair eW (.pair eI (.pair tI (.pair tI (.pair f6 (.pair eI (.pair l5 (.pair eW (.pair eI (.pair abp Ê)))))))))))))))))) (v:Val tI) b a=>let A:=p.2.2.2.2.2.2.2.2.2.2.2.2.2.2.2.2.2;let B:=A.2.2.2.2;aih p.1 p.2.1 A.1 A.2.1 A.2.2.1 A.2.2.2.1 B.1 B.2.1 B.2.2.1 B.2.2.2 v (fun c=>b c) (a 0) (a 1)⟩
def aLg:È:={pin:=0,cs:=[eW,tI,tI,tI,f6,eI,l5,eW,eI,tI,tI,f6,eI,l5,eW,eI,abp],vs:=[tI],head:=⟨87,aN 2 (.box 0 0::.box 1 0::aN 4 (.fn 147 []::.fn 148 [(2,0)]::.fn 149 [(2,0)]::aN 18 [.con eW,.con tI,.var tI])),acS⟩,exits:=[(.ret,⟨87,aN 2 (.box 0 0::.box 1 0::.var .bool::aN 3 (.fn 147 []::.fn 148 [(2,0)]::.fn 149 [(2,0)]::aN 18 [.con eW,.con tI])),acS⟩,[.bool]),(.exit 2,⟨87,aN 2 (.box 0 0::.box 1 0::aN 4 (.fn 147 []::.fn 148 [(2,0)]::.fn 149 [(2,0)]::aN 18 [.con eW,.con tI])),acS⟩,[])]}
def auY (ρ:Type):Þ ρ:=⟨[],77,2,aLg,fun(p:Val (.pair eW (.pair tI (.pair tI (.pair tI (.pair f6 (.pair eI (.pair l5 (.pair eW (.pair eI (.pair tI (.pair tI (.pair f6 (.pair eI (.pair l5 (.pair eW (.pair eI abp))))))))))))))))) (v:Val tI) b a=>aii p.1 p.2.1 p.2.2.2.2.2.2.2.2.2.2.2.2.2.2.1 v (fun c=>b c) (a 0) (a 1)⟩
def aLc:È:={pin:=6,cs:=[f6,tI,tI,tI,f6,eI,l5,eW,eI,tI,tI,f6,eI,l5,eW,eI,abp,f6],vs:=[tI],head:=⟨19,.con f6::.fn 209 [(5,0),(4,0)]::aN 5 [.con tI,.var tI],acT⟩,exits:=[(.ret,⟨19,[.con f6,.fn 209 [(5,0),(4,0)],.any,.any,.var tI,.any,.any,.con tI],acT⟩,[tI]),(.exit 0,⟨19,.con f6::.fn 209 [(5,0),(4,0)]::aN 5 [.con tI],acT⟩,[])]}
def auU (ρ:Type):Þ ρ:=⟨[17,11,1,2,1,2],253,0,aLc,fun(p:Val (.pair f6 (.pair tI (.pair tI (.pair tI (.pair f6 (.pair eI (.pair l5 (.pair eW (.pair eI (.pair tI (.pair tI (.pair f6 (.pair eI (.pair l5 (.pair eW (.pair eI (.pair abp f6)))))))))))))))))) (v:Val tI) b a=>aig p.1 p.2.1 p.2.2.2.2.2.2.2.2.2.2.2.2.2.2.2.2.2 v (fun c=>b c) (a 0) (a 1)⟩
def aLb:È:={pin:=8,cs:=[eI,tI,tI,tI,f6,eI,l5,eW,eI,tI,tI,f6,eI,l5,eW,eI,abp,f6,eI],vs:=[tI],head:=⟨19,.con eI::.fn 212 [(7,0),(6,0)]::aN 5 [.con tI,.var tI],acU⟩,exits:=[(.ret,⟨19,[.con eI,.fn 212 [(7,0),(6,0)],.any,.any,.var tI,.any,.any,.con tI],acU⟩,[tI]),(.exit 0,⟨19,.con eI::.fn 212 [(7,0),(6,0)]::aN 5 [.con tI],acU⟩,[])]}
def auT (ρ:Type):Þ ρ:=⟨[17,19,1,2,1,2],255,0,aLb,fun(p:Val (.pair eI (.pair tI (.pair tI (.pair tI (.pair f6 (.pair eI (.pair l5 (.pair eW (.pair eI (.pair tI (.pair tI (.pair f6 (.pair eI (.pair l5 (.pair eW (.pair eI (.pair abp (.pair f6 eI))))))))))))))))))) (v:Val tI) b a=>aeW p.1 p.2.1 p.2.2.2.2.2.2.2.2.2.2.2.2.2.2.2.2.1 p.2.2.2.2.2.2.2.2.2.2.2.2.2.2.2.2.2.2 v (fun c=>b c) (a 0) (a 1)⟩
def aLa:È:={pin:=10,cs:=[eI,tI,tI,tI,f6,eI,l5,eW,eI,tI,tI,f6,eI,l5,eW,eI,abp,f6,eI,eI],vs:=[tI],head:=⟨19,.con eI::.fn 212 [(9,0),(8,0)]::aN 5 [.con tI,.var tI],acV⟩,exits:=[(.ret,⟨19,[.con eI,.fn 212 [(9,0),(8,0)],.any,.any,.var tI,.any,.any,.con tI],acV⟩,[tI]),(.exit 0,⟨19,.con eI::.fn 212 [(9,0),(8,0)]::aN 5 [.con tI],acV⟩,[])]}
def auS (ρ:Type):Þ ρ:=⟨[17,27,1,2,1,2],255,0,aLa,fun(p:Val (.pair eI (.pair tI (.pair tI (.pair tI (.pair f6 (.pair eI (.pair l5 (.pair eW (.pair eI (.pair tI (.pair tI (.pair f6 (.pair eI (.pair l5 (.pair eW (.pair eI (.pair abp (.pair f6 (.pair eI eI)))))))))))))))))))) (v:Val tI) b a=>af6 p.1 p.2.1 p.2.2.2.2.2.2.2.2.2.2.2.2.2.2.2.2.1 p.2.2.2.2.2.2.2.2.2.2.2.2.2.2.2.2.2.2.2 v (fun c=>b c) (a 0) (a 1)⟩
def aK9:È:={pin:=12,cs:=[l5,tI,tI,tI,f6,eI,l5,eW,eI,tI,tI,f6,eI,l5,eW,eI,abp,f6,eI,eI,l5],vs:=[tI],head:=⟨19,.con l5::.fn 215 [(11,0),(10,0)]::aN 5 [.con tI,.var tI],acW⟩,exits:=[(.ret,⟨19,[.con l5,.fn 215 [(11,0),(10,0)],.any,.any,.var tI,.any,.any,.con tI],acW⟩,[tI]),(.exit 0,⟨19,.con l5::.fn 215 [(11,0),(10,0)]::aN 5 [.con tI],acW⟩,[])]}
def auR (ρ:Type):Þ ρ:=⟨[17,35,1,2,1,2],257,0,aK9,fun(p:Val (.pair l5 (.pair tI (.pair tI (.pair tI (.pair f6 (.pair eI (.pair l5 (.pair eW (.pair eI (.pair tI (.pair tI (.pair f6 (.pair eI (.pair l5 (.pair eW (.pair eI (.pair abp (.pair f6 (.pair eI (.pair eI l5))))))))))))))))))))) (v:Val tI) b a=>ĵ p.1 p.2.1 p.2.2.2.2.2.2.2.2.2.2.2.2.2.2.2.2.1 p.2.2.2.2.2.2.2.2.2.2.2.2.2.2.2.2.2.2.2.2 v (fun c=>b c) (a 0) (a 1)⟩
def aK8:È:={pin:=14,cs:=[l5,tI,tI,tI,f6,eI,l5,eW,eI,tI,tI,f6,eI,l5,eW,eI,abp,f6,eI,eI,l5,l5],vs:=[tI],head:=⟨19,.con l5::.fn 215 [(13,0),(12,0)]::aN 5 [.con tI,.var tI],acX⟩,exits:=[(.ret,⟨19,[.con l5,.fn 215 [(13,0),(12,0)],.any,.any,.var tI,.any,.any,.con tI],acX⟩,[tI]),(.exit 0,⟨19,.con l5::.fn 215 [(13,0),(12,0)]::aN 5 [.con tI],acX⟩,[])]}
def auQ (ρ:Type):Þ ρ:=⟨[17,43,1,2,1,2],257,0,aK8,fun(p:Val (.pair l5 (.pair tI (.pair tI (.pair tI (.pair f6 (.pair eI (.pair l5 (.pair eW (.pair eI (.pair tI (.pair tI (.pair f6 (.pair eI (.pair l5 (.pair eW (.pair eI (.pair abp (.pair f6 (.pair eI (.pair eI (.pair l5 l5)))))))))))))))))))))) (v:Val tI) b a=>Đ p.1 p.2.1 p.2.2.2.2.2.2.2.2.2.2.2.2.2.2.2.2.1 p.2.2.2.2.2.2.2.2.2.2.2.2.2.2.2.2.2.2.2.2.2 v (fun c=>b c) (a 0) (a 1)⟩
def aRG:List (Nat×Ö):=[(210,Ρ),(213,adO),(216,adf)]
def azt (ρ:Type):List (Þ ρ):=[auZ ρ,auW ρ,auV ρ,auX ρ,auY ρ,auU ρ,auT ρ,auS ρ,auR ρ,auQ ρ]
def Ÿ (ρ:Type):Env ρ:=Ø aRG (azt ρ)
def aw1:Ö:=⟨[Ä,ĉ],[.bool,tI],fun(x:Val (.pair Ä ĉ))=>alh x.1 x.2⟩
def aLu:List (Nat×Ö):=[(33,alt),(38,Ŋ),(39,aqF),(77,aJ0)]
def arp (ρ:Type):List (Þ ρ):=[]
def azz (ρ:Type):Env ρ:=Ø aLu (arp ρ)
def aCj:Ö:=⟨[Í,tI,tI],[abr],fun(x:Val ab2)=>apa x.1 x.2.1 x.2.2⟩
def aUX:È:={pin:=0,cs:=[tI,tI,tI,tI,wi],vs:=[tI,m5],head:=⟨45,.any::.con tI::.con tI::.box 0 0::aN 3 (.own 1::aN 7 [.con tI,.var tI]),[aci,.rowv tI]⟩,exits:=[(.exit 0,⟨45,.any::.con tI::.con tI::.box 0 0::aN 3 (.own 1::aN 7 [.con tI]),[aci,.rowv tI]⟩,[m5])]}
def aIX (ρ:Type):Þ ρ:=⟨[],156,0,aUX,fun(p:Val (.pair tI (.pair tI abN))) (v:Val abz) a b=>apK p.2.2.1 v.1 v.2 (fun c d=>a (c,d)) (b 0)⟩
def aUV:È:={pin:=4,cs:=[m5,tI,abr,tI,wi],vs:=[tI,m5],head:=⟨53,.con m5::.box 1 0::aN 2 (.own 4::aN 7 [.con tI,.var tI]),acY⟩,exits:=[(.exit 0,⟨53,.con m5::.box 1 0::aN 2 (.own 4::aN 7 [.con tI]),acY⟩,[m5])]}
def aIV (ρ:Type):Þ ρ:=⟨[12,8],217,0,aUV,fun(p:Val (.pair m5 (.pair tI (.pair abr Í)))) (v:Val abz) a b=>aLE p.2.1 v.1 v.2 (fun c d=>a (c,d)) (b 0)⟩
def aUU:È:={pin:=4,cs:=[m5,wi,tI,abr,tI,wi],vs:=[tI,m5],head:=⟨53,.con m5::aN 3 (.own 4::aN 16 [.con wi,.con tI,.var tI]),acY⟩,exits:=[(.exit 2,⟨53,.con m5::aN 3 (.own 4::aN 16 [.con wi,.con tI]),acY⟩,[m5])]}
def aIU (ρ:Type):Þ ρ:=⟨[12,8],217,2,aUU,fun(p:Val (.pair m5 (.pair wi (.pair tI (.pair abr Í))))) (v:Val abz) a b=>avl p.1 p.2.1 p.2.2.1 v.1 v.2 (fun c d=>a (c,d)) (b 0)⟩
def aUW:È:={pin:=0,cs:=[tI,tI,wi],vs:=[tI,abr],head:=⟨45,aN 9 (.own 0::.fn 217 [(1,0)]::aN 18 [.con tI,.var tI]),[.rowv m5,aci]⟩,exits:=[(.exit 2,⟨45,aN 9 (.own 0::.fn 217 [(1,0)]::aN 18 [.con tI]),[.rowv m5,aci]⟩,[abr])]}
def aIW (ρ:Type):Þ ρ:=⟨[],156,2,aUW,fun(p:Val abN) (v:Val (.pair tI abr)) a b=>aBv p.1 p.2.1 p.2.2 v.1 v.2 (fun c d=>a (c,d)) (b 0)⟩
def aZt:List (Nat×Ö):=[]
def aPe (ρ:Type):List (Þ ρ):=[aIX ρ,aIV ρ,aIU ρ,aIW ρ]
def axY (ρ:Type):Env ρ:=Ø aZt (aPe ρ)
def aN8:Ö:=⟨[Í],[m5,tI],fun(x:Val Í)=>apb x⟩
def aHp:È:={pin:=0,cs:=[tI,tI,wi],vs:=[tI,abS],head:=⟨93,.any::.box 0 0::aN 6 (.own 1::aN 24 [.con tI,.var tI]),[aci,.rowv abr]⟩,exits:=[(.exit 0,⟨93,.any::.box 0 0::aN 6 (.own 1::aN 24 [.con tI]),[aci,.rowv abr]⟩,[abS])]}
def arz (ρ:Type):Þ ρ:=⟨[],78,0,aHp,fun(p:Val abN) (v:Val (.pair tI abS)) a b=>azH p.1 p.2.1 p.2.2 v.1 v.2 (fun c d=>a (c,d)) (b 0)⟩
def aHl:È:={pin:=3,cs:=[tI,abr,wi,tI,tI,wi,abS,tI,tI,tI,tI,wi],vs:=[tI,tI,tI,m5],head:=⟨73,.any::.var tI::.con tI::.con abr::.fn 157 []::.box 3 0::aN 5 (.own 4::.var tI::aN 7 [.con wi,.con tI,.var tI]),acZ⟩,exits:=[(.exit 2,⟨73,.any::.var tI::.con tI::.con abr::.fn 157 []::.box 3 0::aN 5 (.own 4::.var tI::aN 7 [.con wi,.con tI]),acZ⟩,[tI,tI,m5])]}
def arv (ρ:Type):Þ ρ:=⟨[22,10],158,2,aHl,fun(p:Val (.pair tI (.pair abr (.pair wi (.pair tI (.pair tI (.pair wi (.pair abS (.pair tI (.pair tI abN)))))))))) (v:Val abO) a b=>azD p.1 p.2.1 p.2.2.1 p.2.2.2.1 v.1 v.2.1 v.2.2.1 v.2.2.2 (fun c d e f=>a (c,d,e,f)) (b 0)⟩
def aHm:È:={pin:=3,cs:=[abr,tI,wi,abS,tI,tI,tI,tI,wi],vs:=[tI,tI,tI,m5],head:=⟨73,.any::.var tI::.var tI::.con abr::.fn 157 []::.box 3 0::aN 5 [.own 4,.var tI],acZ⟩,exits:=[(.exit 0,⟨73,aN 3 (.con abr::.fn 157 []::.box 3 0::aN 5 [.own 4]),acZ⟩,[m5])]}
def arw (ρ:Type):Þ ρ:=⟨[22,10],158,0,aHm,fun(p:Val (.pair abr (.pair tI (.pair wi (.pair abS (.pair tI (.pair tI abN))))))) (v:Val abO) a b=>azE p.1 p.2.2.2.2.2.2.2.2 v.1 v.2.1 v.2.2.1 v.2.2.2 (fun c d e f=>a (c,d,e,f)) (b 0)⟩
def aHn:È:={pin:=0,cs:=[tI,wi,tI,tI,wi,abS],vs:=[tI],head:=⟨93,.any::.box 0 0::aN 6 (.own 1::.any::.fn 157 []::.con tI::aN 37 [.con wi,.con tI,.var tI]),ac0⟩,exits:=[(.exit 2,⟨93,.any::.box 0 0::aN 6 (.own 1::.any::.fn 157 []::.con tI::aN 37 [.con wi,.con tI]),ac0⟩,[]),(.ret,⟨93,.any::.box 0 0::.own 2::.var tI::aN 4 (.own 1::.any::.fn 157 []::.con tI::aN 37 [.con wi,.con tI]),[aci,.rowc abr,.rowv tI]⟩,[tI,m5]),(.exit 4,⟨93,.any::.box 0 0::aN 6 (.own 1::.any::.fn 157 []::.con tI::aN 37 [.con wi,.con tI]),ac0⟩,[])]}
def arx (ρ:Type):Þ ρ:=⟨[],78,4,aHn,fun(p:Val (.pair tI (.pair wi (.pair tI (.pair tI (.pair wi abS)))))) (v:Val tI) b a=>azF p.1 p.2.1 p.2.2.1 p.2.2.2.1 p.2.2.2.2.1 p.2.2.2.2.2 v (fun c=>b c) (a 0) (a 1) (a 2)⟩
def aHo:È:={pin:=0,cs:=[tI,wi,abS],vs:=[tI],head:=⟨93,.any::.box 0 0::aN 6 [.own 1,.any,.fn 157 [],.var tI],ac0⟩,exits:=[(.exit 2,⟨93,.any::.box 0 0::aN 6 [.own 1,.any,.fn 157 []],ac0⟩,[]),(.ret,⟨93,.any::.box 0 0::.own 2::.var tI::aN 4 [.own 1,.any,.fn 157 []],[aci,.rowc abr,.rowv tI]⟩,[tI,m5])]}
def ary (ρ:Type):Þ ρ:=⟨[],78,2,aHo,fun(p:Val (.pair tI (.pair wi abS))) (v:Val tI) b a=>azG p.1 p.2.1 p.2.2 v (fun c=>b c) (a 0) (a 1)⟩
def aPg:List (Nat×Ö):=[(133,akv),(135,aiP),(156,aCj)]
def avp (ρ:Type):List (Þ ρ):=[arz ρ,arv ρ,arw ρ,arx ρ,ary ρ]
def aeX (ρ:Type):Env ρ:=Ø aPg (avp ρ)
def asc:Ö:=⟨[Ä,m5],[eI],fun(x:Val (.pair Ä m5))=>aiA x.1 x.2⟩
def aAI:È:={pin:=0,cs:=[eI,m5,tI],vs:=[tI,eI],head:=⟨32,aN 6 (.con eI::.any::.own 0::aN 8 [.con m5,.con tI,.var tI]),[.rowv Ã]⟩,exits:=[(.exit 0,⟨32,aN 6 (.con eI::.any::.own 0::aN 8 [.con m5,.con tI]),[.rowv Ã]⟩,[eI])]}
def amY (ρ:Type):Þ ρ:=⟨[],80,0,aAI,fun(p:Val (.pair eI abI)) (v:Val abG) a b=>agp p.1 p.2.1 p.2.2 v.1 v.2 (fun c d=>a (c,d)) (b 0)⟩
def aGS:List (Nat×Ö):=[(20,Ţ)]
def aoi (ρ:Type):List (Þ ρ):=[amY ρ]
def alL (ρ:Type):Env ρ:=Ø aGS (aoi ρ)
def aN6:Ö:=⟨[Ä],[ĉ,tI],fun(x:Val Ä)=>awo x⟩
def aPb:List (Nat×Ö):=[(20,Ţ),(78,aN8),(79,ah2),(80,asc)]
def avd (ρ:Type):List (Þ ρ):=[]
def aDP (ρ:Type):Env ρ:=Ø aPb (avd ρ)
def atK:Ö:=⟨[tI],[tI],fun(x:Val tI)=>afB x⟩
def aAO:List (Nat×Ö):=[]
def akS (ρ:Type):List (Þ ρ):=[]
def aos (ρ:Type):Env ρ:=Ø aAO (akS ρ)
def atJ:Ö:=⟨[ÿ,tI],[m5],fun(x:Val (.pair ÿ tI))=>adw x.1 x.2⟩
def aAN:List (Nat×Ö):=[]
def akL (ρ:Type):List (Þ ρ):=[]
def aoq (ρ:Type):Env ρ:=Ø aAN (akL ρ)
def aCg:Ö:=⟨[Ä,Ã,Ã,Ê],[.bool,tI],fun(x:Val (.pair Ä (.pair Ã ab0)))=>aiB x.1 x.2.1 x.2.2.1 x.2.2.2⟩
def ź:È:={pin:=5,cs:=[tI,tI,tI,f6,eI,l5,eW,eI,tI,tI,tI,tI,tI,tI,m5,m5,tI,tI,tI,tI,eI],vs:=[tI,tI,tI,f6,eI,l5,eW,eI],head:=⟨68,aN 2 (.box 5 0::aN 20 [.own 4,.con tI,.var tI]),ac1⟩,exits:=[(.ret,⟨68,aN 2 (.box 5 0::.any::.nilp::.var tI::aN 17 [.own 4,.con tI]),ac1⟩,[tI,tI,tI,f6,eI,l5,eW,eI]),(.exit 0,⟨68,aN 2 (.box 5 0::aN 20 [.own 4,.con tI]),ac1⟩,[tI,tI,f6,eI,l5,eW,eI])]}
def ag4 (ρ:Type):Þ ρ:=⟨[1,3],50,0,ź,fun(p:Val abw) (v:Val abD) b a=>ajZ p.1 p.2.2.2.2.2.2.2.2.2.2.2.2.2.2.2.2.2.2.2.2 v.1 v.2.1 v.2.2.1 v.2.2.2.1 v.2.2.2.2.1 v.2.2.2.2.2.1 v.2.2.2.2.2.2.1 v.2.2.2.2.2.2.2 (fun c d e f g h i j=>b (c,d,e,f,g,h,i,j)) (a 0) (a 1)⟩
def Ź:È:={pin:=12,cs:=[m5,tI,tI,tI,f6,eI,l5,eW,eI,tI,tI,tI,tI,tI,tI,m5,m5,tI,tI,tI,tI,eI,tI,tI,f6,eI,l5,eW,eI,tI,wi,tI,tI,tI,tI,tI,tI,tI,tI,abr,abr,abr],vs:=[tI],head:=⟨19,.con m5::.fn 98 [(8,0),(2,0)]::aN 5 [.con tI,.var tI],ac2⟩,exits:=[(.ret,⟨19,[.con m5,.fn 98 [(8,0),(2,0)],.any,.any,.var tI,.any,.any,.con tI],ac2⟩,[tI]),(.exit 0,⟨19,.con m5::.fn 98 [(8,0),(2,0)]::aN 5 [.con tI],ac2⟩,[])]}
def ag3 (ρ:Type):Þ ρ:=⟨[18,4,1,2],178,0,Ź,fun(p:Val abq) (v:Val tI) b a=>let A:=p.2.2.2.2.2.2.2.2.2.2.2;let B:=A.2.2.2.2.2.2.2.2.2.2.2.2.2.2.2.2.2.2.2.2;let C:=B.2.2.2.2;agq p.1 p.2.1 A.1 A.2.1 B.1 B.2.1 B.2.2.1 B.2.2.2.1 C.1 C.2.1 C.2.2.1 C.2.2.2.1 v (fun c=>b c) (a 0) (a 1)⟩
def arq:List (Nat×Ö):=[(20,Ţ),(38,Ŋ),(60,aeu),(61,aiQ),(69,asb),(71,aw0),(94,Ŏ),(95,als),(96,atK),(97,atJ),(99,ajP),(101,ajQ),(123,ş)]
def aik (ρ:Type):List (Þ ρ):=[ag4 ρ,ag3 ρ]
def ajY:List aYy:=[⟨[],42,0,4⟩]
def Ď (ρ:Type):Env ρ:={Ø arq (aik ρ) with hint:=ayr [(51,96),(55,96)]}
def alR (ρ:Type):Env ρ:={{aWS arq (aik ρ) ajY with loops:=aPK (Ď ρ) ajY} with hint:=ayr [(51,96),(55,96)]}
def ay1:Ö:=⟨[],[Ä],fun(_:Unit)=>ao5⟩
def aCy:List (Nat×Ö):=[]
def amT (ρ:Type):List (Þ ρ):=[]
def aqJ (ρ:Type):Env ρ:=Ø aCy (amT ρ)
def aN9:Ö:=⟨[Í,tI,tI],[m5,tI],fun(x:Val ab2)=>apc x.1 x.2.1 x.2.2⟩
def aHt:È:={pin:=3,cs:=[abr,tI,tI,wi,tI,tI],vs:=[tI],head:=⟨19,.con abr::.fn 194 [(1,0),(2,0)]::aN 5 [.con tI,.var tI],[aci,acd,acd]⟩,exits:=[(.ret,⟨19,[.con abr,.fn 194 [(1,0),(2,0)],.any,.any,.var tI,.any,.any,.con tI],[aci,acd,acd]⟩,[tI]),(.exit 0,⟨19,.con abr::.fn 194 [(1,0),(2,0)]::aN 5 [.con tI],[aci,acd,acd]⟩,[])]}
def arD (ρ:Type):Þ ρ:=⟨[5,2],193,0,aHt,fun(p:Val (.pair abr (.pair tI (.pair tI (.pair wi Ã))))) (v:Val tI) b a=>ajx p.1 p.2.1 p.2.2.2.2.1 p.2.2.2.2.2 v (fun c=>b c) (a 0) (a 1)⟩
def aHr:È:={pin:=3,cs:=[tI,abr,wi,tI,tI,wi,tI,tI,tI,wi],vs:=[tI,tI,tI,m5],head:=⟨73,.any::.var tI::.con tI::.con abr::.fn 195 [(2,0)]::.box 3 0::aN 5 (.own 4::.var tI::aN 7 [.con wi,.con tI,.var tI]),ac3⟩,exits:=[(.exit 2,⟨73,.any::.var tI::.con tI::.con abr::.fn 195 [(2,0)]::.box 3 0::aN 5 (.own 4::.var tI::aN 7 [.con wi,.con tI]),ac3⟩,[tI,tI,m5])]}
def arB (ρ:Type):Þ ρ:=⟨[6,5],158,2,aHr,fun(p:Val (.pair tI (.pair abr (.pair wi (.pair tI (.pair tI (.pair wi (.pair tI abN)))))))) (v:Val abO) a b=>azI p.1 p.2.1 p.2.2.1 p.2.2.2.1 p.2.2.2.2.2.2.2.1 v.1 v.2.1 v.2.2.1 v.2.2.2 (fun c d e f=>a (c,d,e,f)) (b 0)⟩
def aHs:È:={pin:=3,cs:=[abr,tI,wi,tI,tI,tI,wi],vs:=[tI,tI,tI,m5],head:=⟨73,.any::.var tI::.var tI::.con abr::.fn 195 [(2,0)]::.box 3 0::aN 5 [.own 4,.var tI],ac3⟩,exits:=[(.exit 0,⟨73,aN 3 (.con abr::.fn 195 [(2,0)]::.box 3 0::aN 5 [.own 4]),ac3⟩,[m5])]}
def arC (ρ:Type):Þ ρ:=⟨[6,5],158,0,aHs,fun(p:Val (.pair abr (.pair tI (.pair wi (.pair tI abN))))) (v:Val abO) a b=>ajw p.1 p.2.2.2.2.1 p.2.2.2.2.2.2 v.1 v.2.1 v.2.2.1 v.2.2.2 (fun c d e f=>a (c,d,e,f)) (b 0)⟩
def aPi:List (Nat×Ö):=[(89,atM),(156,aCj)]
def avt (ρ:Type):List (Þ ρ):=[arD ρ,arB ρ,arC ρ]
def ail (ρ:Type):Env ρ:=Ø aPi (avt ρ)
def atL:Ö:=⟨[abx,abX,(.ptr .bool)],[m5],fun(x:Val (.pair abx (.pair abX (.ptr .bool))))=>afD x.1 x.2.1 x.2.2⟩
def aAT:List (Nat×Ö):=[(55,aeQ),(120,aN9)]
def akV (ρ:Type):List (Þ ρ):=[]
def aoy (ρ:Type):Env ρ:=Ø aAT (akV ρ)
def aCh:Ö:=⟨[Ä,Ã,.bool],[ĉ,tI],fun(x:Val (.pair Ä (.pair Ã .bool)))=>amz x.1 x.2.1 x.2.2⟩
def aAS:È:={pin:=5,cs:=[tI,tI,tI,f6,eI,l5,eW,eI,tI,tI,tI,tI,.bool,tI,eI],vs:=[tI,tI,tI,f6,eI,l5,eW,eI],head:=⟨68,aN 2 (.box 5 0::aN 20 [.own 4,.con tI,.var tI]),ac4⟩,exits:=[(.ret,⟨68,aN 2 (.box 5 0::.any::.nilp::.var tI::aN 17 [.own 4,.con tI]),ac4⟩,[tI,tI,tI,f6,eI,l5,eW,eI]),(.exit 0,⟨68,aN 2 (.box 5 0::aN 20 [.own 4,.con tI]),ac4⟩,[tI,tI,f6,eI,l5,eW,eI])]}
def am6 (ρ:Type):Þ ρ:=⟨[1,3],50,0,aAS,fun(p:Val (.pair tI (.pair tI (.pair tI (.pair f6 (.pair eI (.pair l5 (.pair eW (.pair eI (.pair tI (.pair tI (.pair tI (.pair tI (.pair .bool abG)))))))))))))) (v:Val abD) b a=>aj3 p.1 p.2.2.2.2.2.2.2.2.2.2.2.2.2.2 v.1 v.2.1 v.2.2.1 v.2.2.2.1 v.2.2.2.2.1 v.2.2.2.2.2.1 v.2.2.2.2.2.2.1 v.2.2.2.2.2.2.2 (fun c d e f g h i j=>b (c,d,e,f,g,h,i,j)) (a 0) (a 1)⟩
def aAR:È:={pin:=10,cs:=[tI,tI,tI,f6,eI,l5,eW,eI,tI,tI,tI,tI,.bool,tI,eI,tI,tI,f6,eI,l5,eW,eI,tI,wi,eI,tI,tI,f6,eI,l5,eW,eI,tI,tI,f6,eI,l5,eW,eI],vs:=[tI],head:=⟨68,aN 2 (.box 10 0::aN 20 [.nils,.con tI,.var tI]),ac5⟩,exits:=[(.exit 0,⟨68,aN 2 (.box 10 0::aN 20 [.nils,.con tI]),ac5⟩,[])]}
def am5 (ρ:Type):Þ ρ:=⟨[6,1],50,0,aAR,fun(p:Val (.pair tI (.pair tI (.pair tI (.pair f6 (.pair eI (.pair l5 (.pair eW (.pair eI (.pair tI (.pair tI (.pair tI (.pair tI (.pair .bool (.pair tI (.pair eI (.pair tI (.pair tI (.pair f6 (.pair eI (.pair l5 (.pair eW (.pair eI (.pair tI (.pair wi (.pair eI aby)))))))))))))))))))))))))) (v:Val tI) a b=>aj2 p.1 v (fun c=>a c) (b 0)⟩
def aHf:List (Nat×Ö):=[(20,Ţ),(38,Ŋ),(60,aeu),(61,aiQ),(79,ah2),(80,asc),(119,atL),(121,ajR),(122,afU),(123,ş)]
def aox (ρ:Type):List (Þ ρ):=[am6 ρ,am5 ρ]
def afu (ρ:Type):Env ρ:={Ø aHf (aox ρ) with hint:=ayr [(34,119),(56,119)]}
def aCb:Ö:=⟨[],[.bool],fun(_:Unit)=>Ó⟩
def aF9:List (Nat×Ö):=[(15,ay5),(17,aCi),(18,aTt),(25,aN5),(31,aN4),(33,alt),(35,aw1),(36,aN6),(42,aCg),(48,ay1),(49,aCh)]
def anN (ρ:Type):List (Þ ρ):=[]
def aua (ρ:Type):Env ρ:=Ø aF9 (anN ρ)
def aTu:Ö:=⟨[Ä,Ä],[.bool,tI],fun(x:Val abV)=>aBG x.1 x.2⟩
def aDL:List (Nat×Ö):=[(38,Ŋ),(77,aJ0)]
def aot (ρ:Type):List (Þ ρ):=[]
def aDK:List aYy:=[⟨[],43,0,4⟩]
def aRL (ρ:Type):Env ρ:=Ø aDL (aot ρ)
def axJ (ρ:Type):Env ρ:=aWS aDL (aot ρ) aDK
def agw:Ö:=⟨[Ã,tI,tI],[.bool],fun(x:Val å)=>ad0 x.1 x.2.1 x.2.2⟩
def aCM:List (Nat×Ö):=[]
def amV (ρ:Type):List (Þ ρ):=[]
def aqW (ρ:Type):Env ρ:=Ø aCM (amV ρ)
def awZ:Ö:=⟨[tI,tI,tI],[.bool],fun(x:Val ÿ)=>afy x.1 x.2.1 x.2.2⟩
def aUP:List (Nat×Ö):=[]
def aDd (ρ:Type):List (Þ ρ):=[]
def aOH (ρ:Type):Env ρ:=Ø aUP (aDd ρ)
def atH:Ö:=⟨[tI],[.bool],fun(x:Val tI)=>amx x⟩
def aRv:List (Nat×Ö):=[(180,awZ)]
def azh (ρ:Type):List (Þ ρ):=[]
def aIM (ρ:Type):Env ρ:=Ø aRv (azh ρ)
def aJY:Ö:=⟨[tI,tI],[tI],fun(x:Val Ã)=>ap4 x.1 x.2⟩
def aK1:È:={pin:=0,cs:=[],vs:=[tI,tI],head:=⟨14,[.var tI,.var tI],[]⟩,exits:=[(.exit 0,⟨14,[.var tI],[]⟩,[tI])]}
def auH (ρ:Type):Þ ρ:=⟨[],234,0,aK1,fun(p:Unit) (v:Val Ã) a b=>alK v.1 v.2 (fun c d=>a (c,d)) (b 0)⟩
def aRC:List (Nat×Ö):=[]
def azo (ρ:Type):List (Þ ρ):=[auH ρ]
def axt (ρ:Type):Env ρ:=Ø aRC (azo ρ)
def aJZ:Ö:=⟨[tI],[tI],fun(x:Val tI)=>awk x⟩
def aRE:List (Nat×Ö):=[]
def azr (ρ:Type):List (Þ ρ):=[]
def aIR (ρ:Type):Env ρ:=Ø aRE (azr ρ)
def aIx:Ö:=⟨[Ã],[.bool],fun(x:Val Ã)=>ap2 x⟩
def aKW:List (Nat×Ö):=[(234,aJY),(235,aJZ)]
def arf (ρ:Type):List (Þ ρ):=[]
def azj (ρ:Type):Env ρ:=Ø aKW (arf ρ)
def aIv:Ö:=⟨[Ð],[.bool],fun(x:Val Ð)=>apZ x⟩
def aKx:List (Nat×Ö):=[(102,agw),(108,atH),(179,aIx),(180,awZ)]
def aq0 (ρ:Type):List (Þ ρ):=[]
def azc (ρ:Type):Env ρ:=Ø aKx (aq0 ρ)
def anH:Ö:=⟨[Ä,tI],[tI],fun(x:Val abL)=>aix x.1 x.2⟩
def aGH:È:={pin:=0,cs:=[tI,tI,tI,f6,eI,l5,eW,eI],vs:=[tI],head:=⟨22,[.any,.con tI,.box 0 0,.any,.any,.var tI],acC⟩,exits:=[(.ret,⟨22,[.any,.con tI,.box 0 0,.any,.var tI],acC⟩,[tI]),(.exit 0,⟨22,[.any,.con tI,.box 0 0],acC⟩,[])]}
def arb (ρ:Type):Þ ρ:=⟨[],182,0,aGH,fun(p:Val abD) (v:Val tI) b a=>ajd p.1 p.2.2.2.1 v (fun c=>b c) (a 0) (a 1)⟩
def aOJ:List (Nat×Ö):=[]
def auz (ρ:Type):List (Þ ρ):=[arb ρ]
def asA (ρ:Type):Env ρ:=Ø aOJ (auz ρ)
def akt:Ö:=⟨[Ä,tI,tI],[tI],fun(x:Val abH)=>agd x.1 x.2.1 x.2.2⟩
def aKE:List (Nat×Ö):=[(182,anH)]
def aq4 (ρ:Type):List (Þ ρ):=[]
def aze (ρ:Type):Env ρ:=Ø aKE (aq4 ρ)
def aNT:Ö:=⟨[Ä],[tI],fun(x:Val Ä)=>awf x⟩
def aGm:È:={pin:=0,cs:=[tI,tI,f6,eI,l5,eW,eI],vs:=[tI],head:=⟨37,[.any,.box 0 0,.any,.var tI],acC⟩,exits:=[(.ret,⟨37,[.any,.box 0 0,.var tI],acC⟩,[tI]),(.exit 0,⟨37,[.any,.box 0 0],acC⟩,[])]}
def aqV (ρ:Type):Þ ρ:=⟨[],104,0,aGm,fun(p:Val nn) (v:Val tI) b a=>let A:=p.2.2.2.2;ai3 p.1 p.2.1 p.2.2.1 p.2.2.2.1 A.1 A.2.1 A.2.2 v (fun c=>b c) (a 0) (a 1)⟩
def aOx:List (Nat×Ö):=[(108,atH),(109,akt)]
def auh (ρ:Type):List (Þ ρ):=[aqV ρ]
def asp (ρ:Type):Env ρ:=Ø aOx (auh ρ)
def aIt:Ö:=⟨[Ä],[tI],fun(x:Val Ä)=>apY x⟩
def aCO:È:={pin:=0,cs:=[tI,tI,tI,f6,eI,l5,eW,eI,tI,tI,tI,tI],vs:=[tI],head:=⟨111,[.any,.box 0 0,.any,.con tI,.box 1 0,.any,.var tI],acE⟩,exits:=[(.ret,⟨111,[.any,.box 0 0,.var tI,.con tI,.box 1 0],acE⟩,[tI]),(.exit 2,⟨111,[.any,.box 0 0,.any,.con tI,.box 1 0],acE⟩,[])]}
def anX (ρ:Type):Þ ρ:=⟨[],105,2,aCO,fun(p:Val abE) (v:Val tI) b a=>let A:=p.2.2.2.2.2;ahn p.1 A.1 A.2.2.2.1 A.2.2.2.2.1 A.2.2.2.2.2.1 v (fun c=>b c) (a 0) (a 1)⟩
def aCN:È:={pin:=0,cs:=[tI,tI,tI,f6,eI,l5,eW,eI,tI,tI,tI,tI],vs:=[tI],head:=⟨111,[.any,.box 0 0,.any,.con tI,.box 1 0,.any,.any,.var tI],acE⟩,exits:=[(.ret,⟨111,[.any,.box 0 0,.var tI,.con tI,.box 1 0],acE⟩,[tI]),(.exit 4,⟨111,[.any,.box 0 0,.any,.con tI,.box 1 0],acE⟩,[])]}
def anW (ρ:Type):Þ ρ:=⟨[],105,4,aCN,fun(p:Val abE) (v:Val tI) b a=>let A:=p.2.2.2.2;let B:=A.2.2.2.2;afp A.1 B.1 B.2.1 B.2.2.1 v (fun c=>b c) (a 0) (a 1)⟩
def aCP:È:={pin:=0,cs:=[tI,tI,f6,eI,l5,eW,eI],vs:=[tI],head:=⟨111,[.any,.box 0 0,.any,.var tI],acC⟩,exits:=[(.ret,⟨111,[.any,.box 0 0,.var tI],acC⟩,[tI]),(.exit 0,⟨111,[.any,.box 0 0],acC⟩,[])]}
def anY (ρ:Type):Þ ρ:=⟨[],105,0,aCP,fun(p:Val nn) (v:Val tI) b a=>let A:=p.2.2.2.2;aho p.1 p.2.1 p.2.2.1 p.2.2.2.1 A.1 A.2.1 A.2.2 v (fun c=>b c) (a 0) (a 1)⟩
def aKv:List (Nat×Ö):=[(102,agw),(109,akt),(180,awZ)]
def aqY (ρ:Type):List (Þ ρ):=[anX ρ,anW ρ,anY ρ]
def agF (ρ:Type):Env ρ:=Ø aKv (aqY ρ)
def aNX:Ö:=⟨[m5],[.bool],fun(x:Val m5)=>ao7 x⟩
def aGz:È:={pin:=0,cs:=[m5],vs:=[tI],head:=⟨35,[.con m5,.any,.any,.var tI],[]⟩,exits:=[(.ret,⟨35,[.con m5,.any,.var .bool],[]⟩,[.bool]),(.exit 0,⟨35,[.con m5],[]⟩,[])]}
def aq5 (ρ:Type):Þ ρ:=⟨[],181,0,aGz,fun(p:Val m5) (v:Val tI) b a=>ai9 p v (fun c=>b c) (a 0) (a 1)⟩
def aOD:List (Nat×Ö):=[(180,awZ)]
def aus (ρ:Type):List (Þ ρ):=[aq5 ρ]
def asv (ρ:Type):Env ρ:=Ø aOD (aus ρ)
def aIs:Ö:=⟨[Ê],[.bool],fun(x:Val Ê)=>apX x⟩
def aKt:List (Nat×Ö):=[(102,agw),(108,atH),(180,awZ),(181,aNX)]
def aqX (ρ:Type):List (Þ ρ):=[]
def ay9 (ρ:Type):Env ρ:=Ø aKt (aqX ρ)
def aCc:Ö:=⟨[Ä,tI,tI],[Ł,.bool],fun(x:Val abH)=>ao8 x.1 x.2.1 x.2.2⟩
def aGC:È:={pin:=0,cs:=[tI,tI,tI,tI,f6,eI,l5,eW,eI],vs:=[tI,tI,tI,tI,tI],head:=⟨42,[.any,.con tI,.con tI,.box 0 0,.any,.any,.box 1 0,.any,.var tI],[ab8,acz]⟩,exits:=[(.ret,⟨42,[.any,.con tI,.con tI,.box 0 0,.any,.any,.box 1 0,.var .bool],[ab8,acz]⟩,[.bool,tI,tI,tI,tI]),(.exit 0,⟨42,[.any,.con tI,.con tI,.box 0 0,.any,.any,.box 1 0],[ab8,acz]⟩,[tI,tI,tI,tI])]}
def aq8 (ρ:Type):Þ ρ:=⟨[],183,0,aGC,fun(p:Val (.pair tI abD)) (v:Val ab7) b a=>ajb p.1 p.2.1 p.2.2.2.2.2.2.1 v.1 v.2.1 v.2.2.1 v.2.2.2.1 v.2.2.2.2 (fun c d e f g=>b (c,d,e,f,g)) (a 0) (a 1)⟩
def aOF:List (Nat×Ö):=[]
def auu (ρ:Type):List (Þ ρ):=[aq8 ρ]
def asx (ρ:Type):Env ρ:=Ø aOF (auu ρ)
def aTn:Ö:=⟨[m5,tI],[.bool],fun(x:Val abI)=>aBC x.1 x.2⟩
def aKM:È:={pin:=0,cs:=[m5,tI],vs:=[tI],head:=⟨18,[.con m5,.con tI,.any,.any,.any,.var tI],[]⟩,exits:=[(.ret,⟨18,[.con m5,.con tI,.any,.any,.var .bool],[]⟩,[.bool]),(.exit 0,⟨18,[.con m5,.con tI],[]⟩,[])]}
def auw (ρ:Type):Þ ρ:=⟨[],236,0,aKM,fun(p:Val abI) (v:Val tI) b a=>alH p.1 p.2 v (fun c=>b c) (a 0) (a 1)⟩
def aRu:List (Nat×Ö):=[]
def azf (ρ:Type):List (Þ ρ):=[auw ρ]
def axl (ρ:Type):Env ρ:=Ø aRu (azf ρ)
def aCd:Ö:=⟨[m5,m5],[m5],fun(x:Val abM)=>aez x.1 x.2⟩
def aGD:È:={pin:=0,cs:=[m5,m5],vs:=[tI,m5],head:=⟨28,[.con m5,.con m5,.any,.any,.any,.own 0,.var tI],[.rowv tI]⟩,exits:=[(.exit 0,⟨28,[.con m5,.con m5,.any,.any,.any,.own 0],[.rowv tI]⟩,[m5])]}
def aq9 (ρ:Type):Þ ρ:=⟨[],184,0,aGD,fun(p:Val abM) (v:Val abz) a b=>ajc p.1 p.2 v.1 v.2 (fun c d=>a (c,d)) (b 0)⟩
def aOG:List (Nat×Ö):=[(236,aTn)]
def auv (ρ:Type):List (Þ ρ):=[aq9 ρ]
def asy (ρ:Type):Env ρ:=Ø aOG (auv ρ)
def atG:Ö:=⟨[Ä,Ê],[tI],fun(x:Val abC)=>aei x.1 x.2⟩
def auk:È:={pin:=0,cs:=[tI,tI,f6,eI,l5,eW,eI,tI,tI,m5,m5,tI,tI,tI,tI,m5],vs:=[tI],head:=⟨90,[.any,.any,.box 0 0,.box 1 0,.any,.own 2,.var tI],acF⟩,exits:=[(.ret,⟨90,[.any,.any,.box 0 0,.box 1 0,.var tI,.own 2],acF⟩,[tI]),(.exit 0,⟨90,[.any,.any,.box 0 0,.box 1 0,.any,.own 2],acF⟩,[])]}
def ai6 (ρ:Type):Þ ρ:=⟨[],107,0,auk,fun(p:Val abv) (v:Val tI) b a=>let A:=p.2.2.2.2;aeH p.1 p.2.1 p.2.2.1 p.2.2.2.1 A.1 A.2.1 A.2.2.1 A.2.2.2.2.2.2.2.2.2.2.2 v (fun c=>b c) (a 0) (a 1)⟩
def auj:È:={pin:=0,cs:=[tI,tI,f6,eI,l5,eW,eI,tI,tI,m5,m5,tI,tI,tI,tI,m5],vs:=[tI],head:=⟨90,[.any,.any,.box 0 0,.box 1 0,.any,.own 2,.any,.var tI],acF⟩,exits:=[(.ret,⟨90,[.any,.any,.box 0 0,.box 1 0,.var tI,.own 2],acF⟩,[tI]),(.exit 2,⟨90,[.any,.any,.box 0 0,.box 1 0,.any,.own 2],acF⟩,[])]}
def ai5 (ρ:Type):Þ ρ:=⟨[],107,2,auj,fun(p:Val abv) (v:Val tI) b a=>let A:=p.2.2.2.2;adD p.1 p.2.1 p.2.2.1 p.2.2.2.1 A.1 A.2.1 A.2.2.1 A.2.2.2.2.1 A.2.2.2.2.2.2.2.2.2.2.2 v (fun c=>b c) (a 0) (a 1)⟩
def aui:È:={pin:=0,cs:=[tI,tI,f6,eI,l5,eW,eI,tI,tI,m5,m5,tI,tI,tI,tI,m5],vs:=[tI],head:=⟨90,[.any,.any,.box 0 0,.box 1 0,.any,.own 2,.any,.any,.var tI],acF⟩,exits:=[(.ret,⟨90,[.any,.any,.box 0 0,.box 1 0,.var tI,.own 2],acF⟩,[tI]),(.exit 4,⟨90,[.any,.any,.box 0 0,.box 1 0,.any,.own 2],acF⟩,[])]}
def ai4 (ρ:Type):Þ ρ:=⟨[],107,4,aui,fun(p:Val abv) (v:Val tI) b a=>let A:=p.2.2.2.2;ŷ p.1 p.2.1 p.2.2.1 p.2.2.2.1 A.1 A.2.1 A.2.2.1 A.2.2.2.2.1 A.2.2.2.2.2.2.2.2.2.2.2 v (fun c=>b c) (a 0) (a 1)⟩
def aAu:List (Nat×Ö):=[(109,akt),(182,anH),(183,aCc),(184,aCd)]
def akG (ρ:Type):List (Þ ρ):=[ai6 ρ,ai5 ρ,ai4 ρ]
def adU (ρ:Type):Env ρ:=Ø aAu (akG ρ)
def aBn:Ö:=⟨[m5,m5],[tI],fun(x:Val abM)=>ahC x.1 x.2⟩
def aRq:List (Nat×Ö):=[(184,aCd)]
def aza (ρ:Type):List (Þ ρ):=[]
def aIL (ρ:Type):Env ρ:=Ø aRq (aza ρ)
def aNU:Ö:=⟨[Ä,Ð,tI],[.bool],fun(x:Val (.pair Ä (.pair Ð tI)))=>awg x.1 x.2.1 x.2.2⟩
def aGs:È:={pin:=0,cs:=[tI,tI,tI,f6,eI,l5,eW,eI,tI,tI,tI,tI,tI,tI,tI,tI],vs:=[tI],head:=⟨76,[.any,.any,.con tI,.box 0 0,.box 1 0,.any,.any,.var tI],acG⟩,exits:=[(.ret,⟨76,[.any,.any,.con tI,.box 0 0,.box 1 0,.any,.var .bool],acG⟩,[.bool]),(.exit 0,⟨76,[.any,.any,.con tI,.box 0 0,.box 1 0],acG⟩,[])]}
def aq2 (ρ:Type):Þ ρ:=⟨[],185,0,aGs,fun(p:Val (.pair tI abB)) (v:Val tI) b a=>ai7 p.1 p.2.2.2.2.2.2.1 p.2.2.2.2.2.2.2.2.1 v (fun c=>b c) (a 0) (a 1)⟩
def aGr:È:={pin:=0,cs:=[tI,tI,tI,f6,eI,l5,eW,eI,tI,tI,tI,tI,tI,tI,tI,tI],vs:=[tI],head:=⟨76,aN 2 (.con tI::.box 0 0::.box 1 0::aN 4 [.var tI]),acG⟩,exits:=[(.ret,⟨76,[.any,.any,.con tI,.box 0 0,.box 1 0,.any,.var .bool],acG⟩,[.bool]),(.exit 2,⟨76,[.any,.any,.con tI,.box 0 0,.box 1 0],acG⟩,[])]}
def aq1 (ρ:Type):Þ ρ:=⟨[],185,2,aGr,fun(p:Val (.pair tI abB)) (v:Val tI) b a=>agG p.1 p.2.2.2.2.2.2.2.1 p.2.2.2.2.2.2.2.2.1 v (fun c=>b c) (a 0) (a 1)⟩
def aOz:List (Nat×Ö):=[(187,aBn)]
def aul (ρ:Type):List (Þ ρ):=[aq2 ρ,aq1 ρ]
def alE (ρ:Type):Env ρ:=Ø aOz (aul ρ)
def aku:Ö:=⟨[Ä],[eI],fun(x:Val Ä)=>aej x⟩
def aC5:È:={pin:=0,cs:=[tI,tI,f6,eI,l5,eW,eI],vs:=[tI,m5],head:=⟨114,[.any,.box 0 0,.any,.own 1,.var tI],ac6⟩,exits:=[(.exit 0,⟨114,[.any,.box 0 0,.any,.own 1],ac6⟩,[m5])]}
def an5 (ρ:Type):Þ ρ:=⟨[],110,0,aC5,fun(p:Val nn) (v:Val abz) a b=>ahs p.2.2.1 v.1 v.2 (fun c d=>a (c,d)) (b 0)⟩
def aC4:È:={pin:=0,cs:=[tI,tI,f6,eI,l5,eW,eI],vs:=[tI,m5],head:=⟨114,[.any,.box 0 0,.any,.own 1,.any,.var tI],ac6⟩,exits:=[(.exit 2,⟨114,[.any,.box 0 0,.any,.own 1],ac6⟩,[m5])]}
def an4 (ρ:Type):Þ ρ:=⟨[],110,2,aC4,fun(p:Val nn) (v:Val abz) a b=>ahr p.2.2.2.2.2.1 v.1 v.2 (fun c d=>a (c,d)) (b 0)⟩
def aC3:È:={pin:=0,cs:=[tI,tI,f6,eI,l5,eW,eI],vs:=[tI,m5],head:=⟨114,[.any,.box 0 0,.any,.own 1,.any,.any,.var tI],ac6⟩,exits:=[(.exit 4,⟨114,[.any,.box 0 0,.any,.own 1],ac6⟩,[m5])]}
def an3 (ρ:Type):Þ ρ:=⟨[],110,4,aC3,fun(p:Val nn) (v:Val abz) a b=>ahq p.2.2.2.2.2.2 v.1 v.2 (fun c d=>a (c,d)) (b 0)⟩
def aC0:È:={pin:=0,cs:=[tI,tI,tI,tI,f6,eI,l5,eW,eI,m5,eI],vs:=[tI,tI],head:=⟨114,[.any,.box 0 0,.any,.own 1,.any,.any,.any,.own 2,.con tI,.con tI,.var tI,.var tI],[ab8,.rowc tI,.rowc Ã]⟩,exits:=[(.exit 10,⟨114,[.any,.box 0 0,.any,.own 1,.any,.any,.any,.own 2,.con tI,.con tI,.var tI],[ab8,.rowc tI,.rowc Ã]⟩,[tI])]}
def an0 (ρ:Type):Þ ρ:=⟨[],110,10,aC0,fun(p:Val (.pair tI (.pair tI (.pair tI (.pair tI (.pair f6 (.pair eI (.pair l5 (.pair eW (.pair eI (.pair m5 eI))))))))))) (v:Val Ã) a b=>afq p.2.1 p.2.2.2.2.2.2.2.2.2.1 v.1 v.2 (fun c d=>a (c,d)) (b 0)⟩
def aC1:È:={pin:=0,cs:=[tI,tI,tI,f6,eI,l5,eW,eI,m5],vs:=[tI,eI],head:=⟨114,[.any,.box 0 0,.any,.own 1,.any,.any,.any,.own 2,.con tI,.var tI],ac7⟩,exits:=[(.exit 8,⟨114,[.any,.box 0 0,.any,.own 1,.any,.any,.any,.own 2,.con tI],ac7⟩,[eI])]}
def an1 (ρ:Type):Þ ρ:=⟨[],110,8,aC1,fun(p:Val (.pair tI (.pair tI (.pair tI (.pair f6 (.pair eI (.pair l5 (.pair eW (.pair eI m5))))))))) (v:Val abG) a b=>let A:=p.2.2.2.2;afr p.1 p.2.1 p.2.2.1 p.2.2.2.1 A.1 A.2.1 A.2.2.1 A.2.2.2.1 A.2.2.2.2 v.1 v.2 (fun c d=>a (c,d)) (b 0)⟩
def aC2:È:={pin:=0,cs:=[tI,tI,f6,eI,l5,eW,eI,m5],vs:=[tI,eI],head:=⟨114,[.any,.box 0 0,.any,.own 1,.any,.any,.any,.own 2,.var tI],ac7⟩,exits:=[(.exit 6,⟨114,[.any,.box 0 0,.any,.own 1,.any,.any,.any,.own 2],ac7⟩,[eI])]}
def an2 (ρ:Type):Þ ρ:=⟨[],110,6,aC2,fun(p:Val (.pair tI (.pair tI (.pair f6 (.pair eI (.pair l5 (.pair eW (.pair eI m5)))))))) (v:Val abG) a b=>let A:=p.2.2.2.2;ahp p.1 p.2.1 p.2.2.1 p.2.2.2.1 A.1 A.2.1 A.2.2.1 A.2.2.2 v.1 v.2 (fun c d=>a (c,d)) (b 0)⟩
def aKH:List (Nat×Ö):=[(185,aNU)]
def aq6 (ρ:Type):List (Þ ρ):=[an5 ρ,an4 ρ,an3 ρ,an0 ρ,an1 ρ,an2 ρ]
def adi (ρ:Type):Env ρ:=Ø aKH (aq6 ρ)
def apB:Ö:=⟨[Ä,Ã],[tI],fun(x:Val abH)=>χ x.1 x.2⟩
def aDc:È:={pin:=0,cs:=[eI,tI,tI],vs:=[tI],head:=⟨23,[.any,.any,.any,.box 0 0,.any,.con eI,.var tI],[acf]⟩,exits:=[(.ret,⟨23,[.any,.any,.any,.box 0 0,.var tI,.con eI],[acf]⟩,[tI]),(.exit 0,⟨23,[.any,.any,.any,.box 0 0,.any,.con eI],[acf]⟩,[])]}
def an6 (ρ:Type):Þ ρ:=⟨[],115,0,aDc,fun(p:Val ab1) (v:Val tI) b a=>aht p.1 p.2.1 p.2.2 v (fun c=>b c) (a 0) (a 1)⟩
def aKL:List (Nat×Ö):=[(110,aku)]
def ara (ρ:Type):List (Þ ρ):=[an6 ρ]
def an7 (ρ:Type):Env ρ:=Ø aKL (ara ρ)
def aNV:Ö:=⟨[Ä,tI,tI],[.bool],fun(x:Val abH)=>awh x.1 x.2.1 x.2.2⟩
def aGt:È:={pin:=0,cs:=[tI,tI,tI,tI,f6,eI,l5,eW,eI],vs:=[tI],head:=⟨33,[.any,.con tI,.con tI,.box 0 0,.any,.any,.any,.var tI],acC⟩,exits:=[(.ret,⟨33,[.any,.con tI,.con tI,.box 0 0,.any,.any,.var .bool],acC⟩,[.bool]),(.exit 0,⟨33,[.any,.con tI,.con tI,.box 0 0],acC⟩,[])]}
def aq3 (ρ:Type):Þ ρ:=⟨[],237,0,aGt,fun(p:Val (.pair tI abD)) (v:Val tI) b a=>ai8 p.1 p.2.1 p.2.2.2.2.2.1 v (fun c=>b c) (a 0) (a 1)⟩
def aOA:List (Nat×Ö):=[]
def aum (ρ:Type):List (Þ ρ):=[aq3 ρ]
def ast (ρ:Type):Env ρ:=Ø aOA (aum ρ)
def aNY:Ö:=⟨[Ä,tI,tI,tI],[tI],fun(x:Val (.pair Ä ÿ))=>ale x.1 x.2.1 x.2.2.1 x.2.2.2⟩
def aGB:È:={pin:=0,cs:=[tI,tI,tI,tI,tI,f6,eI,l5,eW,eI],vs:=[tI,tI],head:=⟨48,.any::.con tI::.any::.con tI::.box 0 0::aN 4 [.con tI,.var tI,.var tI],acC⟩,exits:=[(.exit 0,⟨48,.any::.con tI::.any::.con tI::.box 0 0::aN 4 [.con tI,.var tI],acC⟩,[tI])]}
def aq7 (ρ:Type):Þ ρ:=⟨[],186,0,aGB,fun(p:Val (.pair tI (.pair tI abD))) (v:Val Ã) a b=>let A:=p.2.2.2.2;aja p.1 p.2.1 p.2.2.1 p.2.2.2.1 A.1 A.2.1 A.2.2.1 A.2.2.2.1 A.2.2.2.2.1 A.2.2.2.2.2 v.1 v.2 (fun c d=>a (c,d)) (b 0)⟩
def aOE:List (Nat×Ö):=[(182,anH),(183,aCc),(237,aNV)]
def aut (ρ:Type):List (Þ ρ):=[aq7 ρ]
def asw (ρ:Type):Env ρ:=Ø aOE (aut ρ)
def asa:Ö:=⟨[tI,tI],[į],fun(x:Val Ã)=>aiy x.1 x.2⟩
def aGM:List (Nat×Ö):=[(234,aJY),(235,aJZ)]
def aof (ρ:Type):List (Þ ρ):=[]
def auE (ρ:Type):Env ρ:=Ø aGM (aof ρ)
def aTr:Ö:=⟨[Ã,Ã],[į],fun(x:Val å)=>aMG x.1 x.2⟩
def aRD:List (Nat×Ö):=[(290,asa)]
def azq (ρ:Type):List (Þ ρ):=[]
def aIQ (ρ:Type):Env ρ:=Ø aRD (azq ρ)
def aTp:Ö:=⟨[Ã],[Ã],fun(x:Val Ã)=>aMF x⟩
def aRA:List (Nat×Ö):=[]
def azm (ρ:Type):List (Þ ρ):=[]
def aIO (ρ:Type):Env ρ:=Ø aRA (azm ρ)
def aTo:Ö:=⟨[Ã,Ã],[į],fun(x:Val å)=>aBD x.1 x.2⟩
def aRz:List (Nat×Ö):=[(282,aTr),(283,aTp)]
def azk (ρ:Type):List (Þ ρ):=[]
def aIN (ρ:Type):Env ρ:=Ø aRz (azk ρ)
def aIu:Ö:=⟨[Ä,tI],[Ã],fun(x:Val abL)=>alc x.1 x.2⟩
def aKw:List (Nat×Ö):=[(182,anH)]
def aqZ (ρ:Type):List (Þ ρ):=[]
def azb (ρ:Type):Env ρ:=Ø aKw (aqZ ρ)
def aN0:Ö:=⟨[į,į],[ako],fun(x:Val (.pair į į))=>awi x.1 x.2⟩
def aOO:List (Nat×Ö):=[]
def auG (ρ:Type):List (Þ ρ):=[]
def aDr (ρ:Type):Env ρ:=Ø aOO (auG ρ)
def aTq:Ö:=⟨[Ã,Ã],[į],fun(x:Val å)=>amy x.1 x.2⟩
def aRB:List (Nat×Ö):=[(290,asa)]
def azn (ρ:Type):List (Þ ρ):=[]
def aIP (ρ:Type):Env ρ:=Ø aRB (azn ρ)
def aIy:Ö:=⟨[å,Ã],[ako],fun(x:Val (.pair å Ã))=>ap3 x.1 x.2⟩
def aKY:List (Nat×Ö):=[(284,aN0),(285,aTq)]
def arh (ρ:Type):List (Þ ρ):=[]
def azl (ρ:Type):Env ρ:=Ø aKY (arh ρ)
def aCe:Ö:=⟨[Ä,Ê],[å],fun(x:Val abC)=>amw x.1 x.2⟩
def aGG:List (Nat×Ö):=[(187,aBn),(264,aTo),(265,aIu),(266,aIy)]
def an8 (ρ:Type):List (Þ ρ):=[]
def auy (ρ:Type):Env ρ:=Ø aGG (an8 ρ)
def aIw:Ö:=⟨[Ä,Ê],[Ã],fun(x:Val abC)=>ap0 x.1 x.2⟩
def aKP:List (Nat×Ö):=[]
def arc (ρ:Type):List (Þ ρ):=[]
def azg (ρ:Type):Env ρ:=Ø aKP (arc ρ)
def aNZ:Ö:=⟨[tI,tI],[tI],fun(x:Val Ã)=>aFd x.1 x.2⟩
def aON:List (Nat×Ö):=[]
def auF (ρ:Type):List (Þ ρ):=[]
def aDp (ρ:Type):Env ρ:=Ø aON (auF ρ)
def aIz:Ö:=⟨[Ã],[tI],fun(x:Val Ã)=>ap5 x⟩
def aK3:List (Nat×Ö):=[(267,aNZ)]
def ari (ρ:Type):List (Þ ρ):=[]
def azp (ρ:Type):Env ρ:=Ø aK3 (ari ρ)
def aWq:Ö:=⟨[tI,tI],[tI],fun(x:Val Ã)=>aSm x.1 x.2⟩
def aUQ:List (Nat×Ö):=[]
def aDn (ρ:Type):List (Þ ρ):=[]
def aOM (ρ:Type):Env ρ:=Ø aUQ (aDn ρ)
def aN1:Ö:=⟨[Ã],[tI],fun(x:Val Ã)=>awj x⟩
def aOT:List (Nat×Ö):=[(268,aWq)]
def auI (ρ:Type):List (Þ ρ):=[]
def aDt (ρ:Type):Env ρ:=Ø aOT (auI ρ)
def aNW:Ö:=⟨[Ä,Ê],[Ã],fun(x:Val abC)=>ald x.1 x.2⟩
def aOC:List (Nat×Ö):=[(238,aCe),(239,aIw),(240,aIz),(241,aN1)]
def aur (ρ:Type):List (Þ ρ):=[]
def aCW (ρ:Type):Env ρ:=Ø aOC (aur ρ)
def aJW:Ö:=⟨[Ä],[amO],fun(x:Val Ä)=>amv x⟩
def aKB:È:={pin:=0,cs:=[eI,tI,tI,tI,f6,eI,l5,eW,eI,tI,tI,tI,tI,tI,tI,tI,tI],vs:=[tI,wi,eI],head:=⟨182,[.any,.box 0 0,.box 1 0,.box 2 0,.con eI,.con tI,.box 3 0,.var tI],[ab8,acA,.cells [.own 4,.own 5],ab9,.rowv ÿ,.rowv Ã]⟩,exits:=[(.exit 2,⟨182,[.any,.box 0 0,.box 1 0,.box 2 0,.con eI,.con tI,.box 3 0],[ab8,acA,.cells [.own 4,.own 5],ab9,.rowv ÿ,.rowv Ã]⟩,[wi,eI])]}
def auo (ρ:Type):Þ ρ:=⟨[],111,2,aKB,fun(p:Val (.pair eI (.pair tI abB))) (v:Val abR) a b=>let A:=p.2.2.2.2;let B:=A.2.2.2.2;ah9 p.1 p.2.1 p.2.2.1 p.2.2.2.1 A.1 A.2.1 A.2.2.1 A.2.2.2.1 B.1 B.2.1 B.2.2.1 B.2.2.2.1 B.2.2.2.2.1 B.2.2.2.2.2.1 v.1 v.2.1 v.2.2 (fun c d e=>a (c,d,e)) (b 0)⟩
def aKC:È:={pin:=0,cs:=[eI,tI,tI,f6,eI,l5,eW,eI],vs:=[tI,wi,eI],head:=⟨182,[.any,.box 0 0,.box 1 0,.box 2 0,.con eI,.var tI],ac8⟩,exits:=[(.exit 0,⟨182,[.any,.box 0 0,.box 1 0,.box 2 0,.con eI],ac8⟩,[wi,eI])]}
def aup (ρ:Type):Þ ρ:=⟨[],111,0,aKC,fun(p:Val (.pair eI nn)) (v:Val abR) a b=>let A:=p.2.2.2.2;alG p.1 p.2.1 p.2.2.1 p.2.2.2.1 A.1 A.2.1 A.2.2.1 A.2.2.2 v.1 v.2.1 v.2.2 (fun c d e=>a (c,d,e)) (b 0)⟩
def aKA:È:={pin:=0,cs:=[tI,tI,f6,eI,l5,eW,eI],vs:=[tI,wi,eI],head:=⟨182,.any::.box 0 0::.box 1 0::.box 2 0::aN 5 [.var tI],ac8⟩,exits:=[(.exit 4,⟨182,[.any,.box 0 0,.box 1 0,.box 2 0],ac8⟩,[wi,eI])]}
def aun (ρ:Type):Þ ρ:=⟨[],111,4,aKA,fun(p:Val nn) (v:Val abR) a b=>let A:=p.2.2.2.2;alF p.1 p.2.1 p.2.2.1 p.2.2.2.1 A.1 A.2.1 A.2.2 v.1 v.2.1 v.2.2 (fun c d e=>a (c,d,e)) (b 0)⟩
def aRr:List (Nat×Ö):=[(110,aku),(115,apB),(186,aNY),(187,aBn),(188,aNW)]
def azd (ρ:Type):List (Þ ρ):=[auo ρ,aup ρ,aun ρ]
def akH (ρ:Type):Env ρ:=Ø aRr (azd ρ)
def apC:Ö:=⟨[Ä],[tI],fun(x:Val Ä)=>age x⟩
def aDk:È:={pin:=0,cs:=[tI,tI,f6,eI,l5,eW,eI],vs:=[tI],head:=⟨170,[.any,.box 0 0,.any,.var tI],acC⟩,exits:=[(.ret,⟨170,[.any,.box 0 0,.var tI],acC⟩,[tI]),(.exit 0,⟨170,[.any,.box 0 0],acC⟩,[])]}
def aoc (ρ:Type):Þ ρ:=⟨[],44,0,aDk,fun(p:Val nn) (v:Val tI) b a=>ahv p.2.2.1 v (fun c=>b c) (a 0) (a 1)⟩
def aDi:È:={pin:=0,cs:=[tI,tI,tI,f6,eI,l5,eW,eI],vs:=[tI],head:=⟨170,.any::.box 0 0::aN 4 [.con tI,.any,.var tI],acC⟩,exits:=[(.ret,⟨170,[.any,.box 0 0,.var tI,.any,.any,.any,.con tI],acC⟩,[tI]),(.exit 4,⟨170,.any::.box 0 0::aN 4 [.con tI],acC⟩,[])]}
def aoa (ρ:Type):Þ ρ:=⟨[],44,4,aDi,fun(p:Val abD) (v:Val tI) b a=>ahu p.1 p.2.2.2.2.2.2.1 v (fun c=>b c) (a 0) (a 1)⟩
def aDj:È:={pin:=0,cs:=[tI,tI,f6,eI,l5,eW,eI],vs:=[tI],head:=⟨170,.any::.box 0 0::aN 4 [.var tI],acC⟩,exits:=[(.ret,⟨170,[.any,.box 0 0,.var tI],acC⟩,[tI]),(.exit 2,⟨170,[.any,.box 0 0],acC⟩,[])]}
def aob (ρ:Type):Þ ρ:=⟨[],44,2,aDj,fun(p:Val nn) (v:Val tI) b a=>let A:=p.2.2.2.2;ad9 p.1 p.2.1 p.2.2.1 p.2.2.2.1 A.1 A.2.1 A.2.2 v (fun c=>b c) (a 0) (a 1)⟩
def aDh:È:={pin:=0,cs:=[tI,tI,f6,eI,l5,eW,eI],vs:=[tI],head:=⟨170,.any::.box 0 0::aN 7 [.var tI],acC⟩,exits:=[(.ret,⟨170,[.any,.box 0 0,.var tI],acC⟩,[tI]),(.exit 6,⟨170,[.any,.box 0 0],acC⟩,[])]}
def an9 (ρ:Type):Þ ρ:=⟨[],44,6,aDh,fun(p:Val nn) (v:Val tI) b a=>let A:=p.2.2.2.2;ad8 p.1 p.2.1 p.2.2.1 p.2.2.2.1 A.1 A.2.1 A.2.2 v (fun c=>b c) (a 0) (a 1)⟩
def aKR:List (Nat×Ö):=[(102,agw),(103,aIv),(104,aNT),(105,aIt),(106,aIs),(107,atG),(108,atH),(109,akt),(110,aku),(111,aJW)]
def ard (ρ:Type):List (Þ ρ):=[aoc ρ,aoa ρ,aob ρ,an9 ρ]
def ae5 (ρ:Type):Env ρ:=Ø aKR (ard ρ)
def aIq:Ö:=⟨[Ä,Ð],[.bool],fun(x:Val (.pair Ä Ð))=>ahU x.1 x.2⟩
def aCF:È:={pin:=0,cs:=[tI,tI,f6,eI,l5,eW,eI,tI,tI,tI,tI,tI,tI,tI,tI],vs:=[tI],head:=⟨20,[.any,.any,.box 0 0,.box 1 0,.any,.var tI],acG⟩,exits:=[(.ret,⟨20,[.any,.any,.box 0 0,.box 1 0,.var .bool],acG⟩,[.bool]),(.exit 0,⟨20,[.any,.any,.box 0 0,.box 1 0],acG⟩,[])]}
def anT (ρ:Type):Þ ρ:=⟨[],112,0,aCF,fun(p:Val abB) (v:Val tI) b a=>let A:=p.2.2.2.2.2.2.2;let B:=A.2.2.2.2;ahm p.2.2.1 A.1 A.2.1 A.2.2.1 A.2.2.2.1 B.1 B.2.1 B.2.2.1 B.2.2.2 v (fun c=>b c) (a 0) (a 1)⟩
def aKp:List (Nat×Ö):=[]
def aqQ (ρ:Type):List (Þ ρ):=[anT ρ]
def anU (ρ:Type):Env ρ:=Ø aKp (aqQ ρ)
def atI:Ö:=⟨[m5,m5],[.bool],fun(x:Val abM)=>afz x.1 x.2⟩
def auB:È:={pin:=0,cs:=[m5,m5],vs:=[tI],head:=⟨26,[.con m5,.con m5,.any,.any,.any,.var tI],[]⟩,exits:=[(.ret,⟨26,[.con m5,.con m5,.any,.any,.var .bool],[]⟩,[.bool]),(.exit 0,⟨26,[.con m5,.con m5],[]⟩,[])]}
def aje (ρ:Type):Þ ρ:=⟨[],189,0,auB,fun(p:Val abM) (v:Val tI) b a=>aeI p.1 p.2 v (fun c=>b c) (a 0) (a 1)⟩
def aAG:List (Nat×Ö):=[]
def akI (ρ:Type):List (Þ ρ):=[aje ρ]
def aia (ρ:Type):Env ρ:=Ø aAG (akI ρ)
def amR:Ö:=⟨[Ê,Ê],[.bool],fun(x:Val (.pair Ê Ê))=>aeL x.1 x.2⟩
def asn:List (Nat×Ö):=[(189,atI)]
def aha (ρ:Type):List (Þ ρ):=[]
def aiY (ρ:Type):Env ρ:=Ø asn (aha ρ)
def aIp:Ö:=⟨[Ä,tI],[.bool],fun(x:Val abL)=>aeh x.1 x.2⟩
def aCE:È:={pin:=0,cs:=[tI,tI,tI,f6,eI,l5,eW,eI],vs:=[tI],head:=⟨21,[.any,.con tI,.box 0 0,.any,.any,.var tI],acC⟩,exits:=[(.ret,⟨21,[.any,.con tI,.box 0 0,.any,.var .bool],acC⟩,[.bool]),(.exit 0,⟨21,[.any,.con tI,.box 0 0],acC⟩,[])]}
def anR (ρ:Type):Þ ρ:=⟨[],190,0,aCE,fun(p:Val abD) (v:Val tI) b a=>ahl p.1 p.2.2.2.1 v (fun c=>b c) (a 0) (a 1)⟩
def aKo:List (Nat×Ö):=[]
def aqP (ρ:Type):List (Þ ρ):=[anR ρ]
def anS (ρ:Type):Env ρ:=Ø aKo (aqP ρ)
def aNR:Ö:=⟨[Ä,Ä,Ä],[.bool],fun(x:Val (.pair Ä abV))=>ao6 x.1 x.2.1 x.2.2⟩
def aGe:È:={pin:=0,cs:=[tI,tI,tI,f6,eI,l5,eW,eI,tI,tI,f6,eI,l5,eW,eI,tI,tI,f6,eI,l5,eW,eI],vs:=[.bool,tI],head:=⟨91,[.any,.any,.any,.box 0 0,.box 1 0,.box 2 0,.any,.con tI,.var .bool,.var tI],ac9⟩,exits:=[(.exit 2,⟨91,[.any,.any,.any,.box 0 0,.box 1 0,.box 2 0,.any,.con tI,.var .bool],ac9⟩,[.bool])]}
def aqN (ρ:Type):Þ ρ:=⟨[],114,2,aGe,fun(p:Val (.pair tI abK)) (v:Val abJ) a b=>aiW p.1 p.2.2.2.2.1 p.2.2.2.2.2.2.2.2.2.2.2.1 v.1 v.2 (fun c d=>a (c,d)) (b 0)⟩
def aGf:È:={pin:=0,cs:=[tI,tI,f6,eI,l5,eW,eI,tI,tI,f6,eI,l5,eW,eI,tI,tI,f6,eI,l5,eW,eI],vs:=[tI],head:=⟨91,[.any,.any,.any,.box 0 0,.box 1 0,.box 2 0,.any,.var tI],ac9⟩,exits:=[(.ret,⟨91,[.any,.any,.any,.box 0 0,.box 1 0,.box 2 0,.var .bool],ac9⟩,[.bool]),(.exit 0,⟨91,[.any,.any,.any,.box 0 0,.box 1 0,.box 2 0],ac9⟩,[])]}
def aqO (ρ:Type):Þ ρ:=⟨[],114,0,aGf,fun(p:Val abK) (v:Val tI) b a=>let A:=p.2.2.2.2.2.2.2.2.2.2;let B:=A.2.2.2.2;let C:=B.2.2.2.2;aiX p.2.2.2.1 A.1 B.1 B.2.1 B.2.2.1 B.2.2.2.1 C.1 C.2.1 C.2.2 v (fun c=>b c) (a 0) (a 1)⟩
def aGc:È:={pin:=0,cs:=[tI,tI,tI,f6,eI,l5,eW,eI,tI,tI,f6,eI,l5,eW,eI,tI,tI,f6,eI,l5,eW,eI],vs:=[.bool,tI],head:=⟨91,aN 3 (.box 0 0::.box 1 0::.box 2 0::aN 4 [.con tI,.var .bool,.var tI]),ac9⟩,exits:=[(.exit 6,⟨91,aN 3 (.box 0 0::.box 1 0::.box 2 0::aN 4 [.con tI,.var .bool]),ac9⟩,[.bool])]}
def aqL (ρ:Type):Þ ρ:=⟨[],114,6,aGc,fun(p:Val (.pair tI abK)) (v:Val abJ) a b=>aiU p.1 p.2.2.2.2.2.1 p.2.2.2.2.2.2.2.2.2.2.2.2.1 v.1 v.2 (fun c d=>a (c,d)) (b 0)⟩
def aGd:È:={pin:=0,cs:=[tI,tI,f6,eI,l5,eW,eI,tI,tI,f6,eI,l5,eW,eI,tI,tI,f6,eI,l5,eW,eI],vs:=[tI],head:=⟨91,aN 3 (.box 0 0::.box 1 0::.box 2 0::aN 4 [.var tI]),ac9⟩,exits:=[(.ret,⟨91,[.any,.any,.any,.box 0 0,.box 1 0,.box 2 0,.var .bool],ac9⟩,[.bool]),(.exit 4,⟨91,[.any,.any,.any,.box 0 0,.box 1 0,.box 2 0],ac9⟩,[])]}
def aqM (ρ:Type):Þ ρ:=⟨[],114,4,aGd,fun(p:Val abK) (v:Val tI) b a=>let A:=p.2.2.2.2;let B:=A.2.2.2.2.2.2.2;let C:=B.2.2.2.2;aiV A.1 B.1 B.2.2.2.1 C.1 C.2.1 C.2.2.1 C.2.2.2.1 C.2.2.2.2.1 C.2.2.2.2.2 v (fun c=>b c) (a 0) (a 1)⟩
def aOv:List (Nat×Ö):=[(190,aIp)]
def aud (ρ:Type):List (Þ ρ):=[aqN ρ,aqO ρ,aqL ρ,aqM ρ]
def af1 (ρ:Type):Env ρ:=Ø aOv (aud ρ)
def aNS:Ö:=⟨[Ä,Ä],[.bool],fun(x:Val abV)=>ï x.1 x.2⟩
def aGk:È:={pin:=0,cs:=[tI,tI,f6,eI,l5,eW,eI,tI,tI,f6,eI,l5,eW,eI],vs:=[tI],head:=⟨69,[.any,.any,.box 0 0,.box 1 0,.any,.var tI],ada⟩,exits:=[(.ret,⟨69,[.any,.any,.box 0 0,.box 1 0,.var .bool],ada⟩,[.bool]),(.exit 0,⟨69,[.any,.any,.box 0 0,.box 1 0],ada⟩,[])]}
def aqT (ρ:Type):Þ ρ:=⟨[],45,0,aGk,fun(p:Val aby) (v:Val tI) b a=>let A:=p.2.2.2.2.2.2.2;let B:=A.2.2.2.2;ai1 p.2.2.1 A.1 A.2.1 A.2.2.1 A.2.2.2.1 B.1 B.2.1 B.2.2 v (fun c=>b c) (a 0) (a 1)⟩
def aGi:È:={pin:=0,cs:=[tI,tI,tI,f6,eI,l5,eW,eI,tI,tI,f6,eI,l5,eW,eI],vs:=[.bool,tI],head:=⟨69,[.any,.any,.box 0 0,.box 1 0,.any,.any,.con tI,.var .bool,.var tI],ada⟩,exits:=[(.exit 4,⟨69,[.any,.any,.box 0 0,.box 1 0,.any,.any,.con tI,.var .bool],ada⟩,[.bool])]}
def aqR (ρ:Type):Þ ρ:=⟨[],45,4,aGi,fun(p:Val (.pair tI aby)) (v:Val abJ) a b=>aiZ p.1 p.2.2.2.2.2.2.1 p.2.2.2.2.2.2.2.2.2.2.2.2.2.1 v.1 v.2 (fun c d=>a (c,d)) (b 0)⟩
def aGj:È:={pin:=0,cs:=[tI,tI,f6,eI,l5,eW,eI,tI,tI,f6,eI,l5,eW,eI],vs:=[tI],head:=⟨69,[.any,.any,.box 0 0,.box 1 0,.any,.any,.var tI],ada⟩,exits:=[(.ret,⟨69,[.any,.any,.box 0 0,.box 1 0,.var .bool],ada⟩,[.bool]),(.exit 2,⟨69,[.any,.any,.box 0 0,.box 1 0],ada⟩,[])]}
def aqS (ρ:Type):Þ ρ:=⟨[],45,2,aGj,fun(p:Val aby) (v:Val tI) b a=>ai0 p.2.2.2.2.2.1 p.2.2.2.2.2.2.2.2.2.2.2.2.1 v (fun c=>b c) (a 0) (a 1)⟩
def aOw:List (Nat×Ö):=[(112,aIq),(113,amR),(114,aNR)]
def aue (ρ:Type):List (Þ ρ):=[aqT ρ,aqR ρ,aqS ρ]
def ah6 (ρ:Type):Env ρ:=Ø aOw (aue ρ)
def ar9:Ö:=⟨[Ä],[Í],fun(x:Val Ä)=>aiw x⟩
def aGx:List (Nat×Ö):=[(110,aku),(111,aJW)]
def anZ (ρ:Type):List (Þ ρ):=[]
def auq (ρ:Type):Env ρ:=Ø aGx (anZ ρ)
def aJX:Ö:=⟨[Í,tI,m5],[tI,tI,.bool],fun(x:Val (.pair Í abz))=>ap1 x.1 x.2.1 x.2.2⟩
def aKS:È:={pin:=0,cs:=[m5,tI,wi],vs:=[tI,tI,tI],head:=⟨67,.any::.var tI::.con m5::.box 0 0::aN 5 [.var tI,.var tI],[aci]⟩,exits:=[(.ret,⟨67,[.any,.any,.con m5,.box 0 0,.any,.any,.var tI,.var tI,.var .bool],[aci]⟩,[tI,tI,.bool]),(.exit 0,⟨67,.any::.var tI::.con m5::.box 0 0::aN 5 [.var tI],[aci]⟩,[tI,tI])]}
def auA (ρ:Type):Þ ρ:=⟨[],191,0,aKS,fun(p:Val (.pair m5 Í)) (v:Val ÿ) b a=>alI p.1 p.2.2 v.1 v.2.1 v.2.2 (fun c d e=>b (c,d,e)) (a 0) (a 1)⟩
def aRw:List (Nat×Ö):=[]
def azi (ρ:Type):List (Þ ρ):=[auA ρ]
def axo (ρ:Type):Env ρ:=Ø aRw (azi ρ)
def aIr:Ö:=⟨[ĉ],[.bool],fun(x:Val ĉ)=>apW x⟩
def aKr:List (Nat×Ö):=[(115,apB),(118,ar9),(191,aJX)]
def aqU (ρ:Type):List (Þ ρ):=[]
def ay8 (ρ:Type):Env ρ:=Ø aKr (aqU ρ)
def aqE:Ö:=⟨[ĉ],[tI],fun(x:Val ĉ)=>ĝ x⟩
def axb:List (Nat×Ö):=[(44,apC),(115,apB),(116,aIr)]
def ai2 (ρ:Type):List (Þ ρ):=[]
def amU (ρ:Type):Env ρ:=Ø axb (ai2 ρ)
def ay2:Ö:=⟨[Í,m5],[.bool],fun(x:Val abT)=>ajI x.1 x.2⟩
def axq:È:={pin:=0,cs:=[m5,tI,wi],vs:=[tI],head:=⟨27,[.any,.con m5,.box 0 0,.any,.any,.var tI],[aci]⟩,exits:=[(.ret,⟨27,[.any,.con m5,.box 0 0,.any,.var .bool],[aci]⟩,[.bool]),(.exit 0,⟨27,[.any,.con m5,.box 0 0],[aci]⟩,[])]}
def akJ (ρ:Type):Þ ρ:=⟨[],192,0,axq,fun(p:Val (.pair m5 Í)) (v:Val tI) b a=>afs p.1 p.2.2 v (fun c=>b c) (a 0) (a 1)⟩
def aDl:List (Nat×Ö):=[]
def amW (ρ:Type):List (Þ ρ):=[akJ ρ]
def ajT (ρ:Type):Env ρ:=Ø aDl (amW ρ)
def aCf:Ö:=⟨[Í,m5],[.bool],fun(x:Val abT)=>atf x.1 x.2⟩
def aGL:List (Nat×Ö):=[(191,aJX),(192,ay2)]
def aoe (ρ:Type):List (Þ ρ):=[]
def auD (ρ:Type):Env ρ:=Ø aGL (aoe ρ)
def anG:Ö:=⟨[ĉ],[tI],fun(x:Val ĉ)=>č x⟩
def auf:List (Nat×Ö):=[(44,apC),(117,aCf),(118,ar9)]
def ah7 (ρ:Type):List (Þ ρ):=[]
def akF (ρ:Type):Env ρ:=Ø auf (ah7 ρ)
def afh:Ö:=⟨[Ä,Ä,ĉ],[.bool],fun(x:Val (.pair Ä (.pair Ä ĉ)))=>aiv x.1 x.2.1 x.2.2⟩
def auc:List (Nat×Ö):=[(13,aTm),(14,aCb),(35,aw1),(43,aTu),(44,apC),(45,aNS),(46,aqE),(47,anG)]
def ah4 (ρ:Type):List (Þ ρ):=[]
def akB (ρ:Type):Env ρ:=Ø auc (ah4 ρ)
end Go.Proofs.ZzM
end
