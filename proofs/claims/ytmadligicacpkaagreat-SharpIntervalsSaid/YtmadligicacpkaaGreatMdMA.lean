/- lemmas -/
import Derived.Test.YtmadligicacpkaaGreatAmF
import Derived.KernelRfl
import Derived.Test.YtmadligicacpkaaGreatMdTA
import Derived.Test.YtmadligicacpkaaGreatProg
set_option linter.all false
set_option linter.unusedSectionVars false
set_option linter.unusedVariables false
set_option linter.unusedSimpArgs false
noncomputable section
set_option maxRecDepth 100000
namespace Go.Proofs.ZzM
open Go Go.Am
def aFc:Nat→Bool
  |116=>true
  |130=>true
  |253=>true
  |254=>true
  |255=>true
  |256=>true
  |257=>true
  |_=>false
def aPR:Nat→Bool
  |232=>true
  |_=>false
def apy:Nat→Bool
  |233=>true
  |_=>false
def isInl:Nat→Bool
  |2=>true
  |47=>true
  |79=>true
  |85=>true
  |87=>true
  |113=>true
  |115=>true
  |118=>true
  |119=>true
  |123=>true
  |124=>true
  |125=>true
  |126=>true
  |127=>true
  |128=>true
  |129=>true
  |134=>true
  |153=>true
  |155=>true
  |161=>true
  |172=>true
  |173=>true
  |174=>true
  |175=>true
  |176=>true
  |177=>true
  |178=>true
  |179=>true
  |180=>true
  |181=>true
  |182=>true
  |183=>true
  |184=>true
  |185=>true
  |186=>true
  |191=>true
  |195=>true
  |196=>true
  |201=>true
  |213=>true
  |214=>true
  |215=>true
  |217=>true
  |218=>true
  |220=>true
  |221=>true
  |223=>true
  |224=>true
  |225=>true
  |228=>true
  |229=>true
  |230=>true
  |234=>true
  |236=>true
  |237=>true
  |247=>true
  |249=>true
  |251=>true
  |260=>true
  |261=>true
  |272=>true
  |273=>true
  |274=>true
  |275=>true
  |276=>true
  |277=>true
  |279=>true
  |280=>true
  |286=>true
  |287=>true
  |289=>true
  |290=>true
  |292=>true
  |293=>true
  |296=>true
  |297=>true
  |299=>true
  |301=>true
  |302=>true
  |_=>false
def isFz:Nat→Bool
  |62=>true
  |81=>true
  |108=>true
  |_=>false
def isEat:Nat→Nat→Bool
  |24,4=>true
  |24,5=>true
  |47,67=>true
  |115,30=>true
  |147,8=>true
  |147,11=>true
  |153,25=>true
  |225,0=>true
  |_,_=>false
def Ý {ρ:Type} (pt:List (Nat×Ü)) (tab:List (à ρ)):Env ρ :=
  {P:=Tryz.prog,eat:=isEat,clone:=aFc,sort:=aPR,compact:=apy,inl:=isInl,fz:=isFz,pure:=aVk pt,loops:=ah3 tab}
def a08 {ρ:Type} (pt:List (Nat×Ü)) (tab:List (à ρ)) (us:List aZb):Env ρ :=
  {P:=Tryz.prog,eat:=isEat,clone:=aFc,sort:=aPR,compact:=apy,inl:=isInl,fz:=isFz,pure:=aVk pt,loops:=aPJ (Ý pt tab) us}
abbrev aca:adZ:=.cells [.con tI,.con tI,.con f6,.con eI,.con m5,.con eW,.con eI]
abbrev acb:adZ:=.cells [.con tI,.con tI,.con tI,.con tI,.con tI,.con tI,.con tI,.con tI]
abbrev acd:adZ:=.cells [.con tI,.con tI,.con tI,.con tI]
abbrev ace:adZ:=.cells [.con l5]
abbrev acf:adZ:=.cells [.con tI]
abbrev acg:adZ:=.cells [.con tI,.con tI,.con l5,.con l5,.con tI,.con tI,.con tI,.con tI]
abbrev ach:adZ:=.cells [.con tI,.con tI]
abbrev aci:adZ:=.cells [.con tI,.con wi]
abbrev acj:adZ:=.cells [.own 6]
abbrev ack:adZ:=.cells [.con tI,.con tI,.con f6,.con eI,.con m5,.con eW,.con eI,.con eI,.con tI,.own 3,.own 4]
abbrev acl:adZ:=.cells [.con tI,.con tI,.con f6,.con eI,.con m5,.con eW,.con eI,.con eI,.con tI,.own 2,.own 3]
abbrev acm:adZ:=.cells [.con tI,.con tI,.nils,.nils,.nils,.nils,.nils]
abbrev acn:adZ:=.cells [.con tI,.con tI,.own 9,.own 10,.own 11,.con eW,.own 12]
abbrev aco:adZ:=.cells [.var tI,.var tI,.var f6,.var eI,.var m5,.var eW,.var eI]
abbrev acp:adZ:=.cells [.con tI,.con tI,.nils,.nils,.nils,.nils,.nils,.con tI,.con tI,.con .bool,.con tI,.nils]
abbrev acq:adZ:=.cells [.con tI,.con tI,.own 11,.own 12,.own 13,.con eW,.own 14]
abbrev acr:adZ:=.cells [.con tI,.con tI,.con f6,.con eI,.con m5,.con eW,.con eI,.con tI,.own 6]
abbrev acs:adZ:=.cells [.con tI,.con tI,.con tI]
abbrev acu:adZ:=.cells [.omp 3]
abbrev acv:adZ:=.cells [.con f6]
abbrev acw:adZ:=.cells [.fn 172 []]
abbrev acx:adZ:=.cells [.con eI]
abbrev acy:adZ:=.cells [.fn 173 [(2,0)]]
abbrev acz:adZ:=.cells [.con m5]
abbrev acA:adZ:=.cells [.fn 174 [(2,0)]]
abbrev acB:adZ:=.cells [.var tI,.var tI,.var tI,.var tI]
abbrev acC:adZ:=.cells [.nils,.nils]
abbrev acD:adZ:=.cells [.own 3,.own 4]
abbrev acE:adZ:=.cells [.var tI,.var tI,.nils,.nils,.nils,.nils,.nils,.var tI,.nils,.nils,.var tI]
abbrev acF:adZ:=.cells [.con tI,.con tI,.con f6,.con eI,.con m5,.con eW,.con eI,.con tI,.con wi,.con abr,.con tI]
abbrev acG:List adZ:=[aca]
abbrev acH:List adZ:=[acb,.rowv tI]
abbrev acI:List adZ:=[aca,acd]
abbrev acJ:List adZ:=[aca,acg,.rowc tI]
abbrev acK:List adZ:=[aci,.rowc tI,aci,acj,.rowv .bool,.rowc tI,.rowv tI]
abbrev acL:List adZ:=[aci,.rowv tI,aci,acj,.rowv .bool,.rowc tI,.rowv tI]
abbrev acM:List adZ:=[aci,.rowv tI,aci,acj,.rowv .bool,.rowv tI,.rowv tI]
abbrev acN:List adZ:=[aca,acb]
abbrev acO:List adZ:=[aca,acl,.rowv Ĉ,.rowv Ã]
abbrev acP:List adZ:=[aca,ach,acm,aca,acm,.dead,acn,acm,.rowv Í,.rowc Ó,.rowc Ã,.rowc Ō,.rowc Ã]
abbrev acQ:List adZ:=[aca,ach,ach,.rowc Ã,aco]
abbrev acR:List adZ:=[aca,ach,ach,ach,.rowc Ã,aco]
abbrev acS:List adZ:=[.rowc l5,aci,.dead,.dead,.rowv tI]
abbrev acT:List adZ:=[aci,acf,acf,aci,.rowv tI]
abbrev acU:List adZ:=[aca,.dead,.dead,acp,.rowc Ã,aco]
abbrev acV:List adZ:=[aca,.dead,.dead,acp,.rowc Ã,aca,aci,.dead,.rowf Ã 0,aca,aca]
abbrev acW:List adZ:=[aca,acg,acm,.dead,.dead,aca,acm,.dead,acq,acm,.rowv Í,.rowc Ó,.rowc Ã,.rowc Ō,.rowc Ã]
abbrev acX:List adZ:=[aca,ach,acg,.rowc Ã,aco]
abbrev acY:List adZ:=[aca,ach,ach,acg,.rowc Ã,aco]
abbrev acZ:List adZ:=[aca,ach,ach,acg,.rowc Ã,aca,aci,.dead,acb,.rowf l5 0,.rowf l5 0,.rowf l5 0]
abbrev ac0:List adZ:=[aci,.rowc abr,acs,aci,.rowv tI]
abbrev ac1:List adZ:=[aci,.rowc abr]
abbrev ac2:List adZ:=[aca,aca,acu,.mapc tI .bool,acg,acg]
abbrev ac3:List adZ:=[aca,aca,acu,.mapc tI .bool,acg]
abbrev ac4:List adZ:=[aca,aca,acu,.mapc tI .bool]
abbrev ac5:List adZ:=[aca,aca,acu,.mapc tI .bool,acv,acw]
abbrev ac6:List adZ:=[aca,aca,acu,.mapc tI .bool,acv,acw,acx,acy]
abbrev ac7:List adZ:=[aca,aca,acu,.mapc tI .bool,acv,acw,acx,acy,acx,acy]
abbrev ac8:List adZ:=[aca,aca,acu,.mapc tI .bool,acv,acw,acx,acy,acx,acy,acz,acA]
abbrev ac9:List adZ:=[aca,aca,acu,.mapc tI .bool,acv,acw,acx,acy,acx,acy,acz,acA,acz,acA]
abbrev ada:List adZ:=[aca,.rowv tI]
abbrev adb:List adZ:=[aca,.rowc tI,.rowv Ã]
abbrev adc:List adZ:=[aca,acC,acD,.rowv Ĉ,.rowv Ã]
abbrev ade:List adZ:=[aci,.deepv .i64]
end Go.Proofs.ZzM
end

noncomputable section
set_option maxRecDepth 100000
namespace Go.Proofs.ZzM
open Go Go.Am
def Ş:Ü:=⟨[abr],[l5],fun(x:Val abr)=>ò x⟩
def al5:É:={pin:=0,cs:=[abr,abr,tI],vs:=[tI,tI],head:=⟨36,.con abr::aN 2 (.var tI::aN 5 [.con abr,.con tI,.var tI]),[]⟩,exits:=[(.exit 0,⟨36,.con abr::aN 2 (.var tI::aN 5 [.con abr,.con tI]),[]⟩,[tI])]}
def afI (ρ:Type):à ρ:=⟨[],81,0,al5,fun(p:Val (.pair abr (.pair abr tI))) (v:Val Ã) a b=>ĸ p.2.1 p.2.2 v.1 v.2 (fun c d=>a (c,d)) (b 0)⟩
def al4:É:={pin:=0,cs:=[abr,tI],vs:=[tI,l5],head:=⟨36,aN 6 (.own 0::aN 18 [.con abr,.con tI,.var tI]),[.rowv tI]⟩,exits:=[(.exit 2,⟨36,aN 6 (.own 0::aN 18 [.con abr,.con tI]),[.rowv tI]⟩,[l5])]}
def afH (ρ:Type):à ρ:=⟨[],81,2,al4,fun(p:Val (.pair abr tI)) (v:Val abv) a b=>õ p.1 p.2 v.1 v.2 (fun c d=>a (c,d)) (b 0)⟩
def aoi:List (Nat×Ü):=[]
def agk (ρ:Type):List (à ρ):=[afI ρ,afH ρ]
def adf (ρ:Type):Env ρ:=Ý aoi (agk ρ)
def aiB:Ü:=⟨[Å,eI,eI],[Å],fun(x:Val (.pair Å (.pair eI eI)))=>aFt x.1 x.2.1 x.2.2⟩
noncomputable def aO4:É:={pin:=8,cs:=[l5,tI,tI,tI,f6,eI,m5,eW,eI,tI,tI,abq,tI,tI],vs:=[tI,abq],head:=⟨34,.any::.any::.any::.box 2 0::aN 21 [.con l5,.con tI,.var tI],[.cells [.con tI,.con tI,.con f6,.con eI,.con m5,.con eW,.con eI],.cells [.con tI,.con tI,.nils,.nils,.nils,.nils,.nils],.cells [.omp 5],.cells [.omp 6],.cells [.nilfn,.fn 127 [(2,0),(0,0)],.fn 127 [(2,0),(0,0)],.fn 128 [(3,0),(0,0),(2,0)]],.mapv tI .bool,.mapc tI .bool,.cells [.con tI,.con tI]]⟩,exits:=[(.exit 0,⟨34,.any::.any::.any::.box 2 0::aN 21 [.con l5,.con tI],[.cells [.con tI,.con tI,.con f6,.con eI,.con m5,.con eW,.con eI],.cells [.con tI,.con tI,.nils,.nils,.nils,.nils,.nils],.cells [.omp 5],.cells [.omp 6],.cells [.nilfn,.fn 127 [(2,0),(0,0)],.fn 127 [(2,0),(0,0)],.fn 128 [(3,0),(0,0),(2,0)]],.mapv tI .bool,.mapc tI .bool,.cells [.con tI,.con tI]]⟩,[abq])]}
noncomputable def azH (ρ:Type):à ρ:=⟨[7,5],128,0,aO4,fun(p:Val (.pair l5 (.pair tI (.pair tI (.pair tI (.pair f6 (.pair eI (.pair m5 (.pair eW (.pair eI (.pair tI (.pair tI (.pair abq Ã))))))))))))) (v:Val (.pair tI abq)) kn kx=>alc p.1 p.2.1 v.1 v.2 (fun u0 u1=>kn (u0,u1)) (kx 0)⟩
noncomputable def aO5:É:={pin:=0,cs:=[eI,eI,tI,tI,tI,f6,eI,m5,eW,eI,tI,tI],vs:=[tI,abq,abq],head:=⟨130,.any::.any::.con eI::.box 0 0::.any::.any::.box 1 0::.box 2 0::.box 3 0::.any::.box 4 0::aN 19 [.con eI,.con tI,.var tI],[.cells [.con tI,.con tI,.con f6,.con eI,.con m5,.con eW,.con eI],.cells [.con tI,.con tI,.nils,.nils,.nils,.nils,.nils],.cells [.omp 5],.cells [.omp 6],.cells [.nilfn,.fn 127 [(2,0),(0,0)],.fn 127 [(2,0),(0,0)],.fn 128 [(3,0),(0,0),(2,0)]],.mapv tI .bool,.mapv tI .bool]⟩,exits:=[(.exit 0,⟨130,.any::.any::.con eI::.box 0 0::.any::.any::.box 1 0::.box 2 0::.box 3 0::.any::.box 4 0::aN 19 [.con eI,.con tI],[.cells [.con tI,.con tI,.con f6,.con eI,.con m5,.con eW,.con eI],.cells [.con tI,.con tI,.nils,.nils,.nils,.nils,.nils],.cells [.omp 5],.cells [.omp 6],.cells [.nilfn,.fn 127 [(2,0),(0,0)],.fn 127 [(2,0),(0,0)],.fn 128 [(3,0),(0,0),(2,0)]],.mapv tI .bool,.mapv tI .bool]⟩,[abq,abq])]}
noncomputable def azI (ρ:Type):à ρ:=⟨[],62,0,aO5,fun(p:Val (.pair eI (.pair eI (.pair tI (.pair tI (.pair tI (.pair f6 (.pair eI (.pair m5 (.pair eW abY)))))))))) (v:Val (.pair tI (.pair abq abq))) kn kx=>aqc p.2.1 p.2.2.1 p.2.2.2.2.2.1 p.2.2.2.2.2.2.2.2.1 v.1 v.2.1 v.2.2 (fun u0 u1 u2=>kn (u0,u1,u2)) (kx 0)⟩
noncomputable def aO3:É:={pin:=0,cs:=[eI,eI,tI,tI,tI,f6,eI,m5,eW,eI,tI,tI,abq],vs:=[tI,abq],head:=⟨130,.any::.any::.con eI::.box 0 0::.any::.any::.box 1 0::.box 2 0::.box 3 0::aN 34 [.con eI,.con tI,.var tI],[.cells [.con tI,.con tI,.con f6,.con eI,.con m5,.con eW,.con eI],.cells [.con tI,.con tI,.nils,.nils,.nils,.nils,.nils],.cells [.omp 4],.cells [.omp 5],.mapv tI .bool,.mapc tI .bool]⟩,exits:=[(.exit 2,⟨130,.any::.any::.con eI::.box 0 0::.any::.any::.box 1 0::.box 2 0::.box 3 0::aN 34 [.con eI,.con tI],[.cells [.con tI,.con tI,.con f6,.con eI,.con m5,.con eW,.con eI],.cells [.con tI,.con tI,.nils,.nils,.nils,.nils,.nils],.cells [.omp 4],.cells [.omp 5],.mapv tI .bool,.mapc tI .bool]⟩,[abq])]}
noncomputable def azG (ρ:Type):à ρ:=⟨[],62,2,aO3,fun(p:Val (.pair eI (.pair eI (.pair tI (.pair tI (.pair tI (.pair f6 (.pair eI (.pair m5 (.pair eW (.pair eI (.pair tI (.pair tI abq))))))))))))) (v:Val (.pair tI abq)) kn kx=>alb p.2.1 p.2.2.1 v.1 v.2 (fun u0 u1=>kn (u0,u1)) (kx 0)⟩
noncomputable def aO2:É:={pin:=0,cs:=[eI,tI,tI,tI,f6,eI,m5,eW,eI,tI,tI,f6,eI,m5,eW,eI,tI,tI,eI,abq,abq,f6],vs:=[tI,eI],head:=⟨130,.any::.any::.any::.box 0 0::.any::.any::.box 1 0::.box 2 0::.box 3 0::aN 6 (.box 4 0::aN 52 [.con eI,.con tI,.var tI]),[.cells [.con tI,.con tI,.con f6,.con eI,.con m5,.con eW,.con eI],.cells [.con tI,.con tI,.con f6,.con eI,.con m5,.con eW,.con eI],.cells [.omp 5],.cells [.omp 6],.cells [.con tI,.con tI,.own 7,.own 8,.nils,.nils,.con eI],.mapc tI .bool,.mapc tI .bool,.rowc Ó,.rowv Ã]⟩,exits:=[(.exit 6,⟨130,.any::.any::.any::.box 0 0::.any::.any::.box 1 0::.box 2 0::.box 3 0::aN 6 (.box 4 0::aN 52 [.con eI,.con tI]),[.cells [.con tI,.con tI,.con f6,.con eI,.con m5,.con eW,.con eI],.cells [.con tI,.con tI,.con f6,.con eI,.con m5,.con eW,.con eI],.cells [.omp 5],.cells [.omp 6],.cells [.con tI,.con tI,.own 7,.own 8,.nils,.nils,.con eI],.mapc tI .bool,.mapc tI .bool,.rowc Ó,.rowv Ã]⟩,[eI])]}
noncomputable def ajL (ρ:Type):à ρ:=⟨[],62,6,aO2,fun(p:Val (.pair eI (.pair tI (.pair tI (.pair tI (.pair f6 (.pair eI (.pair m5 (.pair eW (.pair eI (.pair tI (.pair tI (.pair f6 (.pair eI (.pair m5 (.pair eW (.pair eI (.pair tI (.pair tI (.pair eI (.pair abq (.pair abq f6)))))))))))))))))))))) (v:Val abG) kn kx=>ala p.1 p.2.1 p.2.2.2.2.2.2.2.2.2.2.2.2.2.2.2.2.2.2.2.1 v.1 v.2 (fun u0 u1=>kn (u0,u1)) (kx 0)⟩
noncomputable def aO1:É:={pin:=0,cs:=[m5,tI,tI,tI,f6,eI,m5,eW,eI,tI,tI,f6,eI,m5,eW,eI,tI,tI,eI,abq,abq,f6,eI],vs:=[tI,m5],head:=⟨130,.any::.any::.any::.box 0 0::.any::.any::.box 1 0::.box 2 0::.box 3 0::aN 6 (.box 4 0::aN 70 [.con m5,.con tI,.var tI]),[.cells [.con tI,.con tI,.con f6,.con eI,.con m5,.con eW,.con eI],.cells [.con tI,.con tI,.con f6,.con eI,.con m5,.con eW,.con eI],.cells [.omp 5],.cells [.omp 6],.cells [.con tI,.con tI,.own 7,.own 8,.own 9,.nils,.con eI],.mapc tI .bool,.mapc tI .bool,.rowc Ó,.rowc Ã,.rowv Ō]⟩,exits:=[(.exit 8,⟨130,.any::.any::.any::.box 0 0::.any::.any::.box 1 0::.box 2 0::.box 3 0::aN 6 (.box 4 0::aN 70 [.con m5,.con tI]),[.cells [.con tI,.con tI,.con f6,.con eI,.con m5,.con eW,.con eI],.cells [.con tI,.con tI,.con f6,.con eI,.con m5,.con eW,.con eI],.cells [.omp 5],.cells [.omp 6],.cells [.con tI,.con tI,.own 7,.own 8,.own 9,.nils,.con eI],.mapc tI .bool,.mapc tI .bool,.rowc Ó,.rowc Ã,.rowv Ō]⟩,[m5])]}
noncomputable def ajK (ρ:Type):à ρ:=⟨[],62,8,aO1,fun(p:Val (.pair m5 (.pair tI (.pair tI (.pair tI (.pair f6 (.pair eI (.pair m5 (.pair eW (.pair eI (.pair tI (.pair tI (.pair f6 (.pair eI (.pair m5 (.pair eW (.pair eI (.pair tI (.pair tI (.pair eI (.pair abq (.pair abq (.pair f6 eI))))))))))))))))))))))) (v:Val (.pair tI m5)) kn kx=>ak9 p.1 p.2.1 p.2.2.2.2.2.2.2.2.2.2.2.2.2.2.2.2.2.2.2.1 v.1 v.2 (fun u0 u1=>kn (u0,u1)) (kx 0)⟩
noncomputable def aO0:É:={pin:=0,cs:=[eW,tI,tI,tI,f6,eI,m5,eW,eI,tI,tI,eI,abq,f6,eI,m5],vs:=[tI,eW],head:=⟨130,aN 6 (.box 0 0::.any::.box 1 0::aN 6 (.box 2 0::aN 88 [.con eW,.con tI,.var tI])),[.cells [.con tI,.con tI,.con f6,.con eI,.con m5,.con eW,.con eI],.cells [.omp 3],.cells [.con tI,.con tI,.own 4,.own 5,.own 6,.own 7,.con eI],.mapc tI .bool,.rowc Ó,.rowc Ã,.rowc Ō,.rowv Í]⟩,exits:=[(.exit 10,⟨130,aN 6 (.box 0 0::.any::.box 1 0::aN 6 (.box 2 0::aN 88 [.con eW,.con tI])),[.cells [.con tI,.con tI,.con f6,.con eI,.con m5,.con eW,.con eI],.cells [.omp 3],.cells [.con tI,.con tI,.own 4,.own 5,.own 6,.own 7,.con eI],.mapc tI .bool,.rowc Ó,.rowc Ã,.rowc Ō,.rowv Í]⟩,[eW])]}
noncomputable def ajJ (ρ:Type):à ρ:=⟨[],62,10,aO0,fun(p:Val (.pair eW (.pair tI (.pair tI (.pair tI (.pair f6 (.pair eI (.pair m5 (.pair eW (.pair eI (.pair tI (.pair tI (.pair eI (.pair abq (.pair f6 (.pair eI m5)))))))))))))))) (v:Val (.pair tI eW)) kn kx=>ak8 p.1 p.2.1 p.2.2.2.2.2.2.2.2.2.2.2.2.1 v.1 v.2 (fun u0 u1=>kn (u0,u1)) (kx 0)⟩
noncomputable def axU:List (Nat×Ü):=[(81,Ş)]
noncomputable def as1 (ρ:Type):List (à ρ):=[azH ρ,azI ρ,azG ρ,ajL ρ,ajK ρ,ajJ ρ]
noncomputable def Ÿ (ρ:Type):Env ρ:=Ý axU (as1 ρ)
noncomputable def ak7:Tpl:=⟨130,.any::.any::.any::.box 0 0::.any::.any::.box 1 0::.box 2 0::.box 3 0::aN 6 (.box 4 0::aN 43 [.fn 186 [(5,0),(6,0)]]),[.cells [.var tI,.var tI,.var f6,.var eI,.var m5,.var eW,.var eI],.cells [.var tI,.var tI,.var f6,.var eI,.var m5,.var eW,.var eI],.cells [.omp 7],.cells [.omp 8],.cells [.con tI,.con tI,.own 9,.nils,.nils,.nils,.con eI],.cells [.var tI,.var tI,.var f6,.var eI,.var m5,.var eW,.var eI],.cells [.omp 7],.mapv tI .bool,.mapv tI .bool,.rowv Ó]⟩
noncomputable def aDU:Tpl:=⟨130,.any::.any::.any::.box 0 0::.any::.any::.box 1 0::.box 2 0::.box 3 0::aN 6 (.box 4 0::.box 10 0::aN 42 [.fn 186 [(5,0),(6,0)]]),[.cells [.var tI,.var tI,.var f6,.var eI,.var m5,.var eW,.var eI],.cells [.var tI,.var tI,.var f6,.var eI,.var m5,.var eW,.var eI],.cells [.omp 7],.cells [.omp 8],.cells [.con tI,.con tI,.own 9,.nils,.nils,.nils,.con eI],.cells [.var tI,.var tI,.var f6,.var eI,.var m5,.var eW,.var eI],.cells [.omp 7],.mapv tI .bool,.mapv tI .bool,.rowv Ó,.cells [.var tI,.var tI,.var tI,.var tI,.var tI,.var tI,.var tI,.var tI]]⟩
noncomputable def ajH (ρ:Type):List (à ρ):=[ajL ρ,ajK ρ,ajJ ρ]
noncomputable def Ğ (ρ:Type):Env ρ:={Ý axU (ajH ρ) with inl:=fun _=>false}
noncomputable def aiM:Tpl:=⟨130,aN 6 [.box 0 0],[.cells [.var tI,.var tI,.var f6,.var eI,.var m5,.var eW,.var eI]]⟩
abbrev aer:List Ty:=[tI,tI,f6,eI,m5,eW,eI]
noncomputable def afm (y:Val Å):Val abo:=(y.1.1,y.1.2,y.2.1,y.2.2.1,y.2.2.2.1,y.2.2.2.2.1,y.2.2.2.2.2)
noncomputable def Ģ:Code:=(akd Tryz.prog 62).getD .skip
abbrev adX:List Ty:=[tI,tI,eI]
abbrev agC:List Ty:=[tI,tI,f6,eI,m5,eW,eI,tI,tI,f6,eI,m5,eW,eI,tI,tI,f6,eI,m5,eW,eI,abq,abq,f6]
abbrev aqb:List Ty:=[tI,tI,f6,eI,m5,eW,eI,tI,tI,f6,eI,m5,eW,eI,tI,tI,f6,eI,m5,eW,eI,abq,abq,f6,tI,tI,tI,tI,tI,tI,tI,tI]
abbrev ö (v:Val abp):List (Val Ó):=v.2.2.2.2.2.2.2.2.2.2.2.2.2.2.2.2.1
abbrev Š (v:Val abp):List (Int×Bool):=v.2.2.2.2.2.2.2.2.2.2.2.2.2.2.2.2.2.2.2.2.2.1
abbrev amj (v:Val abp):List (Val Ó):=v.2.2.2.2.2.2.2.2.2.2.2.2.2.2.2.2.2.2.2.2.2.2.2
noncomputable def ġ (v:Val abp) (z:List (Val Ó)):Val abp:=(v.1,v.2.1,v.2.2.1,v.2.2.2.1,v.2.2.2.2.1,v.2.2.2.2.2.1,v.2.2.2.2.2.2.1,v.2.2.2.2.2.2.2.1,v.2.2.2.2.2.2.2.2.1,v.2.2.2.2.2.2.2.2.2.1,v.2.2.2.2.2.2.2.2.2.2.1,v.2.2.2.2.2.2.2.2.2.2.2.1,v.2.2.2.2.2.2.2.2.2.2.2.2.1,v.2.2.2.2.2.2.2.2.2.2.2.2.2.1,v.2.2.2.2.2.2.2.2.2.2.2.2.2.2.1,v.2.2.2.2.2.2.2.2.2.2.2.2.2.2.2.1,v.2.2.2.2.2.2.2.2.2.2.2.2.2.2.2.2.1,v.2.2.2.2.2.2.2.2.2.2.2.2.2.2.2.2.2.1,v.2.2.2.2.2.2.2.2.2.2.2.2.2.2.2.2.2.2.1,v.2.2.2.2.2.2.2.2.2.2.2.2.2.2.2.2.2.2.2.1,v.2.2.2.2.2.2.2.2.2.2.2.2.2.2.2.2.2.2.2.2.1,v.2.2.2.2.2.2.2.2.2.2.2.2.2.2.2.2.2.2.2.2.2.1,v.2.2.2.2.2.2.2.2.2.2.2.2.2.2.2.2.2.2.2.2.2.2.1,z)
noncomputable def as2 (v:Val abp) (x:Val Ó):Val (.pair tI (.pair tI (.pair f6 (.pair eI (.pair m5 (.pair eW (.pair eI (.pair tI (.pair tI (.pair f6 (.pair eI (.pair m5 (.pair eW (.pair eI (.pair tI (.pair tI (.pair f6 (.pair eI (.pair m5 (.pair eW (.pair eI (.pair abq (.pair abq (.pair f6 aBC)))))))))))))))))))))))):=(v.1,v.2.1,v.2.2.1,v.2.2.2.1,v.2.2.2.2.1,v.2.2.2.2.2.1,v.2.2.2.2.2.2.1,v.2.2.2.2.2.2.2.1,v.2.2.2.2.2.2.2.2.1,v.2.2.2.2.2.2.2.2.2.1,v.2.2.2.2.2.2.2.2.2.2.1,v.2.2.2.2.2.2.2.2.2.2.2.1,v.2.2.2.2.2.2.2.2.2.2.2.2.1,v.2.2.2.2.2.2.2.2.2.2.2.2.2.1,v.2.2.2.2.2.2.2.2.2.2.2.2.2.2.1,v.2.2.2.2.2.2.2.2.2.2.2.2.2.2.2.1,v.2.2.2.2.2.2.2.2.2.2.2.2.2.2.2.2.1,v.2.2.2.2.2.2.2.2.2.2.2.2.2.2.2.2.2.1,v.2.2.2.2.2.2.2.2.2.2.2.2.2.2.2.2.2.2.1,v.2.2.2.2.2.2.2.2.2.2.2.2.2.2.2.2.2.2.2.1,v.2.2.2.2.2.2.2.2.2.2.2.2.2.2.2.2.2.2.2.2.1,v.2.2.2.2.2.2.2.2.2.2.2.2.2.2.2.2.2.2.2.2.2.1,v.2.2.2.2.2.2.2.2.2.2.2.2.2.2.2.2.2.2.2.2.2.2.1,v.2.2.2.2.2.2.2.2.2.2.2.2.2.2.2.2.2.2.2.2.2.2.2,x.1,x.2.1,x.2.2.1,x.2.2.2.1.1,x.2.2.2.1.2,x.2.2.2.2.1.1,x.2.2.2.2.1.2,x.2.2.2.2.2)
def akU:Ü:=⟨[Ã,tI,tI],[.bool],fun(x:Val í)=>Λ x.1 x.2.1 x.2.2⟩
def aL4:List (Nat×Ü):=[]
def ar6 (ρ:Type):List (à ρ):=[]
def az3 (ρ:Type):Env ρ:=Ý aL4 (ar6 ρ)
def afg:Ü:=⟨[tI,tI,tI],[.bool],fun(x:Val Ĉ)=>ğ x.1 x.2.1 x.2.2⟩
def aLN:List (Nat×Ü):=[]
def ar0 (ρ:Type):List (à ρ):=[]
def azY (ρ:Type):Env ρ:=Ý aLN (ar0 ρ)
def auk:Ü:=⟨[tI],[.bool],fun(x:Val tI)=>aho x⟩
def aPB:List (Nat×Ü):=[(227,afg)]
def av4 (ρ:Type):List (à ρ):=[]
def aEW (ρ:Type):Env ρ:=Ý aPB (av4 ρ)
def aJY:Ü:=⟨[tI],[(.int .u64)],fun(x:Val tI)=>aka x⟩
def aRR:List (Nat×Ü):=[]
def azT (ρ:Type):List (à ρ):=[]
def aIU (ρ:Type):Env ρ:=Ý aRR (azT ρ)
def aRi:Ü:=⟨[(.int .u64),(.int .u64)],[(.int .u64)],fun(x:Val ab4)=>aFu x.1 x.2⟩
def aPl:É:={pin:=0,cs:=[],vs:=[(.int .u64),(.int .u64)],head:=⟨12,[.var (.int .u64),.var (.int .u64)],[]⟩,exits:=[(.exit 0,⟨12,[.var (.int .u64)],[]⟩,[(.int .u64)])]}
def azU (ρ:Type):à ρ:=⟨[],259,0,aPl,fun(p:Unit) (v:Val ab4) a b=>aqf v.1 v.2 (fun c d=>a (c,d)) (b 0)⟩
def aU5:List (Nat×Ü):=[]
def aEz (ρ:Type):List (à ρ):=[azU ρ]
def aEA (ρ:Type):Env ρ:=Ý aU5 (aEz ρ)
def aug:Ü:=⟨[Ã],[.bool],fun(x:Val Ã)=>alJ x⟩
def aPo:List (Nat×Ü):=[(258,aJY),(259,aRi)]
def avO (ρ:Type):List (à ρ):=[]
def aED (ρ:Type):Env ρ:=Ý aPo (avO ρ)
def aCC:Ü:=⟨[Ó],[.bool],fun(x:Val Ó)=>am7 x⟩
def aHN:List (Nat×Ü):=[(131,akU),(189,auk),(226,aug),(227,afg)]
def apk (ρ:Type):List (à ρ):=[]
def av3 (ρ:Type):Env ρ:=Ý aHN (apk ρ)
def aob:Ü:=⟨[Å],[tI],fun(x:Val Å)=>ź x⟩
def aqU:É:={pin:=0,cs:=[f6,tI,tI,tI,f6,eI,m5,eW,eI],vs:=[tI],head:=⟨31,.any::.box 0 0::aN 4 [.con f6,.con tI,.var tI],acG⟩,exits:=[(.ret,⟨31,[.any,.box 0 0,.var tI,.any,.any,.any,.con f6,.con tI],acG⟩,[tI]),(.exit 0,⟨31,.any::.box 0 0::aN 4 [.con f6,.con tI],acG⟩,[])]}
def ahJ (ρ:Type):à ρ:=⟨[],132,0,aqU,fun(p:Val (.pair f6 abD)) (v:Val tI) b a=>ad7 p.1 p.2.1 p.2.2.2.2.1 v (fun c=>b c) (a 0) (a 1)⟩
def awa:List (Nat×Ü):=[(187,aCC)]
def aiQ (ρ:Type):List (à ρ):=[ahJ ρ]
def agD (ρ:Type):Env ρ:=Ý awa (aiQ ρ)
def asB:Ü:=⟨[Å],[abu],fun(x:Val Å)=>ι x⟩
def aBm:É:={pin:=0,cs:=[f6,tI],vs:=[tI,abu],head:=⟨20,aN 3 (.omp 0::aN 4 [.con f6,.con tI,.var tI]),[.mapv tI Ó]⟩,exits:=[(.exit 0,⟨20,aN 3 (.omp 0::aN 4 [.con f6,.con tI]),[.mapv tI Ó]⟩,[abu])]}
def anI (ρ:Type):à ρ:=⟨[],133,0,aBm,fun(p:Val (.pair f6 tI)) (v:Val (.pair tI abu)) a b=>agW p.1 p.2 v.1 v.2 (fun c d=>a (c,d)) (b 0)⟩
def aHB:List (Nat×Ü):=[]
def apc (ρ:Type):List (à ρ):=[anI ρ]
def amA (ρ:Type):Env ρ:=Ý aHB (apc ρ)
def akP:Ü:=⟨[l5,tI],[tI],fun(x:Val abH)=>aev x.1 x.2⟩
def anP:É:={pin:=0,cs:=[l5,tI,tI],vs:=[tI],head:=⟨19,.con l5::.con tI::aN 5 [.con tI,.var tI],[]⟩,exits:=[(.ret,⟨19,[.con l5,.con tI,.any,.any,.var tI,.any,.any,.con tI],[]⟩,[tI]),(.exit 0,⟨19,.con l5::.con tI::aN 5 [.con tI],[]⟩,[])]}
def agi (ρ:Type):à ρ:=⟨[],78,0,anP,fun(p:Val (.pair l5 Ã)) (v:Val tI) b a=>ω p.1 p.2.1 p.2.2 v (fun c=>b c) (a 0) (a 1)⟩
def aqN:List (Nat×Ü):=[]
def ag3 (ρ:Type):List (à ρ):=[agi ρ]
def ae5 (ρ:Type):Env ρ:=Ý aqN (ag3 ρ)
def aeB:Ü:=⟨[l5,tI],[.bool],fun(x:Val abH)=>ĩ x.1 x.2⟩
def al3:List (Nat×Ü):=[(78,akP)]
def afk (ρ:Type):List (à ρ):=[]
def agj (ρ:Type):Env ρ:=Ý al3 (afk ρ)
def aJ2:Ü:=⟨[Å,Ó],[l5],fun(x:Val (.pair Å Ó))=>aia x.1 x.2⟩
def aL8:É:={pin:=0,cs:=[eW,tI,tI,tI,f6,eI,m5,eW,eI,tI,tI,tI,tI,tI,tI,tI,tI],vs:=[tI,l5],head:=⟨59,aN 2 (.box 0 0::.box 1 0::.any::.own 2::aN 8 [.con eW,.con tI,.var tI]),[aca,acb,.rowv tI]⟩,exits:=[(.exit 0,⟨59,aN 2 (.box 0 0::.box 1 0::.any::.own 2::aN 8 [.con eW,.con tI]),[aca,acb,.rowv tI]⟩,[l5])]}
def av7 (ρ:Type):à ρ:=⟨[],194,0,aL8,fun(p:Val (.pair eW abB)) (v:Val abv) a b=>amL p.1 p.2.1 p.2.2.2.2.2.2.2.2.2.1 v.1 v.2 (fun c d=>a (c,d)) (b 0)⟩
def aL7:É:={pin:=0,cs:=[eI,tI,tI,tI,tI,tI,tI,tI,tI,tI],vs:=[tI,l5],head:=⟨59,aN 3 (.box 0 0::.any::.own 1::aN 32 [.con eI,.con tI,.var tI]),acH⟩,exits:=[(.exit 2,⟨59,aN 3 (.box 0 0::.any::.own 1::aN 32 [.con eI,.con tI]),acH⟩,[l5])]}
def av6 (ρ:Type):à ρ:=⟨[],194,2,aL7,fun(p:Val (.pair eI ab0)) (v:Val abv) a b=>amK p.1 p.2.1 p.2.2.1 v.1 v.2 (fun c d=>a (c,d)) (b 0)⟩
def aR5:List (Nat×Ü):=[(121,aeB)]
def az5 (ρ:Type):List (à ρ):=[av7 ρ,av6 ρ]
def aqi (ρ:Type):Env ρ:=Ý aR5 (az5 ρ)
def auj:Ü:=⟨[Å],[eI],fun(x:Val Å)=>ai8 x⟩
def aHD:É:={pin:=0,cs:=[f6,tI,tI,l5,tI,tI,tI,f6,eI,m5,eW,eI,tI,tI,tI,tI,tI,tI,tI,tI],vs:=[tI,eI],head:=⟨33,.any::.box 0 0::.any::.own 1::.any::.box 2 0::aN 3 (.con f6::.con tI::.con tI::aN 5 [.con l5,.con tI,.var tI]),[aca,.rowv Ã,acb]⟩,exits:=[(.exit 2,⟨33,.any::.box 0 0::.any::.own 1::.any::.box 2 0::aN 3 (.con f6::.con tI::.con tI::aN 5 [.con l5,.con tI]),[aca,.rowv Ã,acb]⟩,[eI])]}
def ar1 (ρ:Type):à ρ:=⟨[],135,2,aHD,fun(p:Val (.pair f6 (.pair tI (.pair tI (.pair l5 abB))))) (v:Val abG) a b=>aj1 p.2.2.2.1 p.2.2.2.2.1 p.2.2.2.2.2.2.2.2.2.2.2.2.1 v.1 v.2 (fun c d=>a (c,d)) (b 0)⟩
def aHE:É:={pin:=0,cs:=[f6,tI,tI,tI,f6,eI,m5,eW,eI],vs:=[tI,eI],head:=⟨33,.any::.box 0 0::.any::.own 1::aN 5 [.con f6,.con tI,.var tI],[aca,.rowv Ã]⟩,exits:=[(.exit 0,⟨33,.any::.box 0 0::.any::.own 1::aN 5 [.con f6,.con tI],[aca,.rowv Ã]⟩,[eI])]}
def ar2 (ρ:Type):à ρ:=⟨[],135,0,aHE,fun(p:Val (.pair f6 abD)) (v:Val abG) a b=>let A:=p.2.2.2.2;aj2 p.1 p.2.1 p.2.2.1 p.2.2.2.1 A.1 A.2.1 A.2.2.1 A.2.2.2.1 A.2.2.2.2 v.1 v.2 (fun c d=>a (c,d)) (b 0)⟩
def aPx:List (Nat×Ü):=[(194,aJ2)]
def avV (ρ:Type):List (à ρ):=[ar1 ρ,ar2 ρ]
def amD (ρ:Type):Env ρ:=Ý aPx (avV ρ)
def agP:Ü:=⟨[abu,tI,tI],[tI],fun(x:Val (.pair abu Ã))=>adY x.1 x.2.1 x.2.2⟩
def aym:List (Nat×Ü):=[]
def aj0 (ρ:Type):List (à ρ):=[]
def anJ (ρ:Type):Env ρ:=Ý aym (aj0 ρ)
def aRk:Ü:=⟨[tI,tI,(.ptr abu)],[tI],fun(x:Val (.pair tI (.pair tI (.ptr abu))))=>ń x.1 x.2.1 x.2.2⟩
def aHC:List (Nat×Ü):=[(189,auk),(190,agP)]
def apf (ρ:Type):List (à ρ):=[]
def avU (ρ:Type):Env ρ:=Ý aHC (apf ρ)
def aJ3:Ü:=⟨[Å,abu,tI],[tI],fun(x:Val ab7)=>Υ x.1 x.2.1 x.2.2⟩
def av9:É:={pin:=2,cs:=[m5,tI,tI,tI,f6,eI,m5,eW,eI,tI,tI,tI,tI],vs:=[tI],head:=⟨19,.con m5::.fn 228 [(1,0)]::aN 5 [.con tI,.var tI],acI⟩,exits:=[(.ret,⟨19,[.con m5,.fn 228 [(1,0)],.any,.any,.var tI,.any,.any,.con tI],acI⟩,[tI]),(.exit 0,⟨19,.con m5::.fn 228 [(1,0)]::aN 5 [.con tI],acI⟩,[])]}
def aj6 (ρ:Type):à ρ:=⟨[9,5,1,2],251,0,av9,fun(p:Val (.pair m5 (.pair tI abx))) (v:Val tI) b a=>let A:=p.2.2.2.2.2.2.2.2.2;aeX p.1 p.2.1 A.1 A.2.1 A.2.2.1 v (fun c=>b c) (a 0) (a 1)⟩
def av8:É:={pin:=2,cs:=[eI,tI,tI,tI,f6,eI,m5,eW,eI,tI,tI,tI,tI],vs:=[tI],head:=⟨19,.con eI::.fn 229 [(1,0)]::aN 5 [.con tI,.var tI],acI⟩,exits:=[(.ret,⟨19,[.con eI,.fn 229 [(1,0)],.any,.any,.var tI,.any,.any,.con tI],acI⟩,[tI]),(.exit 0,⟨19,.con eI::.fn 229 [(1,0)]::aN 5 [.con tI],acI⟩,[])]}
def aj3 (ρ:Type):à ρ:=⟨[9,10,1,2],249,0,av8,fun(p:Val (.pair eI (.pair tI abx))) (v:Val tI) b a=>let A:=p.2.2.2.2.2.2.2.2.2;Κ p.1 p.2.1 A.1 A.2.1 A.2.2.1 v (fun c=>b c) (a 0) (a 1)⟩
def aBr:List (Nat×Ü):=[(131,akU),(190,agP),(227,afg)]
def alr (ρ:Type):List (à ρ):=[aj6 ρ,aj3 ρ]
def afV (ρ:Type):Env ρ:=Ý aBr (alr ρ)
def ap7:Ü:=⟨[l5,l5],[l5],fun(x:Val ab2)=>Ŭ x.1 x.2⟩
def aL0:É:={pin:=2,cs:=[tI,l5,l5],vs:=[tI],head:=⟨19,.own 1::.fn 237 [(0,0)]::aN 5 [.con tI,.var tI],[ace,.rowc tI]⟩,exits:=[(.ret,⟨19,[.own 1,.fn 237 [(0,0)],.any,.any,.var tI,.any,.any,.con tI],[ace,.rowc tI]⟩,[tI]),(.exit 0,⟨19,.own 1::.fn 237 [(0,0)]::aN 5 [.con tI],[ace,.rowc tI]⟩,[])]}
def av2 (ρ:Type):à ρ:=⟨[1,3,1,2],155,0,aL0,fun(p:Val (.pair tI ab2)) (v:Val tI) b a=>amJ p.1 p.2.1 p.2.2 v (fun c=>b c) (a 0) (a 1)⟩
def aLZ:É:={pin:=2,cs:=[l5],vs:=[tI,tI,l5],head:=⟨42,[.own 1,.fn 237 [(0,0)],.any,.any,.any,.var tI,.var tI],[ace,.rowv tI]⟩,exits:=[(.exit 0,⟨42,[.own 1,.fn 237 [(0,0)],.any,.any,.any,.var tI],[ace,.rowv tI]⟩,[tI,l5])]}
def av1 (ρ:Type):à ρ:=⟨[1,3],236,0,aLZ,fun(p:Val l5) (v:Val (.pair tI abv)) a b=>afc p v.1 v.2.1 v.2.2 (fun c d e=>a (c,d,e)) (b 0)⟩
def aR4:List (Nat×Ü):=[(121,aeB)]
def az2 (ρ:Type):List (à ρ):=[av2 ρ,av1 ρ]
def aqh (ρ:Type):Env ρ:=Ý aR4 (az2 ρ)
def axl:Ü:=⟨[l5],[.bool],fun(x:Val l5)=>agI x⟩
def aEU:É:={pin:=0,cs:=[l5,l5,tI],vs:=[tI],head:=⟨32,.con l5::aN 4 [.con l5,.con tI,.var tI],[]⟩,exits:=[(.ret,⟨32,[.con l5,.any,.var .bool,.any,.any,.con l5,.con tI],[]⟩,[.bool]),(.exit 0,⟨32,.con l5::aN 4 [.con l5,.con tI],[]⟩,[])]}
def aph (ρ:Type):à ρ:=⟨[],204,0,aEU,fun(p:Val (.pair l5 abH)) (v:Val tI) b a=>ah2 p.1 p.2.1 p.2.2 v (fun c=>b c) (a 0) (a 1)⟩
def aL2:List (Nat×Ü):=[(227,afg)]
def ar5 (ρ:Type):List (à ρ):=[aph ρ]
def apj (ρ:Type):Env ρ:=Ý aL2 (ar5 ρ)
def aTz:Ü:=⟨[Å,tI,tI],[Ō,.bool],fun(x:Val abE)=>aqz x.1 x.2.1 x.2.2⟩
def aMa:É:={pin:=4,cs:=[m5,tI,tI,tI,f6,eI,m5,eW,eI,tI,tI,tI,tI,tI,tI],vs:=[tI],head:=⟨19,.con m5::.fn 260 [(1,0),(2,0)]::aN 5 [.con tI,.var tI],[aca,acf,acf,acd]⟩,exits:=[(.ret,⟨19,[.con m5,.fn 260 [(1,0),(2,0)],.any,.any,.var tI,.any,.any,.con tI],[aca,acf,acf,acd]⟩,[tI]),(.exit 0,⟨19,.con m5::.fn 260 [(1,0),(2,0)]::aN 5 [.con tI],[aca,acf,acf,acd]⟩,[])]}
def awb (ρ:Type):à ρ:=⟨[1,3],251,0,aMa,fun(p:Val (.pair m5 (.pair tI (.pair tI (.pair tI (.pair f6 (.pair eI (.pair m5 (.pair eW (.pair eI (.pair tI ab8))))))))))) (v:Val tI) b a=>amN p.1 p.2.1 p.2.2.2.2.2.2.2.2.2.1 p.2.2.2.2.2.2.2.2.2.2.1 v (fun c=>b c) (a 0) (a 1)⟩
def aR6:List (Nat×Ü):=[(227,afg)]
def az6 (ρ:Type):List (à ρ):=[awb ρ]
def ayt (ρ:Type):Env ρ:=Ý aR6 (az6 ρ)
def aAy:Ü:=⟨[Å,abu,tI],[tI],fun(x:Val ab7)=>ň x.1 x.2.1 x.2.2⟩
def apq:É:={pin:=2,cs:=[eW,tI,tI,tI,f6,eI,m5,eW,eI,tI,tI,l5,l5,tI,tI,tI,tI],vs:=[tI],head:=⟨19,.con eW::.fn 230 [(1,0)]::aN 5 [.con tI,.var tI],[aca,acg]⟩,exits:=[(.ret,⟨19,[.con eW,.fn 230 [(1,0)],.any,.any,.var tI,.any,.any,.con tI],[aca,acg]⟩,[tI]),(.exit 0,⟨19,.con eW::.fn 230 [(1,0)]::aN 5 [.con tI],[aca,acg]⟩,[])]}
def ahh (ρ:Type):à ρ:=⟨[4,5,1,2],213,0,apq,fun(p:Val (.pair eW (.pair tI (.pair tI (.pair tI (.pair f6 (.pair eI (.pair m5 (.pair eW (.pair eI Í)))))))))) (v:Val tI) b a=>adG p.1 p.2.1 p.2.2.2.2.2.2.2.2.2.1 v (fun c=>b c) (a 0) (a 1)⟩
def apn:É:={pin:=0,cs:=[abu,l5,tI,tI,tI,l5,tI,tI,tI,f6,eI,m5,eW,eI,tI,tI,l5,l5,tI,tI,tI,tI,l5],vs:=[tI],head:=⟨140,.any::.con abu::.any::.box 0 0::aN 3 (.box 1 0::.con l5::.any::.con tI::aN 65 [.own 2,.con tI,.con tI,.any,.any,.any,.con l5,.con tI,.var tI]),acJ⟩,exits:=[(.ret,⟨140,.any::.con abu::.any::.box 0 0::aN 2 (.var tI::.box 1 0::.con l5::.any::.con tI::aN 65 [.own 2,.con tI,.con tI,.any,.any,.any,.con l5,.con tI]),acJ⟩,[tI]),(.exit 2,⟨140,.any::.con abu::.any::.box 0 0::aN 3 (.box 1 0::.con l5::.any::.con tI::aN 65 [.own 2,.con tI,.con tI,.any,.any,.any,.con l5,.con tI]),acJ⟩,[])]}
def ahf (ρ:Type):à ρ:=⟨[],193,2,apn,fun(p:Val (.pair abu (.pair l5 (.pair tI (.pair tI (.pair tI (.pair l5 (.pair tI abz)))))))) (v:Val tI) b a=>let A:=p.2.2.2.2.2;adF p.1 p.2.2.1 A.1 A.2.1 A.2.2.2.2.2.2.2.2.2.2.1 v (fun c=>b c) (a 0) (a 1)⟩
def apo:É:={pin:=0,cs:=[abu,l5,tI,tI,tI,f6,eI,m5,eW,eI,tI,tI,l5,l5,tI,tI,tI,tI,l5],vs:=[tI],head:=⟨140,.any::.con abu::.any::.box 0 0::aN 3 (.box 1 0::.con l5::aN 67 [.own 2,.con tI,.var tI]),acJ⟩,exits:=[(.ret,⟨140,.any::.con abu::.any::.box 0 0::aN 2 (.var tI::.box 1 0::.con l5::aN 67 [.own 2,.con tI]),acJ⟩,[tI]),(.exit 0,⟨140,.any::.con abu::.any::.box 0 0::aN 3 (.box 1 0::.con l5::aN 67 [.own 2,.con tI]),acJ⟩,[])]}
def ahg (ρ:Type):à ρ:=⟨[],193,0,apo,fun(p:Val (.pair abu (.pair l5 (.pair tI abz)))) (v:Val tI) b a=>ő p.1 p.2.1 p.2.2.1 p.2.2.2.2.2.2.2.2.2.2.2.1 p.2.2.2.2.2.2.2.2.2.2.2.2.2.2.2.2.2.2 v (fun c=>b c) (a 0) (a 1)⟩
def apm:É:={pin:=0,cs:=[l5,tI,tI,tI,f6,eI,m5,eW,eI,tI,tI,l5,l5,tI,tI,tI,tI],vs:=[tI],head:=⟨140,aN 3 (.box 0 0::aN 3 (.box 1 0::aN 90 [.con l5,.con tI,.var tI])),[aca,acg]⟩,exits:=[(.ret,⟨140,aN 3 (.box 0 0::aN 2 (.var tI::.box 1 0::aN 90 [.con l5,.con tI])),[aca,acg]⟩,[tI]),(.exit 4,⟨140,aN 3 (.box 0 0::aN 3 (.box 1 0::aN 90 [.con l5,.con tI])),[aca,acg]⟩,[])]}
def ahe (ρ:Type):à ρ:=⟨[],193,4,apm,fun(p:Val (.pair l5 (.pair tI (.pair tI (.pair tI (.pair f6 (.pair eI (.pair m5 (.pair eW (.pair eI Í)))))))))) (v:Val tI) b a=>let A:=p.2.2.2.2;Ő p.1 p.2.1 p.2.2.1 p.2.2.2.1 A.1 A.2.1 A.2.2.1 A.2.2.2.1 A.2.2.2.2.1 A.2.2.2.2.2.2.1 v (fun c=>b c) (a 0) (a 1)⟩
def atm:List (Nat×Ü):=[(81,Ş),(131,akU),(189,auk),(190,agP),(199,ap7),(204,axl),(227,afg),(231,aTz)]
def ahK (ρ:Type):List (à ρ):=[ahh ρ,ahf ρ,ahg ρ,ahe ρ]
def š (ρ:Type):Env ρ:=Ý atm (ahK ρ)
def ŗ:Ü:=⟨[Å],[tI],fun(x:Val Å)=>ā x⟩
end Go.Proofs.ZzM
end

noncomputable section
set_option maxRecDepth 100000
namespace Go.Proofs.ZzM
open Go Go.Am
def aIm:Ü:=⟨[Í],[.bool],fun(x:Val Í)=>aqo x⟩
def aKk:List (Nat×Ü):=[]
def aq9 (ρ:Type):List (à ρ):=[]
def azj (ρ:Type):Env ρ:=Ý aKk (aq9 ρ)
def aTp:Ü:=⟨[Å],[.bool],fun(x:Val Å)=>aBX x⟩
def aKi:É:={pin:=0,cs:=[tI,tI,f6,eI,m5,eW,eI],vs:=[tI],head:=⟨50,[.any,.box 0 0,.any,.var tI],acG⟩,exits:=[(.ret,⟨50,[.any,.box 0 0,.var .bool],acG⟩,[.bool]),(.exit 0,⟨50,[.any,.box 0 0],acG⟩,[])]}
def auv (ρ:Type):à ρ:=⟨[],10,0,aKi,fun(p:Val abo) (v:Val tI) b a=>al0 p.2.2.2.2.2.1 v (fun c=>b c) (a 0) (a 1)⟩
def aRq:List (Nat×Ü):=[(30,aIm)]
def azi (ρ:Type):List (à ρ):=[auv ρ]
def axs (ρ:Type):Env ρ:=Ý aRq (azi ρ)
def Ŵ:Ü:=⟨[eI,Ã],[tI],fun(x:Val abY)=>Ā x.1 x.2⟩
def agb:É:={pin:=0,cs:=[eI,tI,tI,tI],vs:=[tI],head:=⟨19,[.con eI,.any,.any,.box 0 0,.any,.any,.any,.con tI,.var tI],[ach]⟩,exits:=[(.ret,⟨19,[.con eI,.any,.any,.box 0 0,.var tI,.any,.any,.con tI],[ach]⟩,[tI]),(.exit 0,⟨19,[.con eI,.any,.any,.box 0 0,.any,.any,.any,.con tI],[ach]⟩,[])]}
def ς (ρ:Type):à ρ:=⟨[],136,0,agb,fun(p:Val (.pair eI Ĉ)) (v:Val tI) b a=>Ī p.1 p.2.1 p.2.2.1 p.2.2.2 v (fun c=>b c) (a 0) (a 1)⟩
def ag5:List (Nat×Ü):=[]
def adh (ρ:Type):List (à ρ):=[ς ρ]
def Ť (ρ:Type):Env ρ:=Ý ag5 (adh ρ)
def aeH:Ü:=⟨[Å,Ã],[tI,tI],fun(x:Val abE)=>Ũ x.1 x.2⟩
def aPI:List (Nat×Ü):=[(66,ŗ),(135,auj),(136,Ŵ)]
def awf (ρ:Type):List (à ρ):=[]
def aE1 (ρ:Type):Env ρ:=Ý aPI (awf ρ)
def ae2:Ü:=⟨[aby,Ã],[tI],fun(x:Val abR)=>θ x.1 x.2⟩
def aGV:List (Nat×Ü):=[(67,aeH)]
def aoQ (ρ:Type):List (à ρ):=[]
def au2 (ρ:Type):Env ρ:=Ý aGV (aoQ ρ)
def ajl:Ü:=⟨[Ð,abq],[l5,.bool],fun(x:Val (.pair Ð abq))=>afq x.1 x.2⟩
def ayc:É:={pin:=2,cs:=[abq,wi,tI,tI,wi,l5,tI,wi,abA,l5],vs:=[tI,tI],head:=⟨140,.any::.con abq::.own 1::.box 2 0::aN 3 (.box 3 0::.own 4::.own 5::.var tI::aN 14 [.con wi,.con tI,.var tI]),[aci,.rowc tI,aci,.cells [.nils],.rowc .bool,.rowc tI]⟩,exits:=[(.exit 0,⟨140,.any::.con abq::.own 1::.box 2 0::aN 3 (.box 3 0::.own 4::.own 5::.var tI::aN 14 [.con wi,.con tI]),[aci,.rowc tI,aci,.cells [.nils],.rowc .bool,.rowc tI]⟩,[tI])]}
def aln (ρ:Type):à ρ:=⟨[2,3],183,0,ayc,fun(p:Val (.pair abq (.pair wi (.pair tI (.pair tI (.pair wi (.pair l5 (.pair tI (.pair wi abL))))))))) (v:Val Ã) a b=>adk p.2.1 p.2.2.1 v.1 v.2 (fun c d=>a (c,d)) (b 0)⟩
def ayb:É:={pin:=2,cs:=[abq,tI,tI,tI,wi,l5,tI,wi,l5],vs:=[tI,abA,l5],head:=⟨140,.any::.con abq::.own 1::.box 2 0::aN 3 (.box 3 0::.own 4::.own 5::.con tI::aN 27 [.con tI,.var tI]),acK⟩,exits:=[(.exit 2,⟨140,.any::.con abq::.own 1::.box 2 0::aN 3 (.box 3 0::.own 4::.own 5::.con tI::aN 27 [.con tI]),acK⟩,[abA,l5])]}
def alm (ρ:Type):à ρ:=⟨[2,3],183,2,ayb,fun(p:Val (.pair abq (.pair tI (.pair tI (.pair tI (.pair wi (.pair l5 (.pair tI (.pair wi l5))))))))) (v:Val (.pair tI abL)) a b=>Ś p.2.2.1 p.2.2.2.2.2.1 v.1 v.2.1 v.2.2 (fun c d e=>a (c,d,e)) (b 0)⟩
def ax9:É:={pin:=2,cs:=[abq,tI,tI,wi,tI,tI,wi,tI,wi,l5],vs:=[tI,l5,abA,l5],head:=⟨140,.any::.con abq::.own 1::.box 2 0::aN 3 (.box 3 0::.own 4::.own 5::.con tI::aN 3 (.con tI::aN 62 [.con wi,.con tI,.var tI])),acL⟩,exits:=[(.ret,⟨140,.any::.con abq::.own 1::.box 2 0::aN 2 (.var .bool::.box 3 0::.own 4::.own 5::.con tI::aN 3 (.con tI::aN 62 [.con wi,.con tI])),acL⟩,[.bool,l5,abA,l5]),(.exit 6,⟨140,.any::.con abq::.own 1::.box 2 0::aN 3 (.box 3 0::.own 4::.own 5::.con tI::aN 3 (.con tI::aN 62 [.con wi,.con tI])),acL⟩,[l5,abA,l5])]}
def alj (ρ:Type):à ρ:=⟨[2,3],183,6,ax9,fun(p:Val (.pair abq (.pair tI (.pair tI (.pair wi (.pair tI (.pair tI (.pair wi (.pair tI (.pair wi l5)))))))))) (v:Val (.pair tI ab6)) b a=>aed p.1 p.2.1 p.2.2.1 p.2.2.2.1 p.2.2.2.2.1 v.1 v.2.1 v.2.2.1 v.2.2.2 (fun c d e f=>b (c,d,e,f)) (a 0) (a 1)⟩
def aya:É:={pin:=2,cs:=[abq,tI,tI,wi,tI,wi],vs:=[l5,abA,l5,l5],head:=⟨140,[.any,.con abq,.own 1,.box 2 0,.any,.any,.any,.box 3 0,.own 4,.own 5,.con tI],acM⟩,exits:=[(.ret,⟨140,[.any,.con abq,.own 1,.box 2 0,.any,.any,.var .bool,.box 3 0,.own 4,.own 5,.con tI],acM⟩,[.bool,l5,abA,l5,l5])]}
def alk (ρ:Type):à ρ:=⟨[2,3],183,4,aya,fun(p:Val (.pair abq ab9)) (v:Val abM) a b=>į p.1 p.2.1 p.2.2.2.2.1 p.2.2.2.2.2 v.1 v.2.1 v.2.2.1 v.2.2.2 (fun c d e f=>a (c,d,e,f)) (b 0)⟩
def ax8:É:={pin:=0,cs:=[tI,tI],vs:=[tI,l5],head:=⟨34,aN 6 (.own 0::.con tI::aN 13 [.con tI,.var tI]),[.rowv tI]⟩,exits:=[(.exit 0,⟨34,aN 6 (.own 0::.con tI::aN 13 [.con tI]),[.rowv tI]⟩,[l5])]}
def ali (ρ:Type):à ρ:=⟨[],117,0,ax8,fun(p:Val Ã) (v:Val abv) a b=>aec p.1 p.2 v.1 v.2 (fun c d=>a (c,d)) (b 0)⟩
def aD5:List (Nat×Ü):=[]
def anC (ρ:Type):List (à ρ):=[aln ρ,alm ρ,alj ρ,alk ρ,ali ρ]
def δ (ρ:Type):Env ρ:=Ý aD5 (anC ρ)
def aBI:Ü:=⟨[Ð,tI],[.bool],fun(x:Val (.pair Ð tI))=>aj9 x.1 x.2⟩
def aRM:List (Nat×Ü):=[]
def azM (ρ:Type):List (à ρ):=[]
def aIP (ρ:Type):Env ρ:=Ý aRM (azM ρ)
def akS:Ü:=⟨[Ð],[tI,tI],fun(x:Val Ð)=>ahn x⟩
def aHu:É:={pin:=0,cs:=[wi,tI,tI,wi],vs:=[tI],head:=⟨57,.any::.box 0 0::aN 17 [.con wi,.con tI,.var tI],[aci]⟩,exits:=[(.ret,⟨57,.any::.box 0 0::.var tI::.var tI::aN 15 [.con wi,.con tI],[aci]⟩,[tI,tI]),(.exit 0,⟨57,.any::.box 0 0::aN 17 [.con wi,.con tI],[aci]⟩,[])]}
def arV (ρ:Type):à ρ:=⟨[],138,0,aHu,fun(p:Val (.pair wi abJ)) (v:Val tI) b a=>ajS p.1 p.2.1 p.2.2.1 p.2.2.2 v (fun c=>b c) (a 0) (a 1)⟩
def aPg:List (Nat×Ü):=[(139,aBI)]
def avF (ρ:Type):List (à ρ):=[arV ρ]
def atb (ρ:Type):Env ρ:=Ý aPg (avF ρ)
def aCz:Ü:=⟨[Ð,l5],[tI],fun(x:Val ab5)=>apH x.1 x.2⟩
def aHm:É:={pin:=0,cs:=[l5,tI,tI,wi],vs:=[tI],head:=⟨37,aN 2 (.box 0 0::aN 16 [.con l5,.con tI,.var tI]),[aci]⟩,exits:=[(.ret,⟨37,aN 2 (.box 0 0::.any::.var tI::aN 14 [.con l5,.con tI]),[aci]⟩,[tI]),(.exit 0,⟨37,aN 2 (.box 0 0::aN 16 [.con l5,.con tI]),[aci]⟩,[])]}
def arN (ρ:Type):à ρ:=⟨[],112,0,aHm,fun(p:Val (.pair l5 abJ)) (v:Val tI) b a=>ajO p.1 p.2.1 p.2.2.1 p.2.2.2 v (fun c=>b c) (a 0) (a 1)⟩
def aPd:List (Nat×Ü):=[(117,ajl),(138,akS),(139,aBI)]
def avB (ρ:Type):List (à ρ):=[arN ρ]
def ata (ρ:Type):Env ρ:=Ý aPd (avB ρ)
def axk:Ü:=⟨[Ð,abq,tI],[l5],fun(x:Val (.pair Ð (.pair abq tI)))=>aiq x.1 x.2.1 x.2.2⟩
def aEc:É:={pin:=0,cs:=[abq,tI,tI,tI,wi],vs:=[tI,l5],head:=⟨29,.any::.con abq::.con tI::.box 0 0::aN 3 (.own 1::aN 5 [.con tI,.var tI]),[aci,.rowv tI]⟩,exits:=[(.exit 0,⟨29,.any::.con abq::.con tI::.box 0 0::aN 3 (.own 1::aN 5 [.con tI]),[aci,.rowv tI]⟩,[l5])]}
def apa (ρ:Type):à ρ:=⟨[],120,0,aEc,fun(p:Val (.pair abq (.pair tI abJ))) (v:Val abv) a b=>ah1 p.2.2.1 v.1 v.2 (fun c d=>a (c,d)) (b 0)⟩
def aEb:É:={pin:=2,cs:=[abq,wi,tI,tI,wi,l5,tI,wi,abA,l5],vs:=[tI,tI],head:=⟨140,.any::.con abq::.own 1::.box 2 0::aN 3 (.box 3 0::.own 4::.own 5::.var tI::aN 14 [.con wi,.con tI,.var tI]),[aci,.rowc tI,aci,.cells [.nils],.rowc .bool,.rowc tI]⟩,exits:=[(.exit 0,⟨140,.any::.con abq::.own 1::.box 2 0::aN 3 (.box 3 0::.own 4::.own 5::.var tI::aN 14 [.con wi,.con tI]),[aci,.rowc tI,aci,.cells [.nils],.rowc .bool,.rowc tI]⟩,[tI])]}
def ao9 (ρ:Type):à ρ:=⟨[8,3],183,0,aEb,fun(p:Val (.pair abq (.pair wi (.pair tI (.pair tI (.pair wi (.pair l5 (.pair tI (.pair wi abL))))))))) (v:Val Ã) a b=>amx p.2.1 p.2.2.1 v.1 v.2 (fun c d=>a (c,d)) (b 0)⟩
def aEa:É:={pin:=2,cs:=[abq,tI,tI,tI,wi,l5,tI,wi,l5],vs:=[tI,abA,l5],head:=⟨140,.any::.con abq::.own 1::.box 2 0::aN 3 (.box 3 0::.own 4::.own 5::.con tI::aN 27 [.con tI,.var tI]),acK⟩,exits:=[(.exit 2,⟨140,.any::.con abq::.own 1::.box 2 0::aN 3 (.box 3 0::.own 4::.own 5::.con tI::aN 27 [.con tI]),acK⟩,[abA,l5])]}
def ao8 (ρ:Type):à ρ:=⟨[8,3],183,2,aEa,fun(p:Val (.pair abq (.pair tI (.pair tI (.pair tI (.pair wi (.pair l5 (.pair tI (.pair wi l5))))))))) (v:Val (.pair tI abL)) a b=>amw p.2.2.1 p.2.2.2.2.2.1 v.1 v.2.1 v.2.2 (fun c d e=>a (c,d,e)) (b 0)⟩
def aD8:É:={pin:=2,cs:=[abq,tI,tI,wi,tI,tI,wi,tI,wi,l5],vs:=[tI,l5,abA,l5],head:=⟨140,.any::.con abq::.own 1::.box 2 0::aN 3 (.box 3 0::.own 4::.own 5::.con tI::aN 3 (.con tI::aN 62 [.con wi,.con tI,.var tI])),acL⟩,exits:=[(.ret,⟨140,.any::.con abq::.own 1::.box 2 0::aN 2 (.var .bool::.box 3 0::.own 4::.own 5::.con tI::aN 3 (.con tI::aN 62 [.con wi,.con tI])),acL⟩,[.bool,l5,abA,l5]),(.exit 6,⟨140,.any::.con abq::.own 1::.box 2 0::aN 3 (.box 3 0::.own 4::.own 5::.con tI::aN 3 (.con tI::aN 62 [.con wi,.con tI])),acL⟩,[l5,abA,l5])]}
def ao6 (ρ:Type):à ρ:=⟨[8,3],183,6,aD8,fun(p:Val (.pair abq (.pair tI (.pair tI (.pair wi (.pair tI (.pair tI (.pair wi (.pair tI (.pair wi l5)))))))))) (v:Val (.pair tI ab6)) b a=>avA p.1 p.2.1 p.2.2.1 p.2.2.2.1 p.2.2.2.2.1 v.1 v.2.1 v.2.2.1 v.2.2.2 (fun c d e f=>b (c,d,e,f)) (a 0) (a 1)⟩
def aD9:É:={pin:=2,cs:=[abq,tI,tI,wi,tI,wi],vs:=[l5,abA,l5,l5],head:=⟨140,[.any,.con abq,.own 1,.box 2 0,.any,.any,.any,.box 3 0,.own 4,.own 5,.con tI],acM⟩,exits:=[(.ret,⟨140,[.any,.con abq,.own 1,.box 2 0,.any,.any,.var .bool,.box 3 0,.own 4,.own 5,.con tI],acM⟩,[.bool,l5,abA,l5,l5])]}
def ao7 (ρ:Type):à ρ:=⟨[8,3],183,4,aD9,fun(p:Val (.pair abq ab9)) (v:Val abM) a b=>amv p.1 p.2.1 p.2.2.2.2.1 p.2.2.2.2.2 v.1 v.2.1 v.2.2.1 v.2.2.2 (fun c d e f=>a (c,d,e,f)) (b 0)⟩
def aLy:List (Nat×Ü):=[]
def arM (ρ:Type):List (à ρ):=[apa ρ,ao9 ρ,ao8 ρ,ao6 ρ,ao7 ρ]
def aee (ρ:Type):Env ρ:=Ý aLy (arM ρ)
def auf:Ü:=⟨[Ð,tI,tI],[tI,tI],fun(x:Val abZ)=>ai6 x.1 x.2.1 x.2.2⟩
def aPi:List (Nat×Ü):=[(112,aCz),(120,axk)]
def avJ (ρ:Type):List (à ρ):=[]
def aEu (ρ:Type):Env ρ:=Ý aPi (avJ ρ)
def aeG:Ü:=⟨[aby,tI,tI],[tI],fun(x:Val abR)=>Ċ x.1 x.2.1 x.2.2⟩
def axP:List (Nat×Ü):=[(114,auf)]
def ajE (ρ:Type):List (à ρ):=[]
def ant (ρ:Type):Env ρ:=Ý axP (ajE ρ)
def akh:Ü:=⟨[aby,Ã],[tI],fun(x:Val abR)=>η x.1 x.2⟩
def axO:List (Nat×Ü):=[(50,ae2),(51,aeG)]
def ajD (ρ:Type):List (à ρ):=[]
def anr (ρ:Type):Env ρ:=Ý axO (ajD ρ)
def agr:Ü:=⟨[aby,Ã],[tI],fun(x:Val abR)=>ado x.1 x.2⟩
def aqS:List (Nat×Ü):=[(50,ae2),(51,aeG)]
def ahc (ρ:Type):List (à ρ):=[]
def aiI (ρ:Type):Env ρ:=Ý aqS (ahc ρ)
def ael:Ü:=⟨[aby,Ã],[Ã],fun(x:Val abR)=>Ű x.1 x.2⟩
def aqR:List (Nat×Ü):=[(64,akh),(65,agr)]
def ahb (ρ:Type):List (à ρ):=[]
def ae9 (ρ:Type):Env ρ:={Ý aqR (ahb ρ) with hint:=ayF [(12,64),(16,65)]}
def aoa:Ü:=⟨[abV,l5,tI],[tI],fun(x:Val (.pair abV abH))=>adw x.1 x.2.1 x.2.2⟩
def aET:List (Nat×Ü):=[(136,Ŵ)]
def anK (ρ:Type):List (à ρ):=[]
def ar4 (ρ:Type):Env ρ:=Ý aET (anK ρ)
def anm:Ü:=⟨[abu,l5],[Ã],fun(x:Val (.pair abu l5))=>adV x.1 x.2⟩
def atg:List (Nat×Ü):=[]
def ahI (ρ:Type):List (à ρ):=[]
def ajZ (ρ:Type):Env ρ:=Ý atg (ahI ρ)
def akT:Ü:=⟨[eI],[tI],fun(x:Val eI)=>aeQ x⟩
def aHy:É:={pin:=0,cs:=[eI,tI],vs:=[tI],head:=⟨15,aN 5 [.con eI,.con tI,.var tI],[]⟩,exits:=[(.ret,⟨15,[.any,.any,.var tI,.any,.any,.con eI,.con tI],[]⟩,[tI]),(.exit 0,⟨15,aN 5 [.con eI,.con tI],[]⟩,[])]}
def arZ (ρ:Type):à ρ:=⟨[],266,0,aHy,fun(p:Val abT) (v:Val tI) b a=>ajX p.1 p.2 v (fun c=>b c) (a 0) (a 1)⟩
def aPj:List (Nat×Ü):=[(226,aug)]
def avK (ρ:Type):List (à ρ):=[arZ ρ]
def atc (ρ:Type):Env ρ:=Ý aPj (avK ρ)
def asA:Ü:=⟨[tI,tI],[Ã,tI],fun(x:Val Ã)=>ai7 x.1 x.2⟩
def aHz:List (Nat×Ü):=[(258,aJY),(259,aRi)]
def apb (ρ:Type):List (à ρ):=[]
def avL (ρ:Type):Env ρ:=Ý aHz (apb ρ)
def aWC:Ü:=⟨[Ã,Ã],[Ã,tI],fun(x:Val í)=>aMD x.1 x.2⟩
def aU7:List (Nat×Ü):=[(266,akT),(294,asA)]
def aEF (ρ:Type):List (à ρ):=[]
def aPp (ρ:Type):Env ρ:=Ý aU7 (aEF ρ)
def aui:Ü:=⟨[Ã,Ã],[Ã],fun(x:Val í)=>am6 x.1 x.2⟩
def aBo:List (Nat×Ü):=[(283,aWC)]
def alp (ρ:Type):List (à ρ):=[]
def ape (ρ:Type):Env ρ:=Ý aBo (alp ρ)
def aRj:Ü:=⟨[Ã,Ã],[tI],fun(x:Val í)=>aFv x.1 x.2⟩
def aU6:List (Nat×Ü):=[]
def aEC (ρ:Type):List (à ρ):=[]
def aPn (ρ:Type):Env ρ:=Ý aU6 (aEC ρ)
def aq7:Ü:=⟨[í],[.bool],fun(x:Val í)=>akF x⟩
def ayj:List (Nat×Ü):=[(266,akT),(300,aRj)]
def ajY (ρ:Type):List (à ρ):=[]
def anH (ρ:Type):Env ρ:=Ý ayj (ajY ρ)
def aWD:Ü:=⟨[Ã,Ã],[Ã,tI],fun(x:Val í)=>aFx x.1 x.2⟩
def aU8:List (Nat×Ü):=[(266,akT),(294,asA)]
def aEH (ρ:Type):List (à ρ):=[]
def aPr (ρ:Type):Env ρ:=Ý aU8 (aEH ρ)
def aN9:Ü:=⟨[í,Ã],[í,tI],fun(x:Val (.pair í Ã))=>aFw x.1 x.2⟩
def azW:List (Nat×Ü):=[(226,aug),(295,aq7),(298,aWD),(300,aRj)]
def amz (ρ:Type):List (à ρ):=[]
def azV:List aZb:=[⟨[3,2],296,0,4⟩]
def aPq (ρ:Type):Env ρ:=Ý azW (amz ρ)
def ate (ρ:Type):Env ρ:=a08 azW (amz ρ) azV
def auh:Ü:=⟨[Ã,Ã],[í],fun(x:Val í)=>ah9 x.1 x.2⟩
def aBn:List (Nat×Ü):=[(284,aN9)]
def alo (ρ:Type):List (à ρ):=[]
def apd (ρ:Type):Env ρ:=Ý aBn (alo ρ)
def axm:Ü:=⟨[Å,Í],[í],fun(x:Val abC)=>air x.1 x.2⟩
def aL5:List (Nat×Ü):=[(133,asB),(199,ap7),(263,anm),(264,aui),(265,auh)]
def ar7 (ρ:Type):List (à ρ):=[]
def az4 (ρ:Type):Env ρ:=Ý aL5 (ar7 ρ)
def aCD:Ü:=⟨[Å,Í],[Ã],fun(x:Val abC)=>alL x.1 x.2⟩
def aPC:List (Nat×Ü):=[]
def av5 (ρ:Type):List (à ρ):=[]
def aEY (ρ:Type):Env ρ:=Ý aPC (av5 ρ)
def aCA:Ü:=⟨[tI,tI],[tI],fun(x:Val Ã)=>alI x.1 x.2⟩
def aPm:List (Nat×Ü):=[]
def avM (ρ:Type):List (à ρ):=[]
def aEB (ρ:Type):Env ρ:=Ý aPm (avM ρ)
def aJZ:Ü:=⟨[Ã],[tI,tI],fun(x:Val Ã)=>awI x⟩
def aR0:List (Nat×Ü):=[(266,akT),(267,aCA)]
def azX (ρ:Type):List (à ρ):=[]
def aIV (ρ:Type):Env ρ:=Ý aR0 (azX ρ)
def aCB:Ü:=⟨[Ã],[tI,tI],fun(x:Val Ã)=>apK x⟩
def aPs:List (Nat×Ü):=[(266,akT),(267,aCA)]
def avQ (ρ:Type):List (à ρ):=[]
def aEI (ρ:Type):Env ρ:=Ý aPs (avQ ρ)
def aJ0:Ü:=⟨[Å,Í],[Ã],fun(x:Val abC)=>am5 x.1 x.2⟩
def aR1:List (Nat×Ü):=[(238,axm),(239,aCD),(240,aJZ),(241,aCB)]
def azZ (ρ:Type):List (à ρ):=[]
def aIW (ρ:Type):Env ρ:=Ý aR1 (azZ ρ)
def aTy:Ü:=⟨[Å,Ó,tI,tI],[tI],fun(x:Val (.pair Å (.pair Ó Ã)))=>aqy x.1 x.2.1 x.2.2.1 x.2.2.2⟩
def aLX:É:={pin:=0,cs:=[tI,tI,m5,tI,tI,tI,f6,eI,m5,eW,eI,tI,tI,tI,tI,tI,tI,tI,tI],vs:=[tI,tI],head:=⟨88,aN 2 (.con tI::.con tI::.box 0 0::.box 1 0::aN 3 (.var tI::aN 7 [.con m5,.con tI,.var tI])),acN⟩,exits:=[(.exit 0,⟨88,aN 2 (.con tI::.con tI::.box 0 0::.box 1 0::aN 3 (.var tI::aN 7 [.con m5,.con tI])),acN⟩,[tI])]}
def av0 (ρ:Type):à ρ:=⟨[],235,0,aLX,fun(p:Val (.pair tI (.pair tI (.pair m5 abB)))) (v:Val Ã) a b=>amI p.1 p.2.1 p.2.2.1 p.2.2.2.1 p.2.2.2.2.2.2.2.2.2.2.2.1 v.1 v.2 (fun c d=>a (c,d)) (b 0)⟩
def aLW:É:={pin:=0,cs:=[tI,tI,tI,eI,tI,tI,tI,tI,tI,tI,tI,tI,tI],vs:=[tI,l5],head:=⟨88,aN 2 (.con tI::.con tI::.any::.box 0 0::aN 3 (.con tI::aN 3 (.own 1::aN 39 [.con eI,.con tI,.var tI]))),acH⟩,exits:=[(.exit 2,⟨88,aN 2 (.con tI::.con tI::.any::.box 0 0::aN 3 (.con tI::aN 3 (.own 1::aN 39 [.con eI,.con tI]))),acH⟩,[l5])]}
def avZ (ρ:Type):à ρ:=⟨[],235,2,aLW,fun(p:Val (.pair tI (.pair tI (.pair tI (.pair eI ab0))))) (v:Val abv) a b=>amH p.1 p.2.1 p.2.2.2.1 p.2.2.2.2.1 p.2.2.2.2.2.1 v.1 v.2 (fun c d=>a (c,d)) (b 0)⟩
def aR3:List (Nat×Ü):=[(227,afg)]
def az1 (ρ:Type):List (à ρ):=[av0 ρ,avZ ρ]
def aqg (ρ:Type):Env ρ:=Ý aR3 (az1 ρ)
def aJ1:Ü:=⟨[Å],[abV],fun(x:Val Å)=>awK x⟩
def aLT:É:={pin:=2,cs:=[tI,l5,tI,f6,tI,tI,tI,tI,f6,eI,m5,eW,eI,tI,tI,f6,eI,m5,eW,eI,eI,tI,tI,tI,tI,tI,tI,tI,tI,tI],vs:=[tI,wi,eI],head:=⟨144,.box 1 0::.any::.con tI::.box 2 0::.con l5::.con tI::.var tI::aN 24 [.con f6,.con tI,.con tI],[aca,ack,acb,.rowv Ĉ,.rowv Ã]⟩,exits:=[(.exit 2,⟨144,.box 1 0::.any::.con tI::.box 2 0::.con l5::.con tI::aN 25 [.con f6,.con tI,.con tI],[aca,ack,acb,.rowv Ĉ,.rowv Ã]⟩,[wi,eI])]}
def avX (ρ:Type):à ρ:=⟨[2,1],195,2,aLT,fun(p:Val (.pair tI (.pair l5 (.pair tI (.pair f6 (.pair tI (.pair tI (.pair tI (.pair tI (.pair f6 (.pair eI (.pair m5 (.pair eW (.pair eI (.pair tI (.pair tI (.pair f6 (.pair eI (.pair m5 (.pair eW (.pair eI (.pair eI ab0)))))))))))))))))))))) (v:Val abO) a b=>let A:=p.2.2.2.2.2.2.2.2.2.2.2.2.2;let B:=A.2.2.2.2;let C:=B.2.2.2.2.2;let D:=C.2.2.2.2;amF p.1 p.2.1 p.2.2.1 A.1 A.2.1 A.2.2.1 A.2.2.2.1 B.1 B.2.1 B.2.2.1 C.1 C.2.1 C.2.2.1 C.2.2.2.1 D.1 D.2.1 D.2.2.1 D.2.2.2 v.1 v.2.1 v.2.2 (fun c d e=>a (c,d,e)) (b 0)⟩
def aLU:É:={pin:=2,cs:=[f6,tI,tI,tI,f6,eI,m5,eW,eI,tI,tI,f6,eI,m5,eW,eI,eI,tI],vs:=[tI,wi,eI],head:=⟨144,.box 1 0::aN 30 [.con f6,.con tI,.var tI],acO⟩,exits:=[(.exit 0,⟨144,.box 1 0::aN 30 [.con f6,.con tI],acO⟩,[wi,eI])]}
def avY (ρ:Type):à ρ:=⟨[2,1],195,0,aLU,fun(p:Val (.pair f6 (.pair tI (.pair tI (.pair tI (.pair f6 (.pair eI (.pair m5 (.pair eW (.pair eI (.pair tI (.pair tI (.pair f6 (.pair eI (.pair m5 (.pair eW (.pair eI abT))))))))))))))))) (v:Val abO) a b=>let A:=p.2.2.2.2.2.2.2.2.2;let B:=A.2.2.2.2;amG p.1 p.2.1 A.1 A.2.1 A.2.2.1 A.2.2.2.1 B.1 B.2.1 B.2.2.1 B.2.2.2.1 B.2.2.2.2 v.1 v.2.1 v.2.2 (fun c d e=>a (c,d,e)) (b 0)⟩
def aLS:É:={pin:=2,cs:=[eW,tI,tI,tI,f6,eI,m5,eW,eI,tI,tI,f6,eI,m5,eW,eI,eI,tI],vs:=[tI,wi,eI],head:=⟨144,.box 1 0::aN 107 [.con eW,.con tI,.var tI],acO⟩,exits:=[(.exit 4,⟨144,.box 1 0::aN 107 [.con eW,.con tI],acO⟩,[wi,eI])]}
def avW (ρ:Type):à ρ:=⟨[2,1],195,4,aLS,fun(p:Val (.pair eW (.pair tI (.pair tI (.pair tI (.pair f6 (.pair eI (.pair m5 (.pair eW (.pair eI (.pair tI (.pair tI (.pair f6 (.pair eI (.pair m5 (.pair eW (.pair eI abT))))))))))))))))) (v:Val abO) a b=>let A:=p.2.2.2.2.2.2.2.2.2;let B:=A.2.2.2.2;amE p.1 p.2.1 A.1 A.2.1 A.2.2.1 A.2.2.2.1 B.1 B.2.1 B.2.2.1 B.2.2.2.1 B.2.2.2.2 v.1 v.2.1 v.2.2 (fun c d e=>a (c,d,e)) (b 0)⟩
def aR2:List (Nat×Ü):=[(135,auj),(194,aJ2),(198,aoa),(199,ap7),(203,aJ0),(235,aTy)]
def az0 (ρ:Type):List (à ρ):=[avX ρ,avY ρ,avW ρ]
def alq (ρ:Type):Env ρ:=Ý aR2 (az0 ρ)
def ş:Ü:=⟨[Å],[Ð,eI,tI],fun(x:Val Å)=>ħ x⟩
def aMe:List (Nat×Ü):=[(66,ŗ),(137,aJ1)]
def ar8 (ρ:Type):List (à ρ):=[]
def az8 (ρ:Type):Env ρ:=Ý aMe (ar8 ρ)
def ajm:Ü:=⟨[Å,Ã],[Å,tI],fun(x:Val abE)=>aeY x.1 x.2⟩
def aMg:É:={pin:=6,cs:=[tI,tI,tI,f6,eI,m5,eW,eI,tI,tI,tI,tI,tI,tI,f6,eI,m5,eW,eI,tI,tI,tI,tI,eW,tI,tI,f6,eI,m5,eI],vs:=[tI,eW],head:=⟨50,.any::.box 6 0::.box 7 0::.own 8::aN 21 [.own 8,.con tI,.var tI],acP⟩,exits:=[(.exit 0,⟨50,.any::.box 6 0::.box 7 0::.own 8::aN 21 [.own 8,.con tI],acP⟩,[eW])]}
def awe (ρ:Type):à ρ:=⟨[1,2,4,1],223,0,aMg,fun(p:Val (.pair tI (.pair tI (.pair tI (.pair f6 (.pair eI (.pair m5 (.pair eW (.pair eI (.pair tI (.pair tI (.pair tI (.pair tI (.pair tI (.pair tI (.pair f6 (.pair eI (.pair m5 (.pair eW (.pair eI (.pair tI (.pair tI (.pair tI (.pair tI (.pair eW (.pair tI (.pair tI (.pair f6 (.pair eI (.pair m5 eI)))))))))))))))))))))))))))))) (v:Val (.pair tI eW)) a b=>amP p.1 v.1 v.2 (fun c d=>a (c,d)) (b 0)⟩
def aR9:List (Nat×Ü):=[(66,ŗ)]
def aAa (ρ:Type):List (à ρ):=[awe ρ]
def ayw (ρ:Type):Env ρ:=Ý aR9 (aAa ρ)
def œ:Ü:=⟨[Ð],[.bool,tI],fun(x:Val Ð)=>Ė x⟩
def ayg:List (Nat×Ü):=[(117,ajl),(138,akS)]
def ajR (ρ:Type):List (à ρ):=[]
def anE (ρ:Type):Env ρ:=Ý ayg (ajR ρ)
def an9:Ü:=⟨[Å,Ã],[Ã,tI],fun(x:Val abE)=>afp x.1 x.2⟩
def ax0:É:={pin:=4,cs:=[tI,tI,tI,f6,eI,m5,eW,eI,tI,tI,tI,tI,eI],vs:=[tI,tI,tI,f6,eI,m5,eW,eI],head:=⟨68,aN 2 (.box 4 0::aN 20 [.own 3,.con tI,.var tI]),acQ⟩,exits:=[(.ret,⟨68,aN 2 (.box 4 0::.any::.nilp::.var tI::aN 17 [.own 3,.con tI]),acQ⟩,[tI,tI,tI,f6,eI,m5,eW,eI]),(.exit 0,⟨68,aN 2 (.box 4 0::aN 20 [.own 3,.con tI]),acQ⟩,[tI,tI,f6,eI,m5,eW,eI])]}
def alf (ρ:Type):à ρ:=⟨[1,3],47,0,ax0,fun(p:Val (.pair tI (.pair tI (.pair tI (.pair f6 (.pair eI (.pair m5 (.pair eW (.pair eI (.pair tI (.pair tI abS))))))))))) (v:Val abD) b a=>ē p.1 p.2.2.2.2.2.2.2.2.2.2.2.2 v.1 v.2.1 v.2.2.1 v.2.2.2.1 v.2.2.2.2.1 v.2.2.2.2.2.1 v.2.2.2.2.2.2.1 v.2.2.2.2.2.2.2 (fun c d e f g h i j=>b (c,d,e,f,g,h,i,j)) (a 0) (a 1)⟩
def aD0:List (Nat×Ü):=[(48,ael),(66,ŗ),(67,aeH),(68,ş),(110,ajm),(111,œ)]
def anw (ρ:Type):List (à ρ):=[alf ρ]
def akp (ρ:Type):Env ρ:=Ý aD0 (anw ρ)
def asy:Ü:=⟨[Å,Ã,Ã],[Ã,tI],fun(x:Val ab1)=>ai4 x.1 x.2.1 x.2.2⟩
def aBe:É:={pin:=5,cs:=[tI,tI,tI,f6,eI,m5,eW,eI,tI,tI,tI,tI,tI,tI,eI],vs:=[tI,tI,tI,f6,eI,m5,eW,eI],head:=⟨68,aN 2 (.box 5 0::aN 20 [.own 4,.con tI,.var tI]),acR⟩,exits:=[(.ret,⟨68,aN 2 (.box 5 0::.any::.nilp::.var tI::aN 17 [.own 4,.con tI]),acR⟩,[tI,tI,tI,f6,eI,m5,eW,eI]),(.exit 0,⟨68,aN 2 (.box 5 0::aN 20 [.own 4,.con tI]),acR⟩,[tI,tI,f6,eI,m5,eW,eI])]}
def anB (ρ:Type):à ρ:=⟨[1,4],47,0,aBe,fun(p:Val (.pair tI (.pair tI (.pair tI (.pair f6 (.pair eI (.pair m5 (.pair eW (.pair eI (.pair tI (.pair tI (.pair tI (.pair tI abS))))))))))))) (v:Val abD) b a=>akt p.1 p.2.2.2.2.2.2.2.2.2.2.2.2.2.2 v.1 v.2.1 v.2.2.1 v.2.2.2.1 v.2.2.2.2.1 v.2.2.2.2.2.1 v.2.2.2.2.2.2.1 v.2.2.2.2.2.2.2 (fun c d e f g h i j=>b (c,d,e,f,g,h,i,j)) (a 0) (a 1)⟩
def aHi:List (Nat×Ü):=[(50,ae2),(51,aeG),(66,ŗ),(67,aeH),(68,ş),(110,ajm),(111,œ)]
def ao3 (ρ:Type):List (à ρ):=[anB ρ]
def ams (ρ:Type):Env ρ:=Ý aHi (ao3 ρ)
def asw:Ü:=⟨[Ã,Ã],[tI],fun(x:Val í)=>ai1 x.1 x.2⟩
def aGT:List (Nat×Ü):=[]
def aoM (ρ:Type):List (à ρ):=[]
def auZ (ρ:Type):Env ρ:=Ý aGT (aoM ρ)
def aN4:Ü:=⟨[Å,Ã,Ã],[tI,tI],fun(x:Val ab1)=>awE x.1 x.2.1 x.2.2⟩
def aHg:É:={pin:=4,cs:=[tI,tI,tI,f6,eI,m5,eW,eI,tI,tI,tI,tI,eI],vs:=[tI,tI,tI,f6,eI,m5,eW,eI],head:=⟨68,aN 2 (.box 4 0::aN 20 [.own 3,.con tI,.var tI]),acQ⟩,exits:=[(.ret,⟨68,aN 2 (.box 4 0::.any::.nilp::.var tI::aN 17 [.own 3,.con tI]),acQ⟩,[tI,tI,tI,f6,eI,m5,eW,eI]),(.exit 0,⟨68,aN 2 (.box 4 0::aN 20 [.own 3,.con tI]),acQ⟩,[tI,tI,f6,eI,m5,eW,eI])]}
def arL (ρ:Type):à ρ:=⟨[1,3],47,0,aHg,fun(p:Val (.pair tI (.pair tI (.pair tI (.pair f6 (.pair eI (.pair m5 (.pair eW (.pair eI (.pair tI (.pair tI abS))))))))))) (v:Val abD) b a=>aoY p.1 p.2.2.2.2.2.2.2.2.2.2.2.2 v.1 v.2.1 v.2.2.1 v.2.2.2.1 v.2.2.2.2.1 v.2.2.2.2.2.1 v.2.2.2.2.2.2.1 v.2.2.2.2.2.2.2 (fun c d e f g h i j=>b (c,d,e,f,g,h,i,j)) (a 0) (a 1)⟩
def aO8:List (Nat×Ü):=[(48,ael),(57,asw),(66,ŗ),(67,aeH),(68,ş),(110,ajm),(111,œ)]
def avo (ρ:Type):List (à ρ):=[arL ρ]
def as5 (ρ:Type):Env ρ:=Ý aO8 (avo ρ)
def aCy:Ü:=⟨[Ð,tI,tI],[abr],fun(x:Val abZ)=>apG x.1 x.2.1 x.2.2⟩
def aU4:É:={pin:=0,cs:=[tI,tI,tI,tI,wi],vs:=[tI,l5],head:=⟨45,.any::.con tI::.con tI::.box 0 0::aN 3 (.own 1::aN 7 [.con tI,.var tI]),[aci,.rowv tI]⟩,exits:=[(.exit 0,⟨45,.any::.con tI::.con tI::.box 0 0::aN 3 (.own 1::aN 7 [.con tI]),[aci,.rowv tI]⟩,[l5])]}
def aIT (ρ:Type):à ρ:=⟨[],122,0,aU4,fun(p:Val (.pair tI (.pair tI abJ))) (v:Val abv) a b=>aqe p.2.2.1 v.1 v.2 (fun c d=>a (c,d)) (b 0)⟩
def aU2:É:={pin:=4,cs:=[l5,tI,abr,tI,wi],vs:=[tI,l5],head:=⟨53,.con l5::.box 1 0::aN 2 (.own 4::aN 7 [.con tI,.var tI]),acS⟩,exits:=[(.exit 0,⟨53,.con l5::.box 1 0::aN 2 (.own 4::aN 7 [.con tI]),acS⟩,[l5])]}
def aIR (ρ:Type):à ρ:=⟨[12,8],185,0,aU2,fun(p:Val (.pair l5 (.pair tI (.pair abr Ð)))) (v:Val abv) a b=>aLx p.2.1 v.1 v.2 (fun c d=>a (c,d)) (b 0)⟩
def aU1:É:={pin:=4,cs:=[l5,wi,tI,abr,tI,wi],vs:=[tI,l5],head:=⟨53,.con l5::aN 3 (.own 4::aN 16 [.con wi,.con tI,.var tI]),acS⟩,exits:=[(.exit 2,⟨53,.con l5::aN 3 (.own 4::aN 16 [.con wi,.con tI]),acS⟩,[l5])]}
def aIQ (ρ:Type):à ρ:=⟨[12,8],185,2,aU1,fun(p:Val (.pair l5 (.pair wi (.pair tI (.pair abr Ð))))) (v:Val abv) a b=>avz p.1 p.2.1 p.2.2.1 v.1 v.2 (fun c d=>a (c,d)) (b 0)⟩
def aU3:É:={pin:=0,cs:=[tI,tI,wi],vs:=[tI,abr],head:=⟨45,aN 9 (.own 0::.fn 185 [(1,0)]::aN 18 [.con tI,.var tI]),[.rowv l5,aci]⟩,exits:=[(.exit 2,⟨45,aN 9 (.own 0::.fn 185 [(1,0)]::aN 18 [.con tI]),[.rowv l5,aci]⟩,[abr])]}
def aIS (ρ:Type):à ρ:=⟨[],122,2,aU3,fun(p:Val abJ) (v:Val abN) a b=>aBP p.1 p.2.1 p.2.2 v.1 v.2 (fun c d=>a (c,d)) (b 0)⟩
def aZR:List (Nat×Ü):=[]
def aPc (ρ:Type):List (à ρ):=[aIT ρ,aIR ρ,aIQ ρ,aIS ρ]
def aye (ρ:Type):Env ρ:=Ý aZR (aPc ρ)
def aN8:Ü:=⟨[Ð,tI,tI],[l5,tI],fun(x:Val abZ)=>apJ x.1 x.2.1 x.2.2⟩
def aHx:É:={pin:=3,cs:=[abr,tI,tI,wi,tI,tI],vs:=[tI],head:=⟨19,.con abr::.fn 124 [(1,0),(2,0)]::aN 5 [.con tI,.var tI],[aci,acf,acf]⟩,exits:=[(.ret,⟨19,[.con abr,.fn 124 [(1,0),(2,0)],.any,.any,.var tI,.any,.any,.con tI],[aci,acf,acf]⟩,[tI]),(.exit 0,⟨19,.con abr::.fn 124 [(1,0),(2,0)]::aN 5 [.con tI],[aci,acf,acf]⟩,[])]}
def arY (ρ:Type):à ρ:=⟨[5,2],123,0,aHx,fun(p:Val (.pair abr (.pair tI (.pair tI (.pair wi Ã))))) (v:Val tI) b a=>ajW p.1 p.2.1 p.2.2.2.2.1 p.2.2.2.2.2 v (fun c=>b c) (a 0) (a 1)⟩
def aHv:É:={pin:=3,cs:=[tI,abr,wi,tI,tI,wi,tI,tI,tI,wi],vs:=[tI,tI,tI,l5],head:=⟨73,.any::.var tI::.con tI::.con abr::.fn 126 [(2,0)]::.box 3 0::aN 5 (.own 4::.var tI::aN 7 [.con wi,.con tI,.var tI]),acT⟩,exits:=[(.exit 2,⟨73,.any::.var tI::.con tI::.con abr::.fn 126 [(2,0)]::.box 3 0::aN 5 (.own 4::.var tI::aN 7 [.con wi,.con tI]),acT⟩,[tI,tI,l5])]}
def arW (ρ:Type):à ρ:=⟨[6,5],125,2,aHv,fun(p:Val (.pair tI (.pair abr (.pair wi (.pair tI (.pair tI (.pair wi (.pair tI abJ)))))))) (v:Val abK) a b=>azS p.1 p.2.1 p.2.2.1 p.2.2.2.1 p.2.2.2.2.2.2.2.1 v.1 v.2.1 v.2.2.1 v.2.2.2 (fun c d e f=>a (c,d,e,f)) (b 0)⟩
def aHw:É:={pin:=3,cs:=[abr,tI,wi,tI,tI,tI,wi],vs:=[tI,tI,tI,l5],head:=⟨73,.any::.var tI::.var tI::.con abr::.fn 126 [(2,0)]::.box 3 0::aN 5 [.own 4,.var tI],acT⟩,exits:=[(.exit 0,⟨73,aN 3 (.con abr::.fn 126 [(2,0)]::.box 3 0::aN 5 [.own 4]),acT⟩,[l5])]}
def arX (ρ:Type):à ρ:=⟨[6,5],125,0,aHw,fun(p:Val (.pair abr (.pair tI (.pair wi (.pair tI abJ))))) (v:Val abK) a b=>ajV p.1 p.2.2.2.2.1 p.2.2.2.2.2.2 v.1 v.2.1 v.2.2.1 v.2.2.2 (fun c d e f=>a (c,d,e,f)) (b 0)⟩
def aPh:List (Nat×Ü):=[(114,auf),(122,aCy)]
def avI (ρ:Type):List (à ρ):=[arY ρ,arW ρ,arX ρ]
def aiP (ρ:Type):Env ρ:=Ý aPh (avI ρ)
def aue:Ü:=⟨[aby,abU,(.ptr .bool)],[l5],fun(x:Val (.pair aby (.pair abU (.ptr .bool))))=>af2 x.1 x.2.1 x.2.2⟩
def aBd:List (Nat×Ü):=[(50,ae2),(61,aN8)]
def alh (ρ:Type):List (à ρ):=[]
def ao2 (ρ:Type):Env ρ:=Ý aBd (alh ρ)
def asx:Ü:=⟨[Å,l5],[eI],fun(x:Val (.pair Å l5))=>ai2 x.1 x.2⟩
def aA1:É:={pin:=0,cs:=[eI,l5,tI],vs:=[tI,eI],head:=⟨32,aN 6 (.con eI::.any::.own 0::aN 8 [.con l5,.con tI,.var tI]),[.rowv Ã]⟩,exits:=[(.exit 0,⟨32,aN 6 (.con eI::.any::.own 0::aN 8 [.con l5,.con tI]),[.rowv Ã]⟩,[eI])]}
def anq (ρ:Type):à ρ:=⟨[],63,0,aA1,fun(p:Val (.pair eI abH)) (v:Val abG) a b=>agT p.1 p.2.1 p.2.2 v.1 v.2 (fun c d=>a (c,d)) (b 0)⟩
def aGU:List (Nat×Ü):=[(68,ş)]
def aoN (ρ:Type):List (à ρ):=[anq ρ]
def ame (ρ:Type):Env ρ:=Ý aGU (aoN ρ)
def aCx:Ü:=⟨[Å,Ã,.bool],[κ,tI],fun(x:Val (.pair Å (.pair Ã .bool)))=>am4 x.1 x.2.1 x.2.2⟩
def aBc:É:={pin:=5,cs:=[tI,tI,tI,f6,eI,m5,eW,eI,tI,tI,tI,tI,.bool,tI,eI],vs:=[tI,tI,tI,f6,eI,m5,eW,eI],head:=⟨68,aN 2 (.box 5 0::aN 20 [.own 4,.con tI,.var tI]),acU⟩,exits:=[(.ret,⟨68,aN 2 (.box 5 0::.any::.nilp::.var tI::aN 17 [.own 4,.con tI]),acU⟩,[tI,tI,tI,f6,eI,m5,eW,eI]),(.exit 0,⟨68,aN 2 (.box 5 0::aN 20 [.own 4,.con tI]),acU⟩,[tI,tI,f6,eI,m5,eW,eI])]}
def anA (ρ:Type):à ρ:=⟨[1,3],47,0,aBc,fun(p:Val (.pair tI (.pair tI (.pair tI (.pair f6 (.pair eI (.pair m5 (.pair eW (.pair eI (.pair tI (.pair tI (.pair tI (.pair tI (.pair .bool abG)))))))))))))) (v:Val abD) b a=>aks p.1 p.2.2.2.2.2.2.2.2.2.2.2.2.2.2 v.1 v.2.1 v.2.2.1 v.2.2.2.1 v.2.2.2.2.1 v.2.2.2.2.2.1 v.2.2.2.2.2.2.1 v.2.2.2.2.2.2.2 (fun c d e f g h i j=>b (c,d,e,f,g,h,i,j)) (a 0) (a 1)⟩
def aBb:É:={pin:=10,cs:=[tI,tI,tI,f6,eI,m5,eW,eI,tI,tI,tI,tI,.bool,tI,eI,tI,tI,f6,eI,m5,eW,eI,tI,wi,eI,tI,tI,f6,eI,m5,eW,eI,tI,tI,f6,eI,m5,eW,eI],vs:=[tI],head:=⟨68,aN 2 (.box 10 0::aN 20 [.nils,.con tI,.var tI]),acV⟩,exits:=[(.exit 0,⟨68,aN 2 (.box 10 0::aN 20 [.nils,.con tI]),acV⟩,[])]}
def anz (ρ:Type):à ρ:=⟨[6,1],47,0,aBb,fun(p:Val (.pair tI (.pair tI (.pair tI (.pair f6 (.pair eI (.pair m5 (.pair eW (.pair eI (.pair tI (.pair tI (.pair tI (.pair tI (.pair .bool (.pair tI (.pair eI (.pair tI (.pair tI (.pair f6 (.pair eI (.pair m5 (.pair eW (.pair eI (.pair tI (.pair wi (.pair eI abQ)))))))))))))))))))))))))) (v:Val tI) a b=>akr p.1 v (fun c=>a c) (b 0)⟩
def aHh:List (Nat×Ü):=[(60,aue),(62,aiB),(63,asx),(64,akh),(65,agr),(66,ŗ),(67,aeH),(68,ş),(110,ajm),(111,œ)]
def ao1 (ρ:Type):List (à ρ):=[anA ρ,anz ρ]
def afU (ρ:Type):Env ρ:={Ý aHh (ao1 ρ) with hint:=ayF [(34,60),(56,60)]}
def asz:Ü:=⟨[Ð,l5],[tI],fun(x:Val ab5)=>ai5 x.1 x.2⟩
def aBg:É:={pin:=1,cs:=[l5,tI,tI,wi],vs:=[tI],head:=⟨19,.con l5::.fn 196 [(0,0)]::aN 5 [.con tI,.var tI],[aci]⟩,exits:=[(.ret,⟨19,[.con l5,.fn 196 [(0,0)],.any,.any,.var tI,.any,.any,.con tI],[aci]⟩,[tI]),(.exit 0,⟨19,.con l5::.fn 196 [(0,0)]::aN 5 [.con tI],[aci]⟩,[])]}
def anD (ρ:Type):à ρ:=⟨[3,2,1,2],155,0,aBg,fun(p:Val (.pair l5 abJ)) (v:Val tI) b a=>agV p.1 p.2.1 p.2.2.2 v (fun c=>b c) (a 0) (a 1)⟩
def aHk:List (Nat×Ü):=[]
def ao5 (ρ:Type):List (à ρ):=[anD ρ]
def amu (ρ:Type):Env ρ:=Ý aHk (ao5 ρ)
def aJX:Ü:=⟨[Ð,tI,l5],[tI,tI,.bool],fun(x:Val (.pair Ð abv))=>awG x.1 x.2.1 x.2.2⟩
def aLu:É:={pin:=0,cs:=[l5,tI,tI,wi],vs:=[tI,tI,tI],head:=⟨37,.any::.var tI::.any::.box 0 0::aN 5 [.var tI,.any,.any,.any,.con l5,.con tI,.var tI],[aci]⟩,exits:=[(.ret,⟨37,aN 3 (.box 0 0::aN 2 (.var tI::.var tI::.var .bool::aN 4 [.con l5,.con tI])),[aci]⟩,[tI,tI,.bool]),(.exit 0,⟨37,.any::.var tI::.any::.box 0 0::aN 5 [.var tI,.any,.any,.any,.con l5,.con tI],[aci]⟩,[tI,tI])]}
def avt (ρ:Type):à ρ:=⟨[],141,0,aLu,fun(p:Val (.pair l5 abJ)) (v:Val Ĉ) b a=>amt p.1 p.2.1 p.2.2.2 v.1 v.2.1 v.2.2 (fun c d e=>b (c,d,e)) (a 0) (a 1)⟩
def aRL:List (Nat×Ü):=[]
def azL (ρ:Type):List (à ρ):=[avt ρ]
def ax7 (ρ:Type):Env ρ:=Ý aRL (azL ρ)
def aq6:Ü:=⟨[Ð,tI,tI,l5],[tI,tI],fun(x:Val (.pair Ð (.pair tI abv)))=>aeP x.1 x.2.1 x.2.2.1 x.2.2.2⟩
def ayi:List (Nat×Ü):=[(138,akS),(139,aBI),(140,asz),(141,aJX)]
def ajU (ρ:Type):List (à ρ):=[]
def anG (ρ:Type):Env ρ:=Ý ayi (ajU ρ)
def alV:Ü:=⟨[κ],[tI],fun(x:Val κ)=>af1 x⟩
def aBa:List (Nat×Ü):=[(66,ŗ),(67,aeH),(68,ş),(69,aq6)]
def alg (ρ:Type):List (à ρ):=[]
def ao0 (ρ:Type):Env ρ:=Ý aBa (alg ρ)
def aJ4:Ü:=⟨[Å,Í],[Å,tI],fun(x:Val abC)=>aib x.1 x.2⟩
def aMc:É:={pin:=8,cs:=[tI,tI,tI,f6,eI,m5,eW,eI,tI,tI,l5,l5,tI,tI,tI,tI,tI,tI,tI,tI,f6,eI,m5,eW,eI,tI,tI,tI,tI,eW,tI,tI,f6,eI,m5,eI],vs:=[tI,eW],head:=⟨50,.any::.box 8 0::.box 9 0::.own 10::aN 21 [.own 10,.con tI,.var tI],acW⟩,exits:=[(.exit 0,⟨50,.any::.box 8 0::.box 9 0::.own 10::aN 21 [.own 10,.con tI],acW⟩,[eW])]}
def awc (ρ:Type):à ρ:=⟨[2,2,4,1],223,0,aMc,fun(p:Val (.pair tI (.pair tI (.pair tI (.pair f6 (.pair eI (.pair m5 (.pair eW (.pair eI (.pair tI (.pair tI (.pair l5 (.pair l5 (.pair tI (.pair tI (.pair tI (.pair tI (.pair tI (.pair tI (.pair tI (.pair tI (.pair f6 (.pair eI (.pair m5 (.pair eW (.pair eI (.pair tI (.pair tI (.pair tI (.pair tI (.pair eW (.pair tI (.pair tI (.pair f6 (.pair eI (.pair m5 eI)))))))))))))))))))))))))))))))))))) (v:Val (.pair tI eW)) a b=>amO p.1 v.1 v.2 (fun c d=>a (c,d)) (b 0)⟩
def aR7:List (Nat×Ü):=[(66,ŗ)]
def az7 (ρ:Type):List (à ρ):=[awc ρ]
def ayu (ρ:Type):Env ρ:=Ý aR7 (az7 ρ)
def aOb:Ü:=⟨[Å,Í,Ã],[Ã,tI],fun(x:Val (.pair Å (.pair Í Ã)))=>alK x.1 x.2.1 x.2.2⟩
def aPv:List (Nat×Ü):=[(238,axm),(239,aCD),(240,aJZ),(241,aCB)]
def avS (ρ:Type):List (à ρ):=[]
def aEM (ρ:Type):Env ρ:=Ý aPv (avS ρ)
def aCE:Ü:=⟨[Å,Í],[Ã,tI],fun(x:Val abC)=>am8 x.1 x.2⟩
def aHV:List (Nat×Ü):=[(114,auf),(137,aJ1),(147,aJ4),(198,aoa),(199,ap7),(200,aOb)]
def apr (ρ:Type):List (à ρ):=[]
def awd (ρ:Type):Env ρ:=Ý aHV (apr ρ)
def aOa:Ü:=⟨[Å,tI],[Í,tI],fun(x:Val abI)=>awJ x.1 x.2⟩
def aPu:List (Nat×Ü):=[(66,ŗ)]
def avR (ρ:Type):List (à ρ):=[]
def aEK (ρ:Type):Env ρ:=Ý aPu (avR ρ)
def aTA:Ü:=⟨[Å,tI],[Ã,tI],fun(x:Val abI)=>aB2 x.1 x.2⟩
def aR8:List (Nat×Ü):=[(202,aOa),(203,aJ0)]
def az9 (ρ:Type):List (à ρ):=[]
def aIX (ρ:Type):Env ρ:=Ý aR8 (az9 ρ)
def axn:Ü:=⟨[l5,l5],[l5,l5,tI],fun(x:Val ab2)=>alM x.1 x.2⟩
def aMj:List (Nat×Ü):=[(199,ap7),(204,axl)]
def ar9 (ρ:Type):List (à ρ):=[]
def aAb (ρ:Type):Env ρ:=Ý aMj (ar9 ρ)
def azh:Ü:=⟨[l5,aby,(.ptr Í)],[tI],fun(x:Val (.pair l5 (.pair aby (.ptr Í))))=>ahm x.1 x.2.1 x.2.2⟩
def aDQ:List (Nat×Ü):=[(50,ae2)]
def anv (ρ:Type):List (à ρ):=[]
def arE (ρ:Type):Env ρ:=Ý aDQ (anv ρ)
def azg:Ü:=⟨[tI,tI,aby,(.ptr tI),abU,(.ptr tI)],[Ĉ],fun(x:Val (.pair tI (.pair tI (.pair aby (.pair (.ptr tI) (.pair abU (.ptr tI)))))))=>ahl x.1 x.2.1 x.2.2.1 x.2.2.2.1 x.2.2.2.2.1 x.2.2.2.2.2⟩
def aDP:List (Nat×Ü):=[(51,aeG)]
def anu (ρ:Type):List (à ρ):=[]
def arD (ρ:Type):Env ρ:=Ý aDP (anu ρ)
def axj:Ü:=⟨[aby,Ã,Í],[ű,tI],fun(x:Val (.pair aby abX))=>alG x.1 x.2.1 x.2.2⟩
def aDO:É:={pin:=0,cs:=[tI,l5,l5,eI,wi,tI,tI,tI,tI,tI,l5,l5,tI,tI,tI,tI,tI,tI,tI,tI,tI,tI,tI,tI,tI,tI,tI,tI,tI,tI,f6,eI,m5,eW,eI,tI],vs:=[tI,wi],head:=⟨127,aN 4 (.box 0 0::.box 1 0::.box 2 0::.any::.box 3 0::aN 2 (.con tI::.box 4 0::.any::.con l5::.con l5::aN 2 (.con eI::.any::.box 5 0::aN 65 [.con wi,.con tI,.var tI]))),[ach,acg,acb,ach,ach,acr,.rowv Ĉ]⟩,exits:=[(.exit 0,⟨127,aN 4 (.box 0 0::.box 1 0::.box 2 0::.any::.box 3 0::aN 2 (.con tI::.box 4 0::.any::.con l5::.con l5::aN 2 (.con eI::.any::.box 5 0::aN 65 [.con wi,.con tI]))),[ach,acg,acb,ach,ach,acr,.rowv Ĉ]⟩,[wi])]}
def aoR (ρ:Type):à ρ:=⟨[],76,0,aDO,fun(p:Val (.pair tI (.pair l5 (.pair l5 (.pair eI (.pair wi (.pair tI (.pair tI (.pair tI (.pair tI (.pair tI (.pair l5 (.pair l5 (.pair tI (.pair tI (.pair tI (.pair tI (.pair tI (.pair tI (.pair tI (.pair tI (.pair tI (.pair tI (.pair tI (.pair tI (.pair tI (.pair tI (.pair tI (.pair tI (.pair tI (.pair tI (.pair f6 (.pair eI (.pair m5 (.pair eW abT))))))))))))))))))))))))))))))))))) (v:Val Ð) a b=>afT p.1 p.2.2.2.1 p.2.2.2.2.1 p.2.2.2.2.2.1 v.1 v.2 (fun c d=>a (c,d)) (b 0)⟩
def aLe:List (Nat×Ü):=[(50,ae2),(68,ş),(146,aCE),(147,aJ4),(148,aTA),(149,axn),(150,azh),(151,azg)]
def arC (ρ:Type):List (à ρ):=[aoR ρ]
def ajG (ρ:Type):Env ρ:={Ý aLe (arC ρ) with hint:=ayF [(110,150),(113,150),(120,151),(123,151)]}
def alU:Ü:=⟨[Ĉ],[l5],fun(x:Val Ĉ)=>adK x⟩
def aA5:List (Nat×Ü):=[]
def ak5 (ρ:Type):List (à ρ):=[]
def aoU (ρ:Type):Env ρ:=Ý aA5 (ak5 ρ)
def aIw:Ü:=⟨[Ĉ,tI],[tI],fun(x:Val (.pair Ĉ tI))=>alH x.1 x.2⟩
def aLg:List (Nat×Ü):=[]
def arF (ρ:Type):List (à ρ):=[]
def azE (ρ:Type):Env ρ:=Ý aLg (arF ρ)
def akf:Ü:=⟨[ű,tI],[Ã],fun(x:Val (.pair ű tI))=>Ŕ x.1 x.2⟩
def axL:List (Nat×Ü):=[(154,aIw)]
def ajB (ρ:Type):List (à ρ):=[]
def anp (ρ:Type):Env ρ:=Ý axL (ajB ρ)
def akg:Ü:=⟨[ű,l5],[l5],fun(x:Val (.pair ű l5))=>aeO x.1 x.2⟩
def asV:É:={pin:=0,cs:=[tI,l5,tI,tI,tI,tI,tI,tI,tI,tI,tI,tI],vs:=[tI,l5],head:=⟨48,aN 2 (.box 0 0::aN 2 (.own 1::.any::.con tI::.var tI::aN 7 [.con l5,.con tI,.con tI])),acH⟩,exits:=[(.exit 2,⟨48,aN 2 (.box 0 0::aN 2 (.own 1::.any::.con tI::aN 8 [.con l5,.con tI,.con tI])),acH⟩,[l5])]}
def aiG (ρ:Type):à ρ:=⟨[],88,2,asV,fun(p:Val (.pair tI (.pair l5 (.pair tI ab0)))) (v:Val abv) a b=>adj p.1 p.2.2.2.2.1 p.2.2.2.2.2.1 v.1 v.2 (fun c d=>a (c,d)) (b 0)⟩
def asW:É:={pin:=0,cs:=[l5,tI,tI,tI,tI,tI,tI,tI,tI,tI],vs:=[tI,l5],head:=⟨48,aN 2 (.box 0 0::aN 2 (.own 1::aN 10 [.con l5,.con tI,.var tI])),acH⟩,exits:=[(.exit 0,⟨48,aN 2 (.box 0 0::aN 2 (.own 1::aN 10 [.con l5,.con tI])),acH⟩,[l5])]}
def aiH (ρ:Type):à ρ:=⟨[],88,0,asW,fun(p:Val (.pair l5 ab0)) (v:Val abv) a b=>aeq p.1 p.2.1 p.2.2.1 p.2.2.2.1 v.1 v.2 (fun c d=>a (c,d)) (b 0)⟩
def axM:List (Nat×Ü):=[]
def ajC (ρ:Type):List (à ρ):=[aiG ρ,aiH ρ]
def aeW (ρ:Type):Env ρ:=Ý axM (ajC ρ)
def an8:Ü:=⟨[ű],[tI],fun(x:Val ű)=>afZ x⟩
def aqO:É:={pin:=0,cs:=[l5,tI,tI,tI,tI,tI,tI,tI,tI,tI],vs:=[tI,tI],head:=⟨34,.any::.box 0 0::.any::.var tI::aN 12 [.con l5,.con tI,.var tI],[acb]⟩,exits:=[(.exit 0,⟨34,.any::.box 0 0::.any::.var tI::aN 12 [.con l5,.con tI],[acb]⟩,[tI])]}
def ahH (ρ:Type):à ρ:=⟨[],77,0,aqO,fun(p:Val (.pair l5 ab0)) (v:Val Ã) a b=>let A:=p.2.2.2.2;ad6 p.1 p.2.1 p.2.2.1 p.2.2.2.1 A.1 A.2.1 A.2.2.1 A.2.2.2.1 A.2.2.2.2.1 A.2.2.2.2.2 v.1 v.2 (fun c d=>a (c,d)) (b 0)⟩
def auW:List (Nat×Ü):=[(81,Ş),(82,alU),(86,akf),(88,akg)]
def aiE (ρ:Type):List (à ρ):=[ahH ρ]
def agx (ρ:Type):Env ρ:=Ý auW (aiE ρ)
def aN3:Ü:=⟨[Å,Ã,Í],[tI,tI],fun(x:Val (.pair Å abX))=>apF x.1 x.2.1 x.2.2⟩
def aHc:É:={pin:=4,cs:=[tI,tI,tI,f6,eI,m5,eW,eI,tI,tI,tI,tI,l5,l5,tI,tI,tI,tI,eI],vs:=[tI,tI,tI,f6,eI,m5,eW,eI],head:=⟨68,aN 2 (.box 4 0::aN 20 [.own 3,.con tI,.var tI]),acX⟩,exits:=[(.ret,⟨68,aN 2 (.box 4 0::.any::.nilp::.var tI::aN 17 [.own 3,.con tI]),acX⟩,[tI,tI,tI,f6,eI,m5,eW,eI]),(.exit 0,⟨68,aN 2 (.box 4 0::aN 20 [.own 3,.con tI]),acX⟩,[tI,tI,f6,eI,m5,eW,eI])]}
def arG (ρ:Type):à ρ:=⟨[1,3],47,0,aHc,fun(p:Val (.pair tI (.pair tI (.pair tI (.pair f6 (.pair eI (.pair m5 (.pair eW (.pair eI (.pair tI (.pair tI (.pair tI (.pair tI (.pair l5 (.pair l5 (.pair tI (.pair tI abS))))))))))))))))) (v:Val abD) b a=>aoW p.1 p.2.2.2.2.2.2.2.2.2.2.2.2.2.2.2.2.2.2 v.1 v.2.1 v.2.2.1 v.2.2.2.1 v.2.2.2.2.1 v.2.2.2.2.2.1 v.2.2.2.2.2.2.1 v.2.2.2.2.2.2.2 (fun c d e f g h i j=>b (c,d,e,f,g,h,i,j)) (a 0) (a 1)⟩
def aO6:List (Nat×Ü):=[(66,ŗ),(67,aeH),(68,ş),(76,axj),(77,an8),(110,ajm),(111,œ)]
def avh (ρ:Type):List (à ρ):=[arG ρ]
def as3 (ρ:Type):Env ρ:=Ý aO6 (avh ρ)
def auc:Ü:=⟨[tI],[tI],fun(x:Val tI)=>af0 x⟩
def aA7:List (Nat×Ü):=[]
def ald (ρ:Type):List (à ρ):=[]
def aoX (ρ:Type):Env ρ:=Ý aA7 (ald ρ)
def aub:Ü:=⟨[Ĉ,tI],[l5],fun(x:Val (.pair Ĉ tI))=>adL x.1 x.2⟩
def aA6:List (Nat×Ü):=[]
def ak6 (ρ:Type):List (à ρ):=[]
def aoV (ρ:Type):Env ρ:=Ý aA6 (ak6 ρ)
def aCw:Ü:=⟨[Å,Ã,Ã,Í],[.bool,tI],fun(x:Val (.pair Å (.pair Ã abX)))=>ai3 x.1 x.2.1 x.2.2.1 x.2.2.2⟩
def Ι:É:={pin:=5,cs:=[tI,tI,tI,f6,eI,m5,eW,eI,tI,tI,tI,tI,tI,tI,l5,l5,tI,tI,tI,tI,eI],vs:=[tI,tI,tI,f6,eI,m5,eW,eI],head:=⟨68,aN 2 (.box 5 0::aN 20 [.own 4,.con tI,.var tI]),acY⟩,exits:=[(.ret,⟨68,aN 2 (.box 5 0::.any::.nilp::.var tI::aN 17 [.own 4,.con tI]),acY⟩,[tI,tI,tI,f6,eI,m5,eW,eI]),(.exit 0,⟨68,aN 2 (.box 5 0::aN 20 [.own 4,.con tI]),acY⟩,[tI,tI,f6,eI,m5,eW,eI])]}
def ahz (ρ:Type):à ρ:=⟨[1,3],47,0,Ι,fun(p:Val abw) (v:Val abD) b a=>ako p.1 p.2.2.2.2.2.2.2.2.2.2.2.2.2.2.2.2.2.2.2.2 v.1 v.2.1 v.2.2.1 v.2.2.2.1 v.2.2.2.2.1 v.2.2.2.2.2.1 v.2.2.2.2.2.2.1 v.2.2.2.2.2.2.2 (fun c d e f g h i j=>b (c,d,e,f,g,h,i,j)) (a 0) (a 1)⟩
def Θ:É:={pin:=12,cs:=[l5,tI,tI,tI,f6,eI,m5,eW,eI,tI,tI,tI,tI,tI,tI,l5,l5,tI,tI,tI,tI,eI,tI,tI,f6,eI,m5,eW,eI,tI,wi,tI,tI,tI,tI,tI,tI,tI,tI,abr,abr,abr],vs:=[tI],head:=⟨19,.con l5::.fn 85 [(8,0),(2,0)]::aN 5 [.con tI,.var tI],acZ⟩,exits:=[(.ret,⟨19,[.con l5,.fn 85 [(8,0),(2,0)],.any,.any,.var tI,.any,.any,.con tI],acZ⟩,[tI]),(.exit 0,⟨19,.con l5::.fn 85 [(8,0),(2,0)]::aN 5 [.con tI],acZ⟩,[])]}
def ahy (ρ:Type):à ρ:=⟨[18,4,1,2],155,0,Θ,fun(p:Val abt) (v:Val tI) b a=>let A:=p.2.2.2.2.2.2.2.2.2.2.2;let B:=A.2.2.2.2.2.2.2.2.2.2.2.2.2.2.2.2.2.2.2.2;let C:=B.2.2.2.2;agU p.1 p.2.1 A.1 A.2.1 B.1 B.2.1 B.2.2.1 B.2.2.2.1 C.1 C.2.1 C.2.2.1 C.2.2.2.1 v (fun c=>b c) (a 0) (a 1)⟩
def arJ:List (Nat×Ü):=[(57,asw),(66,ŗ),(67,aeH),(68,ş),(76,axj),(81,Ş),(82,alU),(83,auc),(84,aub),(86,akf),(88,akg),(110,ajm),(111,œ)]
def aiN (ρ:Type):List (à ρ):=[ahz ρ,ahy ρ]
def akn:List aZb:=[⟨[],35,0,4⟩]
def Ĕ (ρ:Type):Env ρ:={Ý arJ (aiN ρ) with hint:=ayF [(51,83),(55,83)]}
def amk (ρ:Type):Env ρ:={{a08 arJ (aiN ρ) akn with loops:=aPJ (Ĕ ρ) akn} with hint:=ayF [(51,83),(55,83)]}
def aN7:Ü:=⟨[Ð],[l5,tI],fun(x:Val Ð)=>apI x⟩
def aHt:É:={pin:=0,cs:=[tI,tI,wi],vs:=[tI,abP],head:=⟨93,.any::.box 0 0::aN 6 (.own 1::aN 24 [.con tI,.var tI]),[aci,.rowv abr]⟩,exits:=[(.exit 0,⟨93,.any::.box 0 0::aN 6 (.own 1::aN 24 [.con tI]),[aci,.rowv abr]⟩,[abP])]}
def arU (ρ:Type):à ρ:=⟨[],91,0,aHt,fun(p:Val abJ) (v:Val (.pair tI abP)) a b=>azR p.1 p.2.1 p.2.2 v.1 v.2 (fun c d=>a (c,d)) (b 0)⟩
def aHp:É:={pin:=3,cs:=[tI,abr,wi,tI,tI,wi,abP,tI,tI,tI,tI,wi],vs:=[tI,tI,tI,l5],head:=⟨73,.any::.var tI::.con tI::.con abr::.fn 161 []::.box 3 0::aN 5 (.own 4::.var tI::aN 7 [.con wi,.con tI,.var tI]),ac0⟩,exits:=[(.exit 2,⟨73,.any::.var tI::.con tI::.con abr::.fn 161 []::.box 3 0::aN 5 (.own 4::.var tI::aN 7 [.con wi,.con tI]),ac0⟩,[tI,tI,l5])]}
def arQ (ρ:Type):à ρ:=⟨[22,10],125,2,aHp,fun(p:Val (.pair tI (.pair abr (.pair wi (.pair tI (.pair tI (.pair wi (.pair abP (.pair tI (.pair tI abJ)))))))))) (v:Val abK) a b=>azN p.1 p.2.1 p.2.2.1 p.2.2.2.1 v.1 v.2.1 v.2.2.1 v.2.2.2 (fun c d e f=>a (c,d,e,f)) (b 0)⟩
def aHq:É:={pin:=3,cs:=[abr,tI,wi,abP,tI,tI,tI,tI,wi],vs:=[tI,tI,tI,l5],head:=⟨73,.any::.var tI::.var tI::.con abr::.fn 161 []::.box 3 0::aN 5 [.own 4,.var tI],ac0⟩,exits:=[(.exit 0,⟨73,aN 3 (.con abr::.fn 161 []::.box 3 0::aN 5 [.own 4]),ac0⟩,[l5])]}
def arR (ρ:Type):à ρ:=⟨[22,10],125,0,aHq,fun(p:Val (.pair abr (.pair tI (.pair wi (.pair abP (.pair tI (.pair tI abJ))))))) (v:Val abK) a b=>azO p.1 p.2.2.2.2.2.2.2.2 v.1 v.2.1 v.2.2.1 v.2.2.2 (fun c d e f=>a (c,d,e,f)) (b 0)⟩
def aHr:É:={pin:=0,cs:=[tI,wi,tI,tI,wi,abP],vs:=[tI],head:=⟨93,.any::.box 0 0::aN 6 (.own 1::.any::.fn 161 []::.con tI::aN 37 [.con wi,.con tI,.var tI]),ac1⟩,exits:=[(.exit 2,⟨93,.any::.box 0 0::aN 6 (.own 1::.any::.fn 161 []::.con tI::aN 37 [.con wi,.con tI]),ac1⟩,[]),(.ret,⟨93,.any::.box 0 0::.own 2::.var tI::aN 4 (.own 1::.any::.fn 161 []::.con tI::aN 37 [.con wi,.con tI]),[aci,.rowc abr,.rowv tI]⟩,[tI,l5]),(.exit 4,⟨93,.any::.box 0 0::aN 6 (.own 1::.any::.fn 161 []::.con tI::aN 37 [.con wi,.con tI]),ac1⟩,[])]}
def arS (ρ:Type):à ρ:=⟨[],91,4,aHr,fun(p:Val (.pair tI (.pair wi (.pair tI (.pair tI (.pair wi abP)))))) (v:Val tI) b a=>azP p.1 p.2.1 p.2.2.1 p.2.2.2.1 p.2.2.2.2.1 p.2.2.2.2.2 v (fun c=>b c) (a 0) (a 1) (a 2)⟩
def aHs:É:={pin:=0,cs:=[tI,wi,abP],vs:=[tI],head:=⟨93,.any::.box 0 0::aN 6 [.own 1,.any,.fn 161 [],.var tI],ac1⟩,exits:=[(.exit 2,⟨93,.any::.box 0 0::aN 6 [.own 1,.any,.fn 161 []],ac1⟩,[]),(.ret,⟨93,.any::.box 0 0::.own 2::.var tI::aN 4 [.own 1,.any,.fn 161 []],[aci,.rowc abr,.rowv tI]⟩,[tI,l5])]}
def arT (ρ:Type):à ρ:=⟨[],91,2,aHs,fun(p:Val (.pair tI (.pair wi abP))) (v:Val tI) b a=>azQ p.1 p.2.1 p.2.2 v (fun c=>b c) (a 0) (a 1)⟩
def aPf:List (Nat×Ü):=[(117,ajl),(122,aCy),(138,akS)]
def avE (ρ:Type):List (à ρ):=[arU ρ,arQ ρ,arR ρ,arS ρ,arT ρ]
def afb (ρ:Type):Env ρ:=Ý aPf (avE ρ)
def aN5:Ü:=⟨[Å],[κ,tI],fun(x:Val Å)=>awF x⟩
def aO9:List (Nat×Ü):=[(62,aiB),(63,asx),(68,ş),(91,aN7)]
def avr (ρ:Type):List (à ρ):=[]
def aD1 (ρ:Type):Env ρ:=Ý aO9 (avr ρ)
def azf:Ü:=⟨[],[Å],fun(_:Unit)=>apC⟩
def aCO:List (Nat×Ü):=[]
def ann (ρ:Type):List (à ρ):=[]
def aq8 (ρ:Type):Env ρ:=Ý aCO (ann ρ)
def aTv:Ü:=⟨[l5,tI],[.bool],fun(x:Val abH)=>aB0 x.1 x.2⟩
def aRF:List (Nat×Ü):=[(149,axn)]
def azC (ρ:Type):List (à ρ):=[]
def aIO (ρ:Type):Env ρ:=Ý aRF (azC ρ)
def aN2:Ü:=⟨[tI],[.bool],fun(x:Val tI)=>awD x⟩
def aOY:List (Nat×Ü):=[]
def ave (ρ:Type):List (à ρ):=[]
def aDR (ρ:Type):Env ρ:=Ý aOY (ave ρ)
def aN1:Ü:=⟨[tI,abr],[eI],fun(x:Val abN)=>awC x.1 x.2⟩
def aG6:É:={pin:=0,cs:=[tI,l5,tI],vs:=[tI,eI],head:=⟨23,.con tI::aN 4 [.own 0,.any,.any,.any,.con l5,.con tI,.var tI],[.rowv Ã]⟩,exits:=[(.exit 0,⟨23,.con tI::aN 4 [.own 0,.any,.any,.any,.con l5,.con tI],[.rowv Ã]⟩,[eI])]}
def arB (ρ:Type):à ρ:=⟨[],108,0,aG6,fun(p:Val (.pair tI abH)) (v:Val abG) a b=>ajF p.1 p.2.1 p.2.2 v.1 v.2 (fun c d=>a (c,d)) (b 0)⟩
def aOX:List (Nat×Ü):=[(81,Ş)]
def avd (ρ:Type):List (à ρ):=[arB ρ]
def as0 (ρ:Type):Env ρ:=Ý aOX (avd ρ)
def aTx:Ü:=⟨[Å,tI,l5],[Ã,tI],fun(x:Val (.pair Å abv))=>aB1 x.1 x.2.1 x.2.2⟩
def aLq:É:={pin:=3,cs:=[eI,tI,tI,tI,f6,eI,m5,eW,eI,tI,tI,abr],vs:=[tI,tI,tI,f6,eI,m5,eW,eI],head:=⟨68,aN 2 (.box 3 0::aN 20 [.con eI,.con tI,.var tI]),[aca,ach,.rowf l5 0,aco]⟩,exits:=[(.ret,⟨68,aN 2 (.box 3 0::.any::.nilp::.var tI::aN 17 [.con eI,.con tI]),[aca,ach,.rowf l5 0,aco]⟩,[tI,tI,tI,f6,eI,m5,eW,eI]),(.exit 0,⟨68,aN 2 (.box 3 0::aN 20 [.con eI,.con tI]),[aca,ach,.rowf l5 0,aco]⟩,[tI,tI,f6,eI,m5,eW,eI])]}
def avn (ρ:Type):à ρ:=⟨[7,2],47,0,aLq,fun(p:Val (.pair eI (.pair tI (.pair tI (.pair tI (.pair f6 (.pair eI (.pair m5 (.pair eW (.pair eI (.pair tI abN))))))))))) (v:Val abD) b a=>amn p.1 p.2.1 v.1 v.2.1 v.2.2.1 v.2.2.2.1 v.2.2.2.2.1 v.2.2.2.2.2.1 v.2.2.2.2.2.2.1 v.2.2.2.2.2.2.2 (fun c d e f g h i j=>b (c,d,e,f,g,h,i,j)) (a 0) (a 1)⟩
def aLp:É:={pin:=0,cs:=[aby,eI,tI,tI,tI],vs:=[tI,tI,tI],head:=⟨87,aN 6 (.box 0 0::aN 3 (.con aby::aN 2 (.box 1 0::aN 51 [.con eI,.con tI,.var tI]))),[ach,.cells [.var tI,.var tI]]⟩,exits:=[(.exit 0,⟨87,aN 6 (.box 0 0::aN 3 (.con aby::aN 2 (.box 1 0::aN 51 [.con eI,.con tI]))),[ach,.cells [.var tI,.var tI]]⟩,[tI,tI])]}
def avm (ρ:Type):à ρ:=⟨[],45,0,aLp,fun(p:Val (.pair aby (.pair eI Ĉ))) (v:Val Ĉ) a b=>amm p.1 p.2.1 p.2.2.1 v.1 v.2.1 v.2.2 (fun c d e=>a (c,d,e)) (b 0)⟩
def aRK:List (Nat×Ü):=[(48,ael),(66,ŗ),(67,aeH),(68,ş),(106,aTv),(107,aN2),(108,aN1),(110,ajm),(111,œ)]
def azK (ρ:Type):List (à ρ):=[avn ρ,avm ρ]
def aqd (ρ:Type):Env ρ:=Ý aRK (azK ρ)
def aq5:Ü:=⟨[Ð,l5],[tI],fun(x:Val ab5)=>agY x.1 x.2⟩
def ayh:List (Nat×Ü):=[(138,akS),(140,asz),(141,aJX)]
def ajT (ρ:Type):List (à ρ):=[]
def anF (ρ:Type):Env ρ:=Ý ayh (ajT ρ)
def aq4:Ü:=⟨[κ],[tI],fun(x:Val κ)=>agX x⟩
def ax1:List (Nat×Ü):=[(66,ŗ),(68,ş),(92,aq5)]
def ajN (ρ:Type):List (à ρ):=[]
def anx (ρ:Type):Env ρ:=Ý ax1 (ajN ρ)
def adR:Ü:=⟨[f6,Ó],[tI],fun(x:Val (.pair f6 Ó))=>ŧ x.1 x.2⟩
def afu:É:={pin:=0,cs:=[f6,tI,tI,tI,tI,tI,tI,tI,tI,tI],vs:=[tI],head:=⟨19,[.con f6,.any,.any,.box 0 0,.any,.any,.any,.con tI,.var tI],[acb]⟩,exits:=[(.ret,⟨19,[.con f6,.any,.any,.box 0 0,.var tI,.any,.any,.con tI],[acb]⟩,[tI]),(.exit 0,⟨19,[.con f6,.any,.any,.box 0 0,.any,.any,.any,.con tI],[acb]⟩,[])]}
def Α (ρ:Type):à ρ:=⟨[],248,0,afu,fun(p:Val (.pair f6 ab0)) (v:Val tI) b a=>let A:=p.2.2.2.2;ą p.1 p.2.1 p.2.2.1 p.2.2.2.1 A.1 A.2.1 A.2.2.1 A.2.2.2.1 A.2.2.2.2.1 A.2.2.2.2.2 v (fun c=>b c) (a 0) (a 1)⟩
def agd:List (Nat×Ü):=[]
def Ρ (ρ:Type):List (à ρ):=[Α ρ]
def ŏ (ρ:Type):Env ρ:=Ý agd (Ρ ρ)
def π:Ü:=⟨[f6,Ó],[.bool],fun(x:Val (.pair f6 Ó))=>Ġ x.1 x.2⟩
def ae7:List (Nat×Ü):=[(248,adR)]
def Ů (ρ:Type):List (à ρ):=[]
def Γ (ρ:Type):Env ρ:=Ý ae7 (Ů ρ)
def aeF:Ü:=⟨[eI,Ã],[tI],fun(x:Val abY)=>ζ x.1 x.2⟩
def ag4:É:={pin:=0,cs:=[eI,tI,tI,tI],vs:=[tI],head:=⟨19,[.con eI,.any,.any,.box 0 0,.any,.any,.any,.con tI,.var tI],[ach]⟩,exits:=[(.ret,⟨19,[.con eI,.any,.any,.box 0 0,.var tI,.any,.any,.con tI],[ach]⟩,[tI]),(.exit 0,⟨19,[.con eI,.any,.any,.box 0 0,.any,.any,.any,.con tI],[ach]⟩,[])]}
def adr (ρ:Type):à ρ:=⟨[],250,0,ag4,fun(p:Val (.pair eI Ĉ)) (v:Val tI) b a=>Ě p.1 p.2.1 p.2.2.1 p.2.2.2 v (fun c=>b c) (a 0) (a 1)⟩
def ahR:List (Nat×Ü):=[]
def adS (ρ:Type):List (à ρ):=[adr ρ]
def ŵ (ρ:Type):Env ρ:=Ý ahR (adS ρ)
def ad3:Ü:=⟨[eI,Ã],[.bool],fun(x:Val abY)=>Ĝ x.1 x.2⟩
def agw:List (Nat×Ü):=[(250,aeF)]
def χ (ρ:Type):List (à ρ):=[]
def ads (ρ:Type):Env ρ:=Ý agw (χ ρ)
def ad9:Ü:=⟨[m5,Ō],[tI],fun(x:Val (.pair m5 Ō))=>Ź x.1 x.2⟩
def agc:É:={pin:=0,cs:=[m5,tI,tI,tI,tI,tI],vs:=[tI],head:=⟨19,[.con m5,.any,.any,.box 0 0,.any,.any,.any,.con tI,.var tI],[acd]⟩,exits:=[(.ret,⟨19,[.con m5,.any,.any,.box 0 0,.var tI,.any,.any,.con tI],[acd]⟩,[tI]),(.exit 0,⟨19,[.con m5,.any,.any,.box 0 0,.any,.any,.any,.con tI],[acd]⟩,[])]}
def υ (ρ:Type):à ρ:=⟨[],252,0,agc,fun(p:Val (.pair m5 ab8)) (v:Val tI) b a=>č p.1 p.2.1 p.2.2.1 p.2.2.2.1 p.2.2.2.2.1 p.2.2.2.2.2 v (fun c=>b c) (a 0) (a 1)⟩
def ag6:List (Nat×Ü):=[]
def adi (ρ:Type):List (à ρ):=[υ ρ]
def ť (ρ:Type):Env ρ:=Ý ag6 (adi ρ)
def adq:Ü:=⟨[m5,Ō],[.bool],fun(x:Val (.pair m5 Ō))=>Ď x.1 x.2⟩
def afG:List (Nat×Ü):=[(252,ad9)]
def Β (ρ:Type):List (à ρ):=[]
def ψ (ρ:Type):Env ρ:=Ý afG (Β ρ)
def aTw:Ü:=⟨[Å,Å],[.bool],fun(x:Val (.pair Å Å))=>awB x.1 x.2⟩
def aLb:É:={pin:=0,cs:=[f6,tI,tI,tI,f6,eI,m5,eW,eI,tI,tI,f6,eI,m5,eW,eI],vs:=[tI,abq],head:=⟨87,aN 2 (.box 0 0::.box 1 0::.any::.box 2 0::aN 10 [.con f6,.con tI,.var tI]),[aca,aca,acu,.mapv tI .bool]⟩,exits:=[(.exit 0,⟨87,aN 2 (.box 0 0::.box 1 0::.any::.box 2 0::aN 10 [.con f6,.con tI]),[aca,aca,acu,.mapv tI .bool]⟩,[abq])]}
def avc (ρ:Type):à ρ:=⟨[],109,0,aLb,fun(p:Val (.pair f6 (.pair tI abQ))) (v:Val (.pair tI abq)) a b=>amg p.1 p.2.1 v.1 v.2 (fun c d=>a (c,d)) (b 0)⟩
def aK8:É:={pin:=6,cs:=[l5,l5,tI,tI,tI,f6,eI,m5,eW,eI,tI,tI,f6,eI,m5,eW,eI,abq,tI,tI,l5,l5,tI,tI,tI,tI,tI,tI,l5,l5,tI,tI,tI,tI],vs:=[tI],head:=⟨26,.con l5::.con l5::aN 10 [.con tI,.var tI],ac2⟩,exits:=[(.ret,⟨26,.con l5::.con l5::aN 2 (.var .bool::aN 7 [.con tI]),ac2⟩,[.bool]),(.exit 0,⟨26,.con l5::.con l5::aN 10 [.con tI],ac2⟩,[])]}
def au9 (ρ:Type):à ρ:=⟨[14,3,1,2,4,5,1,38],176,0,aK8,fun(p:Val (.pair l5 (.pair l5 (.pair tI (.pair tI (.pair tI (.pair f6 (.pair eI (.pair m5 (.pair eW (.pair eI (.pair tI (.pair tI (.pair f6 (.pair eI (.pair m5 (.pair eW (.pair eI (.pair abq (.pair tI (.pair tI (.pair l5 (.pair l5 (.pair tI (.pair tI (.pair tI (.pair tI Í))))))))))))))))))))))))))) (v:Val tI) b a=>agB p.1 p.2.1 p.2.2.1 v (fun c=>b c) (a 0) (a 1)⟩
def aK7:É:={pin:=6,cs:=[l5,l5,tI,tI,tI,f6,eI,m5,eW,eI,tI,tI,f6,eI,m5,eW,eI,abq,tI,tI,l5,l5,tI,tI,tI,tI,tI,tI,l5,l5,tI,tI,tI,tI],vs:=[tI],head:=⟨26,.con l5::.con l5::aN 10 [.con tI,.var tI],ac2⟩,exits:=[(.ret,⟨26,.con l5::.con l5::aN 2 (.var .bool::aN 7 [.con tI]),ac2⟩,[.bool]),(.exit 0,⟨26,.con l5::.con l5::aN 10 [.con tI],ac2⟩,[])]}
def au8 (ρ:Type):à ρ:=⟨[14,3,1,2,4,5,1,45],176,0,aK7,fun(p:Val (.pair l5 (.pair l5 (.pair tI (.pair tI (.pair tI (.pair f6 (.pair eI (.pair m5 (.pair eW (.pair eI (.pair tI (.pair tI (.pair f6 (.pair eI (.pair m5 (.pair eW (.pair eI (.pair abq (.pair tI (.pair tI (.pair l5 (.pair l5 (.pair tI (.pair tI (.pair tI (.pair tI Í))))))))))))))))))))))))))) (v:Val tI) b a=>amf p.1 p.2.1 p.2.2.1 v (fun c=>b c) (a 0) (a 1)⟩
def aK9:É:={pin:=5,cs:=[eW,tI,tI,tI,f6,eI,m5,eW,eI,tI,tI,f6,eI,m5,eW,eI,abq,tI,tI,l5,l5,tI,tI,tI,tI],vs:=[tI],head:=⟨19,.con eW::.fn 175 [(4,0)]::aN 5 [.con tI,.var tI],ac3⟩,exits:=[(.ret,⟨19,[.con eW,.fn 175 [(4,0)],.any,.any,.var tI,.any,.any,.con tI],ac3⟩,[tI]),(.exit 0,⟨19,.con eW::.fn 175 [(4,0)]::aN 5 [.con tI],ac3⟩,[])]}
def ava (ρ:Type):à ρ:=⟨[14,3,1,2],213,0,aK9,fun(p:Val (.pair eW (.pair tI (.pair tI (.pair tI (.pair f6 (.pair eI (.pair m5 (.pair eW (.pair eI (.pair tI (.pair tI (.pair f6 (.pair eI (.pair m5 (.pair eW (.pair eI (.pair abq Í)))))))))))))))))) (v:Val tI) b a=>let A:=p.2.2.2.2.2.2.2.2.2.2.2.2.2.2.2.2.2;let B:=A.2.2.2.2;aiK p.1 p.2.1 A.1 A.2.1 A.2.2.1 A.2.2.2.1 B.1 B.2.1 B.2.2.1 B.2.2.2 v (fun c=>b c) (a 0) (a 1)⟩
def aLa:É:={pin:=0,cs:=[eW,tI,tI,tI,f6,eI,m5,eW,eI,tI,tI,f6,eI,m5,eW,eI,abq],vs:=[tI],head:=⟨87,aN 2 (.box 0 0::.box 1 0::aN 4 (.fn 172 []::.fn 173 [(2,0)]::.fn 174 [(2,0)]::aN 18 [.con eW,.con tI,.var tI])),ac4⟩,exits:=[(.ret,⟨87,aN 2 (.box 0 0::.box 1 0::.var .bool::aN 3 (.fn 172 []::.fn 173 [(2,0)]::.fn 174 [(2,0)]::aN 18 [.con eW,.con tI])),ac4⟩,[.bool]),(.exit 2,⟨87,aN 2 (.box 0 0::.box 1 0::aN 4 (.fn 172 []::.fn 173 [(2,0)]::.fn 174 [(2,0)]::aN 18 [.con eW,.con tI])),ac4⟩,[])]}
def avb (ρ:Type):à ρ:=⟨[],109,2,aLa,fun(p:Val (.pair eW (.pair tI (.pair tI (.pair tI (.pair f6 (.pair eI (.pair m5 (.pair eW (.pair eI (.pair tI (.pair tI (.pair f6 (.pair eI (.pair m5 (.pair eW (.pair eI abq))))))))))))))))) (v:Val tI) b a=>aiL p.1 p.2.1 p.2.2.2.2.2.2.2.2.2.2.2.2.2.2.1 v (fun c=>b c) (a 0) (a 1)⟩
def aK6:É:={pin:=6,cs:=[f6,tI,tI,tI,f6,eI,m5,eW,eI,tI,tI,f6,eI,m5,eW,eI,abq,f6],vs:=[tI],head:=⟨19,.con f6::.fn 215 [(5,0),(4,0)]::aN 5 [.con tI,.var tI],ac5⟩,exits:=[(.ret,⟨19,[.con f6,.fn 215 [(5,0),(4,0)],.any,.any,.var tI,.any,.any,.con tI],ac5⟩,[tI]),(.exit 0,⟨19,.con f6::.fn 215 [(5,0),(4,0)]::aN 5 [.con tI],ac5⟩,[])]}
def au7 (ρ:Type):à ρ:=⟨[17,11,1,2,1,2],247,0,aK6,fun(p:Val (.pair f6 (.pair tI (.pair tI (.pair tI (.pair f6 (.pair eI (.pair m5 (.pair eW (.pair eI (.pair tI (.pair tI (.pair f6 (.pair eI (.pair m5 (.pair eW (.pair eI (.pair abq f6)))))))))))))))))) (v:Val tI) b a=>aiJ p.1 p.2.1 p.2.2.2.2.2.2.2.2.2.2.2.2.2.2.2.2.2 v (fun c=>b c) (a 0) (a 1)⟩
def aK5:É:={pin:=8,cs:=[eI,tI,tI,tI,f6,eI,m5,eW,eI,tI,tI,f6,eI,m5,eW,eI,abq,f6,eI],vs:=[tI],head:=⟨19,.con eI::.fn 218 [(7,0),(6,0)]::aN 5 [.con tI,.var tI],ac6⟩,exits:=[(.ret,⟨19,[.con eI,.fn 218 [(7,0),(6,0)],.any,.any,.var tI,.any,.any,.con tI],ac6⟩,[tI]),(.exit 0,⟨19,.con eI::.fn 218 [(7,0),(6,0)]::aN 5 [.con tI],ac6⟩,[])]}
def au6 (ρ:Type):à ρ:=⟨[17,19,1,2,1,2],249,0,aK5,fun(p:Val (.pair eI (.pair tI (.pair tI (.pair tI (.pair f6 (.pair eI (.pair m5 (.pair eW (.pair eI (.pair tI (.pair tI (.pair f6 (.pair eI (.pair m5 (.pair eW (.pair eI (.pair abq (.pair f6 eI))))))))))))))))))) (v:Val tI) b a=>afa p.1 p.2.1 p.2.2.2.2.2.2.2.2.2.2.2.2.2.2.2.2.1 p.2.2.2.2.2.2.2.2.2.2.2.2.2.2.2.2.2.2 v (fun c=>b c) (a 0) (a 1)⟩
def aK4:É:={pin:=10,cs:=[eI,tI,tI,tI,f6,eI,m5,eW,eI,tI,tI,f6,eI,m5,eW,eI,abq,f6,eI,eI],vs:=[tI],head:=⟨19,.con eI::.fn 218 [(9,0),(8,0)]::aN 5 [.con tI,.var tI],ac7⟩,exits:=[(.ret,⟨19,[.con eI,.fn 218 [(9,0),(8,0)],.any,.any,.var tI,.any,.any,.con tI],ac7⟩,[tI]),(.exit 0,⟨19,.con eI::.fn 218 [(9,0),(8,0)]::aN 5 [.con tI],ac7⟩,[])]}
def au5 (ρ:Type):à ρ:=⟨[17,27,1,2,1,2],249,0,aK4,fun(p:Val (.pair eI (.pair tI (.pair tI (.pair tI (.pair f6 (.pair eI (.pair m5 (.pair eW (.pair eI (.pair tI (.pair tI (.pair f6 (.pair eI (.pair m5 (.pair eW (.pair eI (.pair abq (.pair f6 (.pair eI eI)))))))))))))))))))) (v:Val tI) b a=>agA p.1 p.2.1 p.2.2.2.2.2.2.2.2.2.2.2.2.2.2.2.2.1 p.2.2.2.2.2.2.2.2.2.2.2.2.2.2.2.2.2.2.2 v (fun c=>b c) (a 0) (a 1)⟩
def aK3:É:={pin:=12,cs:=[m5,tI,tI,tI,f6,eI,m5,eW,eI,tI,tI,f6,eI,m5,eW,eI,abq,f6,eI,eI,m5],vs:=[tI],head:=⟨19,.con m5::.fn 221 [(11,0),(10,0)]::aN 5 [.con tI,.var tI],ac8⟩,exits:=[(.ret,⟨19,[.con m5,.fn 221 [(11,0),(10,0)],.any,.any,.var tI,.any,.any,.con tI],ac8⟩,[tI]),(.exit 0,⟨19,.con m5::.fn 221 [(11,0),(10,0)]::aN 5 [.con tI],ac8⟩,[])]}
def au4 (ρ:Type):à ρ:=⟨[17,35,1,2,1,2],251,0,aK3,fun(p:Val (.pair m5 (.pair tI (.pair tI (.pair tI (.pair f6 (.pair eI (.pair m5 (.pair eW (.pair eI (.pair tI (.pair tI (.pair f6 (.pair eI (.pair m5 (.pair eW (.pair eI (.pair abq (.pair f6 (.pair eI (.pair eI m5))))))))))))))))))))) (v:Val tI) b a=>Ł p.1 p.2.1 p.2.2.2.2.2.2.2.2.2.2.2.2.2.2.2.2.1 p.2.2.2.2.2.2.2.2.2.2.2.2.2.2.2.2.2.2.2.2 v (fun c=>b c) (a 0) (a 1)⟩
def aK2:É:={pin:=14,cs:=[m5,tI,tI,tI,f6,eI,m5,eW,eI,tI,tI,f6,eI,m5,eW,eI,abq,f6,eI,eI,m5,m5],vs:=[tI],head:=⟨19,.con m5::.fn 221 [(13,0),(12,0)]::aN 5 [.con tI,.var tI],ac9⟩,exits:=[(.ret,⟨19,[.con m5,.fn 221 [(13,0),(12,0)],.any,.any,.var tI,.any,.any,.con tI],ac9⟩,[tI]),(.exit 0,⟨19,.con m5::.fn 221 [(13,0),(12,0)]::aN 5 [.con tI],ac9⟩,[])]}
def au3 (ρ:Type):à ρ:=⟨[17,43,1,2,1,2],251,0,aK2,fun(p:Val (.pair m5 (.pair tI (.pair tI (.pair tI (.pair f6 (.pair eI (.pair m5 (.pair eW (.pair eI (.pair tI (.pair tI (.pair f6 (.pair eI (.pair m5 (.pair eW (.pair eI (.pair abq (.pair f6 (.pair eI (.pair eI (.pair m5 m5)))))))))))))))))))))) (v:Val tI) b a=>ė p.1 p.2.1 p.2.2.2.2.2.2.2.2.2.2.2.2.2.2.2.2.1 p.2.2.2.2.2.2.2.2.2.2.2.2.2.2.2.2.2.2.2.2.2 v (fun c=>b c) (a 0) (a 1)⟩
def aRG:List (Nat×Ü):=[(216,π),(219,ad3),(222,adq)]
def azD (ρ:Type):List (à ρ):=[avc ρ,au9 ρ,au8 ρ,ava ρ,avb ρ,au7 ρ,au6 ρ,au5 ρ,au4 ρ,au3 ρ]
def Η (ρ:Type):Env ρ:=Ý aRG (azD ρ)
def aIx:Ü:=⟨[Å,κ],[.bool,tI],fun(x:Val (.pair Å κ))=>aqx x.1 x.2⟩
def aLo:List (Nat×Ü):=[(25,alV),(39,aq4),(66,ŗ),(109,aTw)]
def arH (ρ:Type):List (à ρ):=[]
def azJ (ρ:Type):Env ρ:=Ý aLo (arH ρ)
def aCr:Ü:=⟨[],[.bool],fun(_:Unit)=>Ï⟩
def aGl:List (Nat×Ü):=[(12,an9),(14,asy),(21,aN4),(24,aCx),(25,alV),(31,aN3),(35,aCw),(38,aN5),(44,azf),(45,aTx),(46,aIx)]
def aof (ρ:Type):List (à ρ):=[]
def auu (ρ:Type):Env ρ:=Ý aGl (aof ρ)
def aN6:Ü:=⟨[Ð],[eI,tI],fun(x:Val Ð)=>awH x⟩
def aHo:É:={pin:=1,cs:=[l5,tI,tI,wi,tI,wi],vs:=[tI,l5],head:=⟨28,.any::.box 1 0::aN 2 (.con l5::.own 2::aN 7 [.con tI,.var tI]),[aci,aci,.rowv tI]⟩,exits:=[(.exit 0,⟨28,.any::.box 1 0::aN 2 (.con l5::.own 2::aN 7 [.con tI]),[aci,aci,.rowv tI]⟩,[l5])]}
def arP (ρ:Type):à ρ:=⟨[4,1],113,0,aHo,fun(p:Val (.pair l5 ab9)) (v:Val abv) a b=>ajQ p.2.1 p.2.2.2.2.1 p.2.2.2.2.2 v.1 v.2 (fun c d=>a (c,d)) (b 0)⟩
def aHn:É:={pin:=0,cs:=[l5,tI,l5],vs:=[tI,eI],head:=⟨39,aN 5 (.con l5::.own 0::.own 1::aN 12 [.con tI,.var tI]),[.rowc tI,.rowv Ã]⟩,exits:=[(.exit 0,⟨39,aN 5 (.con l5::.own 0::.own 1::aN 12 [.con tI]),[.rowc tI,.rowv Ã]⟩,[eI])]}
def arO (ρ:Type):à ρ:=⟨[],49,0,aHn,fun(p:Val (.pair l5 abv)) (v:Val abG) a b=>ajP p.1 p.2.1 p.2.2 v.1 v.2 (fun c d=>a (c,d)) (b 0)⟩
def aPe:List (Nat×Ü):=[(112,aCz),(120,axk)]
def avC (ρ:Type):List (à ρ):=[arP ρ,arO ρ]
def amy (ρ:Type):Env ρ:=Ý aPe (avC ρ)
def aud:Ü:=⟨[Å],[eI,tI],fun(x:Val Å)=>ah8 x⟩
def avp:É:={pin:=1,cs:=[tI,tI,tI,f6,eI,m5,eW,eI,tI,tI,f6,eI,m5,eW,eI],vs:=[tI],head:=⟨68,aN 2 (.box 1 0::aN 20 [.nils,.con tI,.var tI]),[aca,aca]⟩,exits:=[(.exit 0,⟨68,aN 2 (.box 1 0::aN 20 [.nils,.con tI]),[aca,aca]⟩,[])]}
def ajM (ρ:Type):à ρ:=⟨[1,1],47,0,avp,fun(p:Val (.pair tI abQ)) (v:Val tI) a b=>ahA p.1 v (fun c=>a c) (b 0)⟩
def aA8:List (Nat×Ü):=[(49,aN6),(66,ŗ),(68,ş),(111,œ)]
def ale (ρ:Type):List (à ρ):=[ajM ρ]
def aiO (ρ:Type):Env ρ:=Ý aA8 (ale ρ)
def ag0:Ü:=⟨[Ã,tI,tI],[.bool],fun(x:Val í)=>aei x.1 x.2.1 x.2.2⟩
def aCT:List (Nat×Ü):=[]
def ano (ρ:Type):List (à ρ):=[]
def arc (ρ:Type):Env ρ:=Ý aCT (ano ρ)
def axh:Ü:=⟨[tI,tI,tI],[.bool],fun(x:Val Ĉ)=>afY x.1 x.2.1 x.2.2⟩
def aUW:List (Nat×Ü):=[]
def aDm (ρ:Type):List (à ρ):=[]
def aOH (ρ:Type):Env ρ:=Ý aUW (aDm ρ)
def aua:Ü:=⟨[tI],[.bool],fun(x:Val tI)=>am2 x⟩
def aRw:List (Nat×Ü):=[(164,axh)]
def azs (ρ:Type):List (à ρ):=[]
def aII (ρ:Type):Env ρ:=Ý aRw (azs ρ)
def aJV:Ü:=⟨[tI,tI],[tI],fun(x:Val Ã)=>aqv x.1 x.2⟩
def aKV:É:={pin:=0,cs:=[],vs:=[tI,tI],head:=⟨14,[.var tI,.var tI],[]⟩,exits:=[(.exit 0,⟨14,[.var tI],[]⟩,[tI])]}
def auU (ρ:Type):à ρ:=⟨[],209,0,aKV,fun(p:Unit) (v:Val Ã) a b=>amd v.1 v.2 (fun c d=>a (c,d)) (b 0)⟩
def aRC:List (Nat×Ü):=[]
def azy (ρ:Type):List (à ρ):=[auU ρ]
def axJ (ρ:Type):Env ρ:=Ý aRC (azy ρ)
def aJW:Ü:=⟨[tI],[tI],fun(x:Val tI)=>awA x⟩
def aRE:List (Nat×Ü):=[]
def azB (ρ:Type):List (à ρ):=[]
def aIN (ρ:Type):Env ρ:=Ý aRE (azB ρ)
def aIt:Ü:=⟨[Ã],[.bool],fun(x:Val Ã)=>aqt x⟩
def aKQ:List (Nat×Ü):=[(209,aJV),(210,aJW)]
def ary (ρ:Type):List (à ρ):=[]
def azt (ρ:Type):Env ρ:=Ý aKQ (ary ρ)
def aIq:Ü:=⟨[Ó],[.bool],fun(x:Val Ó)=>aqr x⟩
def aKr:List (Nat×Ü):=[(94,ag0),(100,aua),(163,aIt),(164,axh)]
def ari (ρ:Type):List (à ρ):=[]
def azn (ρ:Type):Env ρ:=Ý aKr (ari ρ)
def an7:Ü:=⟨[Å,tI],[tI],fun(x:Val abI)=>aiZ x.1 x.2⟩
def aGK:É:={pin:=0,cs:=[tI,tI,tI,f6,eI,m5,eW,eI],vs:=[tI],head:=⟨22,[.any,.con tI,.box 0 0,.any,.any,.var tI],acG⟩,exits:=[(.ret,⟨22,[.any,.con tI,.box 0 0,.any,.var tI],acG⟩,[tI]),(.exit 0,⟨22,[.any,.con tI,.box 0 0],acG⟩,[])]}
def aru (ρ:Type):à ρ:=⟨[],166,0,aGK,fun(p:Val abD) (v:Val tI) b a=>ajA p.1 p.2.2.2.1 v (fun c=>b c) (a 0) (a 1)⟩
def aOJ:List (Nat×Ü):=[]
def auQ (ρ:Type):List (à ρ):=[aru ρ]
def asS (ρ:Type):Env ρ:=Ý aOJ (auQ ρ)
def akQ:Ü:=⟨[Å,tI,tI],[tI],fun(x:Val abE)=>agG x.1 x.2.1 x.2.2⟩
def aKy:List (Nat×Ü):=[(166,an7)]
def arm (ρ:Type):List (à ρ):=[]
def azp (ρ:Type):Env ρ:=Ý aKy (arm ρ)
def aNR:Ü:=⟨[Å],[tI],fun(x:Val Å)=>awv x⟩
def aGp:É:={pin:=0,cs:=[tI,tI,f6,eI,m5,eW,eI],vs:=[tI],head:=⟨37,[.any,.box 0 0,.any,.var tI],acG⟩,exits:=[(.ret,⟨37,[.any,.box 0 0,.var tI],acG⟩,[tI]),(.exit 0,⟨37,[.any,.box 0 0],acG⟩,[])]}
def arb (ρ:Type):à ρ:=⟨[],96,0,aGp,fun(p:Val abo) (v:Val tI) b a=>let A:=p.2.2.2.2;ajq p.1 p.2.1 p.2.2.1 p.2.2.2.1 A.1 A.2.1 A.2.2 v (fun c=>b c) (a 0) (a 1)⟩
def aOw:List (Nat×Ü):=[(100,aua),(101,akQ)]
def auy (ρ:Type):List (à ρ):=[arb ρ]
def asH (ρ:Type):Env ρ:=Ý aOw (auy ρ)
def aIo:Ü:=⟨[Å],[tI],fun(x:Val Å)=>aqq x⟩
def aCV:É:={pin:=0,cs:=[tI,tI,tI,f6,eI,m5,eW,eI,tI,tI,tI,tI],vs:=[tI],head:=⟨111,[.any,.box 0 0,.any,.con tI,.box 1 0,.any,.var tI],acI⟩,exits:=[(.ret,⟨111,[.any,.box 0 0,.var tI,.con tI,.box 1 0],acI⟩,[tI]),(.exit 2,⟨111,[.any,.box 0 0,.any,.con tI,.box 1 0],acI⟩,[])]}
def aon (ρ:Type):à ρ:=⟨[],97,2,aCV,fun(p:Val (.pair tI abx)) (v:Val tI) b a=>let A:=p.2.2.2.2.2;ahS p.1 A.1 A.2.2.2.1 A.2.2.2.2.1 A.2.2.2.2.2.1 v (fun c=>b c) (a 0) (a 1)⟩
def aCU:É:={pin:=0,cs:=[tI,tI,tI,f6,eI,m5,eW,eI,tI,tI,tI,tI],vs:=[tI],head:=⟨111,[.any,.box 0 0,.any,.con tI,.box 1 0,.any,.any,.var tI],acI⟩,exits:=[(.ret,⟨111,[.any,.box 0 0,.var tI,.con tI,.box 1 0],acI⟩,[tI]),(.exit 4,⟨111,[.any,.box 0 0,.any,.con tI,.box 1 0],acI⟩,[])]}
def aom (ρ:Type):à ρ:=⟨[],97,4,aCU,fun(p:Val (.pair tI abx)) (v:Val tI) b a=>let A:=p.2.2.2.2;let B:=A.2.2.2.2;afL A.1 B.1 B.2.1 B.2.2.1 v (fun c=>b c) (a 0) (a 1)⟩
def aCW:É:={pin:=0,cs:=[tI,tI,f6,eI,m5,eW,eI],vs:=[tI],head:=⟨111,[.any,.box 0 0,.any,.var tI],acG⟩,exits:=[(.ret,⟨111,[.any,.box 0 0,.var tI],acG⟩,[tI]),(.exit 0,⟨111,[.any,.box 0 0],acG⟩,[])]}
def aoo (ρ:Type):à ρ:=⟨[],97,0,aCW,fun(p:Val abo) (v:Val tI) b a=>let A:=p.2.2.2.2;ahT p.1 p.2.1 p.2.2.1 p.2.2.2.1 A.1 A.2.1 A.2.2 v (fun c=>b c) (a 0) (a 1)⟩
def aKp:List (Nat×Ü):=[(94,ag0),(101,akQ),(164,axh)]
def arf (ρ:Type):List (à ρ):=[aon ρ,aom ρ,aoo ρ]
def ag9 (ρ:Type):Env ρ:=Ý aKp (arf ρ)
def aNV:Ü:=⟨[l5],[.bool],fun(x:Val l5)=>apD x⟩
def aGC:É:={pin:=0,cs:=[l5],vs:=[tI],head:=⟨35,[.con l5,.any,.any,.var tI],[]⟩,exits:=[(.ret,⟨35,[.con l5,.any,.var .bool],[]⟩,[.bool]),(.exit 0,⟨35,[.con l5],[]⟩,[])]}
def arn (ρ:Type):à ρ:=⟨[],165,0,aGC,fun(p:Val l5) (v:Val tI) b a=>ajw p v (fun c=>b c) (a 0) (a 1)⟩
def aOC:List (Nat×Ü):=[(164,axh)]
def auJ (ρ:Type):List (à ρ):=[arn ρ]
def asN (ρ:Type):Env ρ:=Ý aOC (auJ ρ)
def aIn:Ü:=⟨[Í],[.bool],fun(x:Val Í)=>aqp x⟩
def aKn:List (Nat×Ü):=[(94,ag0),(100,aua),(164,axh),(165,aNV)]
def ard (ρ:Type):List (à ρ):=[]
def azk (ρ:Type):Env ρ:=Ý aKn (ard ρ)
def aCt:Ü:=⟨[Å,tI,tI],[Ō,.bool],fun(x:Val abE)=>apE x.1 x.2.1 x.2.2⟩
def aGF:É:={pin:=0,cs:=[tI,tI,tI,tI,f6,eI,m5,eW,eI],vs:=[tI,tI,tI,tI,tI],head:=⟨42,[.any,.con tI,.con tI,.box 0 0,.any,.any,.box 1 0,.any,.var tI],[aca,acB]⟩,exits:=[(.ret,⟨42,[.any,.con tI,.con tI,.box 0 0,.any,.any,.box 1 0,.var .bool],[aca,acB]⟩,[.bool,tI,tI,tI,tI]),(.exit 0,⟨42,[.any,.con tI,.con tI,.box 0 0,.any,.any,.box 1 0],[aca,acB]⟩,[tI,tI,tI,tI])]}
def arq (ρ:Type):à ρ:=⟨[],167,0,aGF,fun(p:Val (.pair tI abD)) (v:Val ab8) b a=>ajy p.1 p.2.1 p.2.2.2.2.2.2.1 v.1 v.2.1 v.2.2.1 v.2.2.2.1 v.2.2.2.2 (fun c d e f g=>b (c,d,e,f,g)) (a 0) (a 1)⟩
def aOF:List (Nat×Ü):=[]
def auM (ρ:Type):List (à ρ):=[arq ρ]
def asP (ρ:Type):Env ρ:=Ý aOF (auM ρ)
def aTq:Ü:=⟨[l5,tI],[.bool],fun(x:Val abH)=>aBY x.1 x.2⟩
def aKH:É:={pin:=0,cs:=[l5,tI],vs:=[tI],head:=⟨18,[.con l5,.con tI,.any,.any,.any,.var tI],[]⟩,exits:=[(.ret,⟨18,[.con l5,.con tI,.any,.any,.var .bool],[]⟩,[.bool]),(.exit 0,⟨18,[.con l5,.con tI],[]⟩,[])]}
def auO (ρ:Type):à ρ:=⟨[],211,0,aKH,fun(p:Val abH) (v:Val tI) b a=>amc p.1 p.2 v (fun c=>b c) (a 0) (a 1)⟩
def aRv:List (Nat×Ü):=[]
def azq (ρ:Type):List (à ρ):=[auO ρ]
def axD (ρ:Type):Env ρ:=Ý aRv (azq ρ)
def aCu:Ü:=⟨[l5,l5],[l5],fun(x:Val ab2)=>aeN x.1 x.2⟩
def aGG:É:={pin:=0,cs:=[l5,l5],vs:=[tI,l5],head:=⟨28,[.con l5,.con l5,.any,.any,.any,.own 0,.var tI],[.rowv tI]⟩,exits:=[(.exit 0,⟨28,[.con l5,.con l5,.any,.any,.any,.own 0],[.rowv tI]⟩,[l5])]}
def ars (ρ:Type):à ρ:=⟨[],168,0,aGG,fun(p:Val ab2) (v:Val abv) a b=>ajz p.1 p.2 v.1 v.2 (fun c d=>a (c,d)) (b 0)⟩
def aOG:List (Nat×Ü):=[(211,aTq)]
def auN (ρ:Type):List (à ρ):=[ars ρ]
def asQ (ρ:Type):Env ρ:=Ý aOG (auN ρ)
def at7:Ü:=⟨[Å,Í],[tI],fun(x:Val abC)=>aew x.1 x.2⟩
def auB:É:={pin:=0,cs:=[tI,tI,f6,eI,m5,eW,eI,tI,tI,l5,l5,tI,tI,tI,tI,l5],vs:=[tI],head:=⟨90,[.any,.any,.box 0 0,.box 1 0,.any,.own 2,.var tI],acJ⟩,exits:=[(.ret,⟨90,[.any,.any,.box 0 0,.box 1 0,.var tI,.own 2],acJ⟩,[tI]),(.exit 0,⟨90,[.any,.any,.box 0 0,.box 1 0,.any,.own 2],acJ⟩,[])]}
def ajt (ρ:Type):à ρ:=⟨[],99,0,auB,fun(p:Val abz) (v:Val tI) b a=>let A:=p.2.2.2.2;aeV p.1 p.2.1 p.2.2.1 p.2.2.2.1 A.1 A.2.1 A.2.2.1 A.2.2.2.2.2.2.2.2.2.2.2 v (fun c=>b c) (a 0) (a 1)⟩
def auA:É:={pin:=0,cs:=[tI,tI,f6,eI,m5,eW,eI,tI,tI,l5,l5,tI,tI,tI,tI,l5],vs:=[tI],head:=⟨90,[.any,.any,.box 0 0,.box 1 0,.any,.own 2,.any,.var tI],acJ⟩,exits:=[(.ret,⟨90,[.any,.any,.box 0 0,.box 1 0,.var tI,.own 2],acJ⟩,[tI]),(.exit 2,⟨90,[.any,.any,.box 0 0,.box 1 0,.any,.own 2],acJ⟩,[])]}
def ajs (ρ:Type):à ρ:=⟨[],99,2,auA,fun(p:Val abz) (v:Val tI) b a=>let A:=p.2.2.2.2;adT p.1 p.2.1 p.2.2.1 p.2.2.2.1 A.1 A.2.1 A.2.2.1 A.2.2.2.2.1 A.2.2.2.2.2.2.2.2.2.2.2 v (fun c=>b c) (a 0) (a 1)⟩
def auz:É:={pin:=0,cs:=[tI,tI,f6,eI,m5,eW,eI,tI,tI,l5,l5,tI,tI,tI,tI,l5],vs:=[tI],head:=⟨90,[.any,.any,.box 0 0,.box 1 0,.any,.own 2,.any,.any,.var tI],acJ⟩,exits:=[(.ret,⟨90,[.any,.any,.box 0 0,.box 1 0,.var tI,.own 2],acJ⟩,[tI]),(.exit 4,⟨90,[.any,.any,.box 0 0,.box 1 0,.any,.own 2],acJ⟩,[])]}
def ajr (ρ:Type):à ρ:=⟨[],99,4,auz,fun(p:Val abz) (v:Val tI) b a=>let A:=p.2.2.2.2;Ζ p.1 p.2.1 p.2.2.1 p.2.2.2.1 A.1 A.2.1 A.2.2.1 A.2.2.2.2.1 A.2.2.2.2.2.2.2.2.2.2.2 v (fun c=>b c) (a 0) (a 1)⟩
def aAI:List (Nat×Ü):=[(101,akQ),(166,an7),(167,aCt),(168,aCu)]
def ak3 (ρ:Type):List (à ρ):=[ajt ρ,ajs ρ,ajr ρ]
def aeb (ρ:Type):Env ρ:=Ý aAI (ak3 ρ)
def aBH:Ü:=⟨[l5,l5],[tI],fun(x:Val ab2)=>ah7 x.1 x.2⟩
def aRr:List (Nat×Ü):=[(168,aCu)]
def azl (ρ:Type):List (à ρ):=[]
def aIH (ρ:Type):Env ρ:=Ý aRr (azl ρ)
def aNS:Ü:=⟨[Å,Ó,tI],[.bool],fun(x:Val (.pair Å (.pair Ó tI)))=>aww x.1 x.2.1 x.2.2⟩
def aGv:É:={pin:=0,cs:=[tI,tI,tI,f6,eI,m5,eW,eI,tI,tI,tI,tI,tI,tI,tI,tI],vs:=[tI],head:=⟨76,[.any,.any,.con tI,.box 0 0,.box 1 0,.any,.any,.var tI],acN⟩,exits:=[(.ret,⟨76,[.any,.any,.con tI,.box 0 0,.box 1 0,.any,.var .bool],acN⟩,[.bool]),(.exit 0,⟨76,[.any,.any,.con tI,.box 0 0,.box 1 0],acN⟩,[])]}
def ark (ρ:Type):à ρ:=⟨[],169,0,aGv,fun(p:Val abB) (v:Val tI) b a=>aju p.1 p.2.2.2.2.2.2.1 p.2.2.2.2.2.2.2.2.1 v (fun c=>b c) (a 0) (a 1)⟩
def aGu:É:={pin:=0,cs:=[tI,tI,tI,f6,eI,m5,eW,eI,tI,tI,tI,tI,tI,tI,tI,tI],vs:=[tI],head:=⟨76,aN 2 (.con tI::.box 0 0::.box 1 0::aN 4 [.var tI]),acN⟩,exits:=[(.ret,⟨76,[.any,.any,.con tI,.box 0 0,.box 1 0,.any,.var .bool],acN⟩,[.bool]),(.exit 2,⟨76,[.any,.any,.con tI,.box 0 0,.box 1 0],acN⟩,[])]}
def arj (ρ:Type):à ρ:=⟨[],169,2,aGu,fun(p:Val abB) (v:Val tI) b a=>aha p.1 p.2.2.2.2.2.2.2.1 p.2.2.2.2.2.2.2.2.1 v (fun c=>b c) (a 0) (a 1)⟩
def aOy:List (Nat×Ü):=[(158,aBH)]
def auC (ρ:Type):List (à ρ):=[ark ρ,arj ρ]
def al9 (ρ:Type):Env ρ:=Ý aOy (auC ρ)
def akR:Ü:=⟨[Å],[eI],fun(x:Val Å)=>aex x⟩
def aDc:É:={pin:=0,cs:=[tI,tI,f6,eI,m5,eW,eI],vs:=[tI,l5],head:=⟨114,[.any,.box 0 0,.any,.own 1,.var tI],ada⟩,exits:=[(.exit 0,⟨114,[.any,.box 0 0,.any,.own 1],ada⟩,[l5])]}
def aov (ρ:Type):à ρ:=⟨[],102,0,aDc,fun(p:Val abo) (v:Val abv) a b=>ahX p.2.2.1 v.1 v.2 (fun c d=>a (c,d)) (b 0)⟩
def aDb:É:={pin:=0,cs:=[tI,tI,f6,eI,m5,eW,eI],vs:=[tI,l5],head:=⟨114,[.any,.box 0 0,.any,.own 1,.any,.var tI],ada⟩,exits:=[(.exit 2,⟨114,[.any,.box 0 0,.any,.own 1],ada⟩,[l5])]}
def aou (ρ:Type):à ρ:=⟨[],102,2,aDb,fun(p:Val abo) (v:Val abv) a b=>ahW p.2.2.2.2.2.1 v.1 v.2 (fun c d=>a (c,d)) (b 0)⟩
def aDa:É:={pin:=0,cs:=[tI,tI,f6,eI,m5,eW,eI],vs:=[tI,l5],head:=⟨114,[.any,.box 0 0,.any,.own 1,.any,.any,.var tI],ada⟩,exits:=[(.exit 4,⟨114,[.any,.box 0 0,.any,.own 1],ada⟩,[l5])]}
def aot (ρ:Type):à ρ:=⟨[],102,4,aDa,fun(p:Val abo) (v:Val abv) a b=>ahV p.2.2.2.2.2.2 v.1 v.2 (fun c d=>a (c,d)) (b 0)⟩
def aC7:É:={pin:=0,cs:=[tI,tI,tI,tI,f6,eI,m5,eW,eI,l5,eI],vs:=[tI,tI],head:=⟨114,[.any,.box 0 0,.any,.own 1,.any,.any,.any,.own 2,.con tI,.con tI,.var tI,.var tI],[aca,.rowc tI,.rowc Ã]⟩,exits:=[(.exit 10,⟨114,[.any,.box 0 0,.any,.own 1,.any,.any,.any,.own 2,.con tI,.con tI,.var tI],[aca,.rowc tI,.rowc Ã]⟩,[tI])]}
def aoq (ρ:Type):à ρ:=⟨[],102,10,aC7,fun(p:Val (.pair tI (.pair tI (.pair tI (.pair tI (.pair f6 (.pair eI (.pair m5 (.pair eW (.pair eI (.pair l5 eI))))))))))) (v:Val Ã) a b=>afM p.2.1 p.2.2.2.2.2.2.2.2.2.1 v.1 v.2 (fun c d=>a (c,d)) (b 0)⟩
def aC8:É:={pin:=0,cs:=[tI,tI,tI,f6,eI,m5,eW,eI,l5],vs:=[tI,eI],head:=⟨114,[.any,.box 0 0,.any,.own 1,.any,.any,.any,.own 2,.con tI,.var tI],adb⟩,exits:=[(.exit 8,⟨114,[.any,.box 0 0,.any,.own 1,.any,.any,.any,.own 2,.con tI],adb⟩,[eI])]}
def aor (ρ:Type):à ρ:=⟨[],102,8,aC8,fun(p:Val (.pair tI (.pair tI (.pair tI (.pair f6 (.pair eI (.pair m5 (.pair eW (.pair eI l5))))))))) (v:Val abG) a b=>let A:=p.2.2.2.2;afN p.1 p.2.1 p.2.2.1 p.2.2.2.1 A.1 A.2.1 A.2.2.1 A.2.2.2.1 A.2.2.2.2 v.1 v.2 (fun c d=>a (c,d)) (b 0)⟩
def aC9:É:={pin:=0,cs:=[tI,tI,f6,eI,m5,eW,eI,l5],vs:=[tI,eI],head:=⟨114,[.any,.box 0 0,.any,.own 1,.any,.any,.any,.own 2,.var tI],adb⟩,exits:=[(.exit 6,⟨114,[.any,.box 0 0,.any,.own 1,.any,.any,.any,.own 2],adb⟩,[eI])]}
def aos (ρ:Type):à ρ:=⟨[],102,6,aC9,fun(p:Val (.pair tI (.pair tI (.pair f6 (.pair eI (.pair m5 (.pair eW (.pair eI l5)))))))) (v:Val abG) a b=>let A:=p.2.2.2.2;ahU p.1 p.2.1 p.2.2.1 p.2.2.2.1 A.1 A.2.1 A.2.2.1 A.2.2.2 v.1 v.2 (fun c d=>a (c,d)) (b 0)⟩
def aKB:List (Nat×Ü):=[(169,aNS)]
def aro (ρ:Type):List (à ρ):=[aov ρ,aou ρ,aot ρ,aoq ρ,aor ρ,aos ρ]
def adt (ρ:Type):Env ρ:=Ý aKB (aro ρ)
def ap6:Ü:=⟨[Å,Ã],[tI],fun(x:Val abE)=>Œ x.1 x.2⟩
def aDl:É:={pin:=0,cs:=[eI,tI,tI],vs:=[tI],head:=⟨23,[.any,.any,.any,.box 0 0,.any,.con eI,.var tI],[ach]⟩,exits:=[(.ret,⟨23,[.any,.any,.any,.box 0 0,.var tI,.con eI],[ach]⟩,[tI]),(.exit 0,⟨23,[.any,.any,.any,.box 0 0,.any,.con eI],[ach]⟩,[])]}
def aow (ρ:Type):à ρ:=⟨[],52,0,aDl,fun(p:Val abY) (v:Val tI) b a=>ahY p.1 p.2.1 p.2.2 v (fun c=>b c) (a 0) (a 1)⟩
def aKG:List (Nat×Ü):=[(102,akR)]
def art (ρ:Type):List (à ρ):=[aow ρ]
def aox (ρ:Type):Env ρ:=Ý aKG (art ρ)
def aNT:Ü:=⟨[Å,tI,tI],[.bool],fun(x:Val abE)=>awx x.1 x.2.1 x.2.2⟩
def aGw:É:={pin:=0,cs:=[tI,tI,tI,tI,f6,eI,m5,eW,eI],vs:=[tI],head:=⟨33,[.any,.con tI,.con tI,.box 0 0,.any,.any,.any,.var tI],acG⟩,exits:=[(.ret,⟨33,[.any,.con tI,.con tI,.box 0 0,.any,.any,.var .bool],acG⟩,[.bool]),(.exit 0,⟨33,[.any,.con tI,.con tI,.box 0 0],acG⟩,[])]}
def arl (ρ:Type):à ρ:=⟨[],212,0,aGw,fun(p:Val (.pair tI abD)) (v:Val tI) b a=>ajv p.1 p.2.1 p.2.2.2.2.2.1 v (fun c=>b c) (a 0) (a 1)⟩
def aOz:List (Nat×Ü):=[]
def auD (ρ:Type):List (à ρ):=[arl ρ]
def asL (ρ:Type):Env ρ:=Ý aOz (auD ρ)
def aNW:Ü:=⟨[Å,tI,tI,tI],[tI],fun(x:Val (.pair Å Ĉ))=>alD x.1 x.2.1 x.2.2.1 x.2.2.2⟩
def aGE:É:={pin:=0,cs:=[tI,tI,tI,tI,tI,f6,eI,m5,eW,eI],vs:=[tI,tI],head:=⟨48,.any::.con tI::.any::.con tI::.box 0 0::aN 4 [.con tI,.var tI,.var tI],acG⟩,exits:=[(.exit 0,⟨48,.any::.con tI::.any::.con tI::.box 0 0::aN 4 [.con tI,.var tI],acG⟩,[tI])]}
def arp (ρ:Type):à ρ:=⟨[],170,0,aGE,fun(p:Val (.pair tI (.pair tI abD))) (v:Val Ã) a b=>let A:=p.2.2.2.2;ajx p.1 p.2.1 p.2.2.1 p.2.2.2.1 A.1 A.2.1 A.2.2.1 A.2.2.2.1 A.2.2.2.2.1 A.2.2.2.2.2 v.1 v.2 (fun c d=>a (c,d)) (b 0)⟩
def aOD:List (Nat×Ü):=[(166,an7),(167,aCt),(212,aNT)]
def auK (ρ:Type):List (à ρ):=[arp ρ]
def asO (ρ:Type):Env ρ:=Ý aOD (auK ρ)
def asv:Ü:=⟨[tI,tI],[ļ],fun(x:Val Ã)=>ai0 x.1 x.2⟩
def aGO:List (Nat×Ü):=[(209,aJV),(210,aJW)]
def aoK (ρ:Type):List (à ρ):=[]
def auR (ρ:Type):Env ρ:=Ý aGO (aoK ρ)
def aTu:Ü:=⟨[Ã,Ã],[ļ],fun(x:Val í)=>aMC x.1 x.2⟩
def aRD:List (Nat×Ü):=[(285,asv)]
def azA (ρ:Type):List (à ρ):=[]
def aIM (ρ:Type):Env ρ:=Ý aRD (azA ρ)
def aTs:Ü:=⟨[Ã],[Ã],fun(x:Val Ã)=>aMB x⟩
def aRA:List (Nat×Ü):=[]
def azw (ρ:Type):List (à ρ):=[]
def aIK (ρ:Type):Env ρ:=Ý aRA (azw ρ)
def aTr:Ü:=⟨[Ã,Ã],[ļ],fun(x:Val í)=>aBZ x.1 x.2⟩
def aRz:List (Nat×Ü):=[(268,aTu),(269,aTs)]
def azu (ρ:Type):List (à ρ):=[]
def aIJ (ρ:Type):Env ρ:=Ý aRz (azu ρ)
def aIp:Ü:=⟨[Å,tI],[Ã],fun(x:Val abI)=>alB x.1 x.2⟩
def aKq:List (Nat×Ü):=[(166,an7)]
def arh (ρ:Type):List (à ρ):=[]
def azm (ρ:Type):Env ρ:=Ý aKq (arh ρ)
def aNZ:Ü:=⟨[ļ,ļ],[akL],fun(x:Val (.pair ļ ļ))=>awy x.1 x.2⟩
def aON:List (Nat×Ü):=[]
def auT (ρ:Type):List (à ρ):=[]
def aDF (ρ:Type):Env ρ:=Ý aON (auT ρ)
def aTt:Ü:=⟨[Ã,Ã],[ļ],fun(x:Val í)=>am3 x.1 x.2⟩
def aRB:List (Nat×Ü):=[(285,asv)]
def azx (ρ:Type):List (à ρ):=[]
def aIL (ρ:Type):Env ρ:=Ý aRB (azx ρ)
def aIu:Ü:=⟨[í,Ã],[akL],fun(x:Val (.pair í Ã))=>aqu x.1 x.2⟩
def aKS:List (Nat×Ü):=[(270,aNZ),(271,aTt)]
def arz (ρ:Type):List (à ρ):=[]
def azv (ρ:Type):Env ρ:=Ý aKS (arz ρ)
def aCv:Ü:=⟨[Å,Í],[í],fun(x:Val abC)=>am1 x.1 x.2⟩
def aGJ:List (Nat×Ü):=[(158,aBH),(242,aTr),(243,aIp),(244,aIu)]
def aoy (ρ:Type):List (à ρ):=[]
def auP (ρ:Type):Env ρ:=Ý aGJ (aoy ρ)
def aIr:Ü:=⟨[Å,Í],[Ã],fun(x:Val abC)=>aqs x.1 x.2⟩
def aKK:List (Nat×Ü):=[]
def arv (ρ:Type):List (à ρ):=[]
def azr (ρ:Type):Env ρ:=Ý aKK (arv ρ)
def aWB:Ü:=⟨[tI,tI],[tI],fun(x:Val Ã)=>aSm x.1 x.2⟩
def aUX:List (Nat×Ü):=[]
def aDB (ρ:Type):List (à ρ):=[]
def aOL (ρ:Type):Env ρ:=Ý aUX (aDB ρ)
def aN0:Ü:=⟨[Ã],[tI],fun(x:Val Ã)=>awz x⟩
def aOS:List (Nat×Ü):=[(245,aWB)]
def auV (ρ:Type):List (à ρ):=[]
def aDH (ρ:Type):Env ρ:=Ý aOS (auV ρ)
def aNY:Ü:=⟨[tI,tI],[tI],fun(x:Val Ã)=>aFs x.1 x.2⟩
def aOM:List (Nat×Ü):=[]
def auS (ρ:Type):List (à ρ):=[]
def aDD (ρ:Type):Env ρ:=Ý aOM (auS ρ)
def aIv:Ü:=⟨[Ã],[tI],fun(x:Val Ã)=>aqw x⟩
def aKX:List (Nat×Ü):=[(246,aNY)]
def arA (ρ:Type):List (à ρ):=[]
def azz (ρ:Type):Env ρ:=Ý aKX (arA ρ)
def aNU:Ü:=⟨[Å,Í],[Ã],fun(x:Val abC)=>alC x.1 x.2⟩
def aOB:List (Nat×Ü):=[(205,aCv),(206,aIr),(207,aN0),(208,aIv)]
def auI (ρ:Type):List (à ρ):=[]
def aC3 (ρ:Type):Env ρ:=Ý aOB (auI ρ)
def aJU:Ü:=⟨[Å],[ank],fun(x:Val Å)=>am0 x⟩
def aKv:É:={pin:=0,cs:=[eI,tI,tI,tI,f6,eI,m5,eW,eI,tI,tI,tI,tI,tI,tI,tI,tI],vs:=[tI,wi,eI],head:=⟨182,[.any,.box 0 0,.box 1 0,.box 2 0,.con eI,.con tI,.box 3 0,.var tI],[aca,acC,.cells [.own 4,.own 5],acb,.rowv Ĉ,.rowv Ã]⟩,exits:=[(.exit 2,⟨182,[.any,.box 0 0,.box 1 0,.box 2 0,.con eI,.con tI,.box 3 0],[aca,acC,.cells [.own 4,.own 5],acb,.rowv Ĉ,.rowv Ã]⟩,[wi,eI])]}
def auF (ρ:Type):à ρ:=⟨[],103,2,aKv,fun(p:Val (.pair eI abB)) (v:Val abO) a b=>let A:=p.2.2.2.2;let B:=A.2.2.2.2;aiD p.1 p.2.1 p.2.2.1 p.2.2.2.1 A.1 A.2.1 A.2.2.1 A.2.2.2.1 B.1 B.2.1 B.2.2.1 B.2.2.2.1 B.2.2.2.2.1 B.2.2.2.2.2.1 v.1 v.2.1 v.2.2 (fun c d e=>a (c,d,e)) (b 0)⟩
def aKw:É:={pin:=0,cs:=[eI,tI,tI,f6,eI,m5,eW,eI],vs:=[tI,wi,eI],head:=⟨182,[.any,.box 0 0,.box 1 0,.box 2 0,.con eI,.var tI],adc⟩,exits:=[(.exit 0,⟨182,[.any,.box 0 0,.box 1 0,.box 2 0,.con eI],adc⟩,[wi,eI])]}
def auG (ρ:Type):à ρ:=⟨[],103,0,aKw,fun(p:Val (.pair eI abo)) (v:Val abO) a b=>let A:=p.2.2.2.2;amb p.1 p.2.1 p.2.2.1 p.2.2.2.1 A.1 A.2.1 A.2.2.1 A.2.2.2 v.1 v.2.1 v.2.2 (fun c d e=>a (c,d,e)) (b 0)⟩
def aKu:É:={pin:=0,cs:=[tI,tI,f6,eI,m5,eW,eI],vs:=[tI,wi,eI],head:=⟨182,.any::.box 0 0::.box 1 0::.box 2 0::aN 5 [.var tI],adc⟩,exits:=[(.exit 4,⟨182,[.any,.box 0 0,.box 1 0,.box 2 0],adc⟩,[wi,eI])]}
def auE (ρ:Type):à ρ:=⟨[],103,4,aKu,fun(p:Val abo) (v:Val abO) a b=>let A:=p.2.2.2.2;ama p.1 p.2.1 p.2.2.1 p.2.2.2.1 A.1 A.2.1 A.2.2 v.1 v.2.1 v.2.2 (fun c d e=>a (c,d,e)) (b 0)⟩
def aRs:List (Nat×Ü):=[(52,ap6),(102,akR),(158,aBH),(170,aNW),(171,aNU)]
def azo (ρ:Type):List (à ρ):=[auF ρ,auG ρ,auE ρ]
def ak4 (ρ:Type):Env ρ:=Ý aRs (azo ρ)
def axi:Ü:=⟨[Å],[tI],fun(x:Val Å)=>agH x⟩
def aDt:É:={pin:=0,cs:=[tI,tI,f6,eI,m5,eW,eI],vs:=[tI],head:=⟨170,[.any,.box 0 0,.any,.var tI],acG⟩,exits:=[(.ret,⟨170,[.any,.box 0 0,.var tI],acG⟩,[tI]),(.exit 0,⟨170,[.any,.box 0 0],acG⟩,[])]}
def aoC (ρ:Type):à ρ:=⟨[],41,0,aDt,fun(p:Val abo) (v:Val tI) b a=>ah0 p.2.2.1 v (fun c=>b c) (a 0) (a 1)⟩
def aDr:É:={pin:=0,cs:=[tI,tI,tI,f6,eI,m5,eW,eI],vs:=[tI],head:=⟨170,.any::.box 0 0::aN 4 [.con tI,.any,.var tI],acG⟩,exits:=[(.ret,⟨170,[.any,.box 0 0,.var tI,.any,.any,.any,.con tI],acG⟩,[tI]),(.exit 4,⟨170,.any::.box 0 0::aN 4 [.con tI],acG⟩,[])]}
def aoA (ρ:Type):à ρ:=⟨[],41,4,aDr,fun(p:Val abD) (v:Val tI) b a=>ahZ p.1 p.2.2.2.2.2.2.1 v (fun c=>b c) (a 0) (a 1)⟩
def aDs:É:={pin:=0,cs:=[tI,tI,f6,eI,m5,eW,eI],vs:=[tI],head:=⟨170,.any::.box 0 0::aN 4 [.var tI],acG⟩,exits:=[(.ret,⟨170,[.any,.box 0 0,.var tI],acG⟩,[tI]),(.exit 2,⟨170,[.any,.box 0 0],acG⟩,[])]}
def aoB (ρ:Type):à ρ:=⟨[],41,2,aDs,fun(p:Val abo) (v:Val tI) b a=>let A:=p.2.2.2.2;aeo p.1 p.2.1 p.2.2.1 p.2.2.2.1 A.1 A.2.1 A.2.2 v (fun c=>b c) (a 0) (a 1)⟩
def aDq:É:={pin:=0,cs:=[tI,tI,f6,eI,m5,eW,eI],vs:=[tI],head:=⟨170,.any::.box 0 0::aN 7 [.var tI],acG⟩,exits:=[(.ret,⟨170,[.any,.box 0 0,.var tI],acG⟩,[tI]),(.exit 6,⟨170,[.any,.box 0 0],acG⟩,[])]}
def aoz (ρ:Type):à ρ:=⟨[],41,6,aDq,fun(p:Val abo) (v:Val tI) b a=>let A:=p.2.2.2.2;aen p.1 p.2.1 p.2.2.1 p.2.2.2.1 A.1 A.2.1 A.2.2 v (fun c=>b c) (a 0) (a 1)⟩
def aKM:List (Nat×Ü):=[(94,ag0),(95,aIq),(96,aNR),(97,aIo),(98,aIn),(99,at7),(100,aua),(101,akQ),(102,akR),(103,aJU)]
def arw (ρ:Type):List (à ρ):=[aoC ρ,aoA ρ,aoB ρ,aoz ρ]
def afl (ρ:Type):Env ρ:=Ý aKM (arw ρ)
def aCs:Ü:=⟨[Å],[Ð],fun(x:Val Å)=>aiY x⟩
def aGA:List (Nat×Ü):=[(102,akR),(103,aJU)]
def aop (ρ:Type):List (à ρ):=[]
def auH (ρ:Type):Env ρ:=Ý aGA (aop ρ)
def aNX:Ü:=⟨[Å,Ã],[Å,tI],fun(x:Val abE)=>alE x.1 x.2⟩
def aOE:List (Nat×Ü):=[(41,axi)]
def auL (ρ:Type):List (à ρ):=[]
def aDf (ρ:Type):Env ρ:=Ý aOE (auL ρ)
def aIs:Ü:=⟨[Ð],[abr,.bool],fun(x:Val Ð)=>alF x⟩
def aDz:É:={pin:=1,cs:=[tI,tI,tI,wi,abr],vs:=[tI,l5],head:=⟨33,[.con tI,.any,.any,.dp 1,.con tI,.own 2,.var tI],[aci,.deepc .i64,.rowv tI]⟩,exits:=[(.exit 2,⟨33,[.con tI,.any,.any,.dp 1,.con tI,.own 2],[aci,.deepc .i64,.rowv tI]⟩,[l5])]}
def aoI (ρ:Type):à ρ:=⟨[1,2],115,2,aDz,fun(p:Val (.pair tI (.pair tI (.pair tI (.pair wi abr))))) (v:Val abv) a b=>afR p.1 p.2.1 v.1 v.2 (fun c d=>a (c,d)) (b 0)⟩
def aDA:É:={pin:=1,cs:=[tI,tI,wi],vs:=[tI,abr],head:=⟨33,[.con tI,.any,.any,.dp 1,.var tI],ade⟩,exits:=[(.exit 0,⟨33,[.con tI,.any,.any,.dp 1],ade⟩,[abr])]}
def aoJ (ρ:Type):à ρ:=⟨[1,2],115,0,aDA,fun(p:Val abJ) (v:Val abN) a b=>afS p.1 v.1 v.2 (fun c d=>a (c,d)) (b 0)⟩
def aDy:É:={pin:=0,cs:=[tI,wi],vs:=[tI,abr],head:=⟨124,[.any,.box 0 0,.any,.any,.dp 1,.var tI],ade⟩,exits:=[(.exit 0,⟨124,[.any,.box 0 0,.any,.any,.dp 1],ade⟩,[abr])]}
def aoH (ρ:Type):à ρ:=⟨[],54,0,aDy,fun(p:Val Ð) (v:Val abN) a b=>afQ p.2 v.1 v.2 (fun c d=>a (c,d)) (b 0)⟩
def aDv:É:={pin:=0,cs:=[tI,tI,tI,wi],vs:=[tI,abr],head:=⟨124,[.any,.box 0 0,.any,.any,.dp 1,.any,.any,.con tI,.con tI,.var tI],ade⟩,exits:=[(.exit 6,⟨124,[.any,.box 0 0,.any,.any,.dp 1,.any,.any,.con tI,.con tI],ade⟩,[abr])]}
def aoE (ρ:Type):à ρ:=⟨[],54,6,aDv,fun(p:Val (.pair tI abJ)) (v:Val abN) a b=>afO p.1 p.2.1 p.2.2.1 v.1 v.2 (fun c d=>a (c,d)) (b 0)⟩
def aDw:É:={pin:=0,cs:=[tI,tI,wi],vs:=[tI,abr],head:=⟨124,[.any,.box 0 0,.any,.any,.dp 1,.any,.any,.con tI,.var tI],ade⟩,exits:=[(.exit 4,⟨124,[.any,.box 0 0,.any,.any,.dp 1,.any,.any,.con tI],ade⟩,[abr])]}
def aoF (ρ:Type):à ρ:=⟨[],54,4,aDw,fun(p:Val abJ) (v:Val abN) a b=>afP p.1 p.2.1 v.1 v.2 (fun c d=>a (c,d)) (b 0)⟩
def aDu:É:={pin:=0,cs:=[tI,tI,wi,abr],vs:=[tI],head:=⟨124,[.any,.box 0 0,.any,.any,.dp 1,.any,.any,.con tI,.any,.any,.var tI],[aci,.deepc .i64]⟩,exits:=[(.ret,⟨124,[.any,.box 0 0,.nils,.var .bool,.dp 1,.any,.any,.con tI],[aci,.deepc .i64]⟩,[.bool]),(.exit 8,⟨124,[.any,.box 0 0,.any,.any,.dp 1,.any,.any,.con tI],[aci,.deepc .i64]⟩,[])]}
def aoD (ρ:Type):à ρ:=⟨[],54,8,aDu,fun(p:Val (.pair tI (.pair tI (.pair wi abr)))) (v:Val tI) b a=>adE p.2.1 p.2.2.2 v (fun c=>b c) (a 0) (a 1)⟩
def aDx:É:={pin:=0,cs:=[tI,wi],vs:=[tI,abr],head:=⟨124,[.any,.box 0 0,.any,.any,.dp 1,.any,.any,.var tI],ade⟩,exits:=[(.ret,⟨124,[.any,.box 0 0,.nils,.var .bool,.dp 1],ade⟩,[.bool,abr]),(.exit 2,⟨124,[.any,.box 0 0,.any,.any,.dp 1],ade⟩,[abr])]}
def aoG (ρ:Type):à ρ:=⟨[],54,2,aDx,fun(p:Val Ð) (v:Val abN) b a=>aep p.1 v.1 v.2 (fun c d=>b (c,d)) (a 0) (a 1)⟩
def aKN:List (Nat×Ü):=[]
def arx (ρ:Type):List (à ρ):=[aoI ρ,aoJ ρ,aoH ρ,aoE ρ,aoF ρ,aoD ρ,aoG ρ]
def Τ (ρ:Type):Env ρ:=Ý aKN (arx ρ)
def aNQ:Ü:=⟨[Å,eI],[Ų],fun(x:Val (.pair Å eI))=>alA x.1 x.2⟩
def aGo:É:={pin:=0,cs:=[eI],vs:=[tI,tI,tI,f6,eI,m5,eW,eI,tI,tI,tI,tI],head:=⟨59,[.any,.con eI,.box 0 0,.any,.box 1 0,.any,.var tI],[aco,acE]⟩,exits:=[(.ret,⟨59,[.any,.con eI,.box 0 0,.any,.box 1 0],[aco,acE]⟩,[tI,tI,f6,eI,m5,eW,eI,tI,tI,tI,tI]),(.exit 0,⟨59,[.any,.con eI,.box 0 0,.any,.box 1 0],[aco,acE]⟩,[tI,tI,f6,eI,m5,eW,eI,tI,tI,tI,tI])]}
def ara (ρ:Type):à ρ:=⟨[],15,0,aGo,fun(p:Val eI) (v:Val (.pair tI abx)) b a=>ag8 p v.1 v.2.1 v.2.2.1 v.2.2.2.1 v.2.2.2.2.1 v.2.2.2.2.2.1 v.2.2.2.2.2.2.1 v.2.2.2.2.2.2.2.1 v.2.2.2.2.2.2.2.2.1 v.2.2.2.2.2.2.2.2.2.1 v.2.2.2.2.2.2.2.2.2.2.1 v.2.2.2.2.2.2.2.2.2.2.2 (fun c d e f g h i j k l m n=>b (c,d,e,f,g,h,i,j,k,l,m,n)) (a 0) (a 1)⟩
def aOv:List (Nat×Ü):=[(41,axi),(43,aCs),(52,ap6),(53,aNX),(54,aIs)]
def auw (ρ:Type):List (à ρ):=[ara ρ]
def asG (ρ:Type):Env ρ:=Ý aOv (auw ρ)
def aiA:Ü:=⟨[Ų,tI],[Ã],fun(x:Val (.pair Ų tI))=>å x.1 x.2⟩
def anR:List (Nat×Ü):=[]
def afJ (ρ:Type):List (à ρ):=[]
def ag7 (ρ:Type):Env ρ:=Ý anR (afJ ρ)
def at6:Ü:=⟨[Ų,Ã],[tI],fun(x:Val (.pair Ų Ã))=>Ô x.1 x.2⟩
def aAD:List (Nat×Ü):=[(52,ap6)]
def ak2 (ρ:Type):List (à ρ):=[]
def aok (ρ:Type):Env ρ:=Ý aAD (ak2 ρ)
def ajk:Ü:=⟨[Ų,tI,tI],[Ã],fun(x:Val (.pair Ų Ã))=>Þ x.1 x.2.1 x.2.2⟩
def aoj:List (Nat×Ü):=[]
def agl (ρ:Type):List (à ρ):=[]
def ahG (ρ:Type):Env ρ:=Ý aoj (agl ρ)
def adz:Ü:=⟨[Å,Ã,Ã],[.bool],fun(x:Val ab1)=>aff x.1 x.2.1 x.2.2⟩
def akY:É:={pin:=0,cs:=[eI,tI,tI,f6,eI,m5,eW,eI,tI,wi,abr,tI],vs:=[tI],head:=⟨149,aN 9 (.con eI::aN 4 [.box 0 0,.any,.var tI]),[acF]⟩,exits:=[(.ret,⟨149,aN 6 (.var .bool::aN 2 (.con eI::aN 4 [.box 0 0])),[acF]⟩,[.bool]),(.exit 0,⟨149,aN 9 (.con eI::aN 4 [.box 0 0]),[acF]⟩,[])]}
def afj (ρ:Type):à ρ:=⟨[],3,0,akY,fun(p:Val (.pair eI (.pair tI (.pair tI (.pair f6 (.pair eI (.pair m5 (.pair eW (.pair eI (.pair tI (.pair wi (.pair abr tI)))))))))))) (v:Val tI) b a=>let A:=p.2.2.2.2;let B:=A.2.2.2.2;Ä p.1 p.2.1 p.2.2.1 p.2.2.2.1 A.1 A.2.1 A.2.2.1 A.2.2.2.1 B.1 B.2.1 B.2.2.1 B.2.2.2 v (fun c=>b c) (a 0) (a 1)⟩
def anO:List (Nat×Ü):=[(10,aTp),(11,aCr),(12,an9),(13,aud),(14,asy),(15,aNQ),(16,aiA),(17,at6),(18,ajk)]
def afC (ρ:Type):List (à ρ):=[afj ρ]
def aea (ρ:Type):Env ρ:=Ý anO (afC ρ)
end Go.Proofs.ZzM
end
