/- lemmas -/
import Derived.Test.YtmadligicacpkaaGreatAmF
import Derived.KernelRfl
import Derived.Test.YtmadligicacpkaaGreatMdTA
import Derived.Test.YtmadligicacpkaaGreatProg
set_option linter.all false
set_option linter.unusedSectionVars false
set_option linter.unusedVariables false
set_option linter.unusedSimpArgs false
noncomputable section
set_option maxRecDepth 100000
namespace Go.Proofs.ZzM
open Go Go.Am
def QQ:Nat→Bool
  |116=>true
  |130=>true
  |253=>true
  |254=>true
  |255=>true
  |256=>true
  |257=>true
  |_=>false
def abR:Nat→Bool
  |232=>true
  |_=>false
def zw:Nat→Bool
  |233=>true
  |_=>false
def isInl:Nat→Bool
  |2=>true
  |47=>true
  |79=>true
  |85=>true
  |87=>true
  |113=>true
  |115=>true
  |118=>true
  |119=>true
  |123=>true
  |124=>true
  |125=>true
  |126=>true
  |127=>true
  |128=>true
  |129=>true
  |134=>true
  |153=>true
  |155=>true
  |161=>true
  |172=>true
  |173=>true
  |174=>true
  |175=>true
  |176=>true
  |177=>true
  |178=>true
  |179=>true
  |180=>true
  |181=>true
  |182=>true
  |183=>true
  |184=>true
  |185=>true
  |186=>true
  |191=>true
  |195=>true
  |196=>true
  |201=>true
  |213=>true
  |214=>true
  |215=>true
  |217=>true
  |218=>true
  |220=>true
  |221=>true
  |223=>true
  |224=>true
  |225=>true
  |228=>true
  |229=>true
  |230=>true
  |234=>true
  |236=>true
  |237=>true
  |247=>true
  |249=>true
  |251=>true
  |260=>true
  |261=>true
  |272=>true
  |273=>true
  |274=>true
  |275=>true
  |276=>true
  |277=>true
  |279=>true
  |280=>true
  |286=>true
  |287=>true
  |289=>true
  |290=>true
  |292=>true
  |293=>true
  |296=>true
  |297=>true
  |299=>true
  |301=>true
  |302=>true
  |_=>false
def isFz:Nat→Bool
  |62=>true
  |81=>true
  |108=>true
  |_=>false
def isEat:Nat→Nat→Bool
  |24,4=>true
  |24,5=>true
  |47,67=>true
  |115,30=>true
  |147,8=>true
  |147,11=>true
  |153,25=>true
  |225,0=>true
  |_,_=>false
def Ú {ρ:Type} (pt:List (Nat×Ù)) (tab:List (Ý ρ)):Env ρ :=
  {P:=Tryz.prog,eat:=isEat,clone:=QQ,sort:=abR,compact:=zw,inl:=isInl,fz:=isFz,pure:=aho pt,loops:=oQ tab}
def anf {ρ:Type} (pt:List (Nat×Ù)) (tab:List (Ý ρ)) (us:List alf):Env ρ :=
  {P:=Tryz.prog,eat:=isEat,clone:=QQ,sort:=abR,compact:=zw,inl:=isInl,fz:=isFz,pure:=aho pt,loops:=abJ (Ú pt tab) us}
abbrev bj:jc:=.cells [.con tI,.con tI,.con ac,.con aa,.con af,.con ab,.con aa]
abbrev bm:jc:=.cells [.con tI,.con tI,.con tI,.con tI,.con tI,.con tI,.con tI,.con tI]
abbrev bn:jc:=.cells [.con tI,.con tI,.con tI,.con tI]
abbrev bo:jc:=.cells [.con ae]
abbrev bp:jc:=.cells [.con tI]
abbrev bq:jc:=.cells [.con tI,.con tI,.con ae,.con ae,.con tI,.con tI,.con tI,.con tI]
abbrev br:jc:=.cells [.con tI,.con tI]
abbrev bt:jc:=.cells [.con tI,.con ah]
abbrev bu:jc:=.cells [.own 6]
abbrev bv:jc:=.cells [.con tI,.con tI,.con ac,.con aa,.con af,.con ab,.con aa,.con aa,.con tI,.own 3,.own 4]
abbrev bw:jc:=.cells [.con tI,.con tI,.con ac,.con aa,.con af,.con ab,.con aa,.con aa,.con tI,.own 2,.own 3]
abbrev bz:jc:=.cells [.con tI,.con tI,.nils,.nils,.nils,.nils,.nils]
abbrev bB:jc:=.cells [.con tI,.con tI,.own 9,.own 10,.own 11,.con ab,.own 12]
abbrev bC:jc:=.cells [.var tI,.var tI,.var ac,.var aa,.var af,.var ab,.var aa]
abbrev bD:jc:=.cells [.con tI,.con tI,.nils,.nils,.nils,.nils,.nils,.con tI,.con tI,.con .bool,.con tI,.nils]
abbrev bE:jc:=.cells [.con tI,.con tI,.own 11,.own 12,.own 13,.con ab,.own 14]
abbrev bG:jc:=.cells [.con tI,.con tI,.con ac,.con aa,.con af,.con ab,.con aa,.con tI,.own 6]
abbrev bH:jc:=.cells [.con tI,.con tI,.con tI]
abbrev bI:jc:=.cells [.omp 3]
abbrev bJ:jc:=.cells [.con ac]
abbrev bK:jc:=.cells [.fn 172 []]
abbrev bL:jc:=.cells [.con aa]
abbrev bM:jc:=.cells [.fn 173 [(2,0)]]
abbrev bN:jc:=.cells [.con af]
abbrev bO:jc:=.cells [.fn 174 [(2,0)]]
abbrev bP:jc:=.cells [.var tI,.var tI,.var tI,.var tI]
abbrev bQ:jc:=.cells [.nils,.nils]
abbrev bR:jc:=.cells [.own 3,.own 4]
abbrev bS:jc:=.cells [.var tI,.var tI,.nils,.nils,.nils,.nils,.nils,.var tI,.nils,.nils,.var tI]
abbrev bT:List jc:=[bm,.rowv tI]
abbrev bU:List jc:=[bj,bn]
abbrev bV:List jc:=[bj,bq,.rowc tI]
abbrev bW:List jc:=[bt,.rowc tI,bt,bu,.rowv .bool,.rowc tI,.rowv tI]
abbrev bX:List jc:=[bt,.rowv tI,bt,bu,.rowv .bool,.rowc tI,.rowv tI]
abbrev bY:List jc:=[bt,.rowv tI,bt,bu,.rowv .bool,.rowv tI,.rowv tI]
abbrev bZ:List jc:=[bt,.rowv tI]
abbrev ca:List jc:=[bj,bw,.rowv Ĉ,.rowv Ã]
abbrev cd:List jc:=[bj,br,bz,bj,bz,.dead,bB,bz,.rowv É,.rowc Ð,.rowc Ã,.rowc ō,.rowc Ã]
abbrev ce:List jc:=[bj,br,br,.rowc Ã,bC]
abbrev cf:List jc:=[bj,br,br,br,.rowc Ã,bC]
abbrev cg:List jc:=[.rowc ae,bt,.dead,.dead,.rowv tI]
abbrev ci:List jc:=[bt,bp,bp,bt,.rowv tI]
abbrev cj:List jc:=[bj,.dead,.dead,bD,.rowc Ã,bC]
abbrev cm:List jc:=[bj,.dead,.dead,bD,.rowc Ã,bj,bt,.dead,.rowf Ã 0,bj,bj]
abbrev cn:List jc:=[bj,bq,bz,.dead,.dead,bj,bz,.dead,bE,bz,.rowv É,.rowc Ð,.rowc Ã,.rowc ō,.rowc Ã]
abbrev cp:List jc:=[bj,br,bq,.rowc Ã,bC]
abbrev cq:List jc:=[bj,br,br,bq,.rowc Ã,bC]
abbrev cr:List jc:=[bj,br,br,bq,.rowc Ã,bj,bt,.dead,bm,.rowf ae 0,.rowf ae 0,.rowf ae 0]
abbrev cu:List jc:=[bt,.rowc am,bH,bt,.rowv tI]
abbrev cw:List jc:=[bj,bj,bI,.mapc tI .bool,bq,bq]
abbrev cz:List jc:=[bj,bj,bI,.mapc tI .bool,bq]
abbrev cA:List jc:=[bj,bj,bI,.mapc tI .bool]
abbrev cB:List jc:=[bj,bj,bI,.mapc tI .bool,bJ,bK]
abbrev cD:List jc:=[bj,bj,bI,.mapc tI .bool,bJ,bK,bL,bM]
abbrev cE:List jc:=[bj,bj,bI,.mapc tI .bool,bJ,bK,bL,bM,bL,bM]
abbrev cF:List jc:=[bj,bj,bI,.mapc tI .bool,bJ,bK,bL,bM,bL,bM,bN,bO]
abbrev cG:List jc:=[bj,bj,bI,.mapc tI .bool,bJ,bK,bL,bM,bL,bM,bN,bO,bN,bO]
abbrev cH:List jc:=[bj,.rowv tI]
abbrev cI:List jc:=[bj,.rowc tI,.rowv Ã]
abbrev cJ:List jc:=[bj,bQ,bR,.rowv Ĉ,.rowv Ã]
abbrev cM:List jc:=[bt,.deepv .i64]
def ś:Ù:=⟨[am],[ae],fun(x:Val am)=>ò x⟩
def lf:Ê:={pin:=0,cs:=[am,am,tI],vs:=[tI,tI],head:=⟨36,.con am::aN 2 (.var tI::aN 5 [.con am,.con tI,.var tI]),[]⟩,exits:=[(.exit 0,⟨36,.con am::aN 2 (.var tI::aN 5 [.con am,.con tI]),[]⟩,[tI])]}
def ld (ρ:Type):Ý ρ:=⟨[],81,0,lf,fun(p:Val (tyL lf.cs)) (v:Val Ã) a b=>Ĺ p.2.1 p.2.2 v.1 v.2 (fun c d=>a (c,d)) (b 0)⟩
def uW:Ê:={pin:=0,cs:=[am,tI],vs:=[tI,ae],head:=⟨36,aN 6 (.own 0::aN 18 [.con am,.con tI,.var tI]),[.rowv tI]⟩,exits:=[(.exit 2,⟨36,aN 6 (.own 0::aN 18 [.con am,.con tI]),[.rowv tI]⟩,[ae])]}
def la (ρ:Type):Ý ρ:=⟨[],81,2,uW,fun(p:Val (.pair am tI)) (v:Val ar) a b=>õ p.1 p.2 v.1 v.2 (fun c d=>a (c,d)) (b 0)⟩
def xN:List (Nat×Ù):=[]
def l8 (ρ:Type):List (Ý ρ):=[ld ρ,la ρ]
def gY (ρ:Type):Env ρ:=Ú xN (l8 ρ)
def pI:Ù:=⟨[Å,aa,aa],[Å],fun(x:Val (.pair Å (.pair aa aa)))=>Q7 x.1 x.2.1 x.2.2⟩
noncomputable def aa4:Ê:={pin:=8,cs:=[ae,tI,tI,tI,ac,aa,af,ab,aa,tI,tI,ak,tI,tI],vs:=[tI,ak],head:=⟨34,.any::.any::.any::.box 2 0::aN 21 [.con ae,.con tI,.var tI],[.cells [.con tI,.con tI,.con ac,.con aa,.con af,.con ab,.con aa],.cells [.con tI,.con tI,.nils,.nils,.nils,.nils,.nils],.cells [.omp 5],.cells [.omp 6],.cells [.nilfn,.fn 127 [(2,0),(0,0)],.fn 127 [(2,0),(0,0)],.fn 128 [(3,0),(0,0),(2,0)]],.mapv tI .bool,.mapc tI .bool,.cells [.con tI,.con tI]]⟩,exits:=[(.exit 0,⟨34,.any::.any::.any::.box 2 0::aN 21 [.con ae,.con tI],[.cells [.con tI,.con tI,.con ac,.con aa,.con af,.con ab,.con aa],.cells [.con tI,.con tI,.nils,.nils,.nils,.nils,.nils],.cells [.omp 5],.cells [.omp 6],.cells [.nilfn,.fn 127 [(2,0),(0,0)],.fn 127 [(2,0),(0,0)],.fn 128 [(3,0),(0,0),(2,0)]],.mapv tI .bool,.mapc tI .bool,.cells [.con tI,.con tI]]⟩,[ak])]}
noncomputable def K6 (ρ:Type):Ý ρ:=⟨[7,5],128,0,aa4,fun(p:Val (.pair ae (.pair tI (.pair tI (.pair tI (.pair ac (.pair aa (.pair af (.pair ab (.pair aa (.pair tI (.pair tI (.pair ak Ã))))))))))))) (v:Val (.pair tI ak)) kn kx=>tz p.1 p.2.1 v.1 v.2 (fun u0 u1=>kn (u0,u1)) (kx 0)⟩
noncomputable def aa5:Ê:={pin:=0,cs:=[aa,aa,tI,tI,tI,ac,aa,af,ab,aa,tI,tI],vs:=[tI,ak,ak],head:=⟨130,.any::.any::.con aa::.box 0 0::.any::.any::.box 1 0::.box 2 0::.box 3 0::.any::.box 4 0::aN 19 [.con aa,.con tI,.var tI],[.cells [.con tI,.con tI,.con ac,.con aa,.con af,.con ab,.con aa],.cells [.con tI,.con tI,.nils,.nils,.nils,.nils,.nils],.cells [.omp 5],.cells [.omp 6],.cells [.nilfn,.fn 127 [(2,0),(0,0)],.fn 127 [(2,0),(0,0)],.fn 128 [(3,0),(0,0),(2,0)]],.mapv tI .bool,.mapv tI .bool]⟩,exits:=[(.exit 0,⟨130,.any::.any::.con aa::.box 0 0::.any::.any::.box 1 0::.box 2 0::.box 3 0::.any::.box 4 0::aN 19 [.con aa,.con tI],[.cells [.con tI,.con tI,.con ac,.con aa,.con af,.con ab,.con aa],.cells [.con tI,.con tI,.nils,.nils,.nils,.nils,.nils],.cells [.omp 5],.cells [.omp 6],.cells [.nilfn,.fn 127 [(2,0),(0,0)],.fn 127 [(2,0),(0,0)],.fn 128 [(3,0),(0,0),(2,0)]],.mapv tI .bool,.mapv tI .bool]⟩,[ak,ak])]}
noncomputable def K7 (ρ:Type):Ý ρ:=⟨[],62,0,aa5,fun(p:Val (.pair aa (.pair aa (.pair tI (.pair tI (.pair tI (.pair ac (.pair aa (.pair af (.pair ab aV)))))))))) (v:Val (.pair tI (.pair ak ak))) kn kx=>Ah p.2.1 p.2.2.1 p.2.2.2.2.2.1 p.2.2.2.2.2.2.2.2.1 v.1 v.2.1 v.2.2 (fun u0 u1 u2=>kn (u0,u1,u2)) (kx 0)⟩
noncomputable def aa3:Ê:={pin:=0,cs:=[aa,aa,tI,tI,tI,ac,aa,af,ab,aa,tI,tI,ak],vs:=[tI,ak],head:=⟨130,.any::.any::.con aa::.box 0 0::.any::.any::.box 1 0::.box 2 0::.box 3 0::aN 34 [.con aa,.con tI,.var tI],[.cells [.con tI,.con tI,.con ac,.con aa,.con af,.con ab,.con aa],.cells [.con tI,.con tI,.nils,.nils,.nils,.nils,.nils],.cells [.omp 4],.cells [.omp 5],.mapv tI .bool,.mapc tI .bool]⟩,exits:=[(.exit 2,⟨130,.any::.any::.con aa::.box 0 0::.any::.any::.box 1 0::.box 2 0::.box 3 0::aN 34 [.con aa,.con tI],[.cells [.con tI,.con tI,.con ac,.con aa,.con af,.con ab,.con aa],.cells [.con tI,.con tI,.nils,.nils,.nils,.nils,.nils],.cells [.omp 4],.cells [.omp 5],.mapv tI .bool,.mapc tI .bool]⟩,[ak])]}
noncomputable def K5 (ρ:Type):Ý ρ:=⟨[],62,2,aa3,fun(p:Val (.pair aa (.pair aa (.pair tI (.pair tI (.pair tI (.pair ac (.pair aa (.pair af (.pair ab (.pair aa (.pair tI (.pair tI ak))))))))))))) (v:Val (.pair tI ak)) kn kx=>tx p.2.1 p.2.2.1 v.1 v.2 (fun u0 u1=>kn (u0,u1)) (kx 0)⟩
noncomputable def aa2:Ê:={pin:=0,cs:=[aa,tI,tI,tI,ac,aa,af,ab,aa,tI,tI,ac,aa,af,ab,aa,tI,tI,aa,ak,ak,ac],vs:=[tI,aa],head:=⟨130,.any::.any::.any::.box 0 0::.any::.any::.box 1 0::.box 2 0::.box 3 0::aN 6 (.box 4 0::aN 52 [.con aa,.con tI,.var tI]),[.cells [.con tI,.con tI,.con ac,.con aa,.con af,.con ab,.con aa],.cells [.con tI,.con tI,.con ac,.con aa,.con af,.con ab,.con aa],.cells [.omp 5],.cells [.omp 6],.cells [.con tI,.con tI,.own 7,.own 8,.nils,.nils,.con aa],.mapc tI .bool,.mapc tI .bool,.rowc Ð,.rowv Ã]⟩,exits:=[(.exit 6,⟨130,.any::.any::.any::.box 0 0::.any::.any::.box 1 0::.box 2 0::.box 3 0::aN 6 (.box 4 0::aN 52 [.con aa,.con tI]),[.cells [.con tI,.con tI,.con ac,.con aa,.con af,.con ab,.con aa],.cells [.con tI,.con tI,.con ac,.con aa,.con af,.con ab,.con aa],.cells [.omp 5],.cells [.omp 6],.cells [.con tI,.con tI,.own 7,.own 8,.nils,.nils,.con aa],.mapc tI .bool,.mapc tI .bool,.rowc Ð,.rowv Ã]⟩,[aa])]}
noncomputable def ro (ρ:Type):Ý ρ:=⟨[],62,6,aa2,fun(p:Val (.pair aa (.pair tI (.pair tI (.pair tI (.pair ac (.pair aa (.pair af (.pair ab (.pair aa (.pair tI (.pair tI (.pair ac (.pair aa (.pair af (.pair ab (.pair aa (.pair tI (.pair tI (.pair aa (.pair ak (.pair ak ac)))))))))))))))))))))) (v:Val aF) kn kx=>tv p.1 p.2.1 p.2.2.2.2.2.2.2.2.2.2.2.2.2.2.2.2.2.2.2.1 v.1 v.2 (fun u0 u1=>kn (u0,u1)) (kx 0)⟩
noncomputable def aa1:Ê:={pin:=0,cs:=[af,tI,tI,tI,ac,aa,af,ab,aa,tI,tI,ac,aa,af,ab,aa,tI,tI,aa,ak,ak,ac,aa],vs:=[tI,af],head:=⟨130,.any::.any::.any::.box 0 0::.any::.any::.box 1 0::.box 2 0::.box 3 0::aN 6 (.box 4 0::aN 70 [.con af,.con tI,.var tI]),[.cells [.con tI,.con tI,.con ac,.con aa,.con af,.con ab,.con aa],.cells [.con tI,.con tI,.con ac,.con aa,.con af,.con ab,.con aa],.cells [.omp 5],.cells [.omp 6],.cells [.con tI,.con tI,.own 7,.own 8,.own 9,.nils,.con aa],.mapc tI .bool,.mapc tI .bool,.rowc Ð,.rowc Ã,.rowv ō]⟩,exits:=[(.exit 8,⟨130,.any::.any::.any::.box 0 0::.any::.any::.box 1 0::.box 2 0::.box 3 0::aN 6 (.box 4 0::aN 70 [.con af,.con tI]),[.cells [.con tI,.con tI,.con ac,.con aa,.con af,.con ab,.con aa],.cells [.con tI,.con tI,.con ac,.con aa,.con af,.con ab,.con aa],.cells [.omp 5],.cells [.omp 6],.cells [.con tI,.con tI,.own 7,.own 8,.own 9,.nils,.con aa],.mapc tI .bool,.mapc tI .bool,.rowc Ð,.rowc Ã,.rowv ō]⟩,[af])]}
noncomputable def rn (ρ:Type):Ý ρ:=⟨[],62,8,aa1,fun(p:Val (.pair af (.pair tI (.pair tI (.pair tI (.pair ac (.pair aa (.pair af (.pair ab (.pair aa (.pair tI (.pair tI (.pair ac (.pair aa (.pair af (.pair ab (.pair aa (.pair tI (.pair tI (.pair aa (.pair ak (.pair ak (.pair ac aa))))))))))))))))))))))) (v:Val (.pair tI af)) kn kx=>tr p.1 p.2.1 p.2.2.2.2.2.2.2.2.2.2.2.2.2.2.2.2.2.2.2.1 v.1 v.2 (fun u0 u1=>kn (u0,u1)) (kx 0)⟩
noncomputable def aa0:Ê:={pin:=0,cs:=[ab,tI,tI,tI,ac,aa,af,ab,aa,tI,tI,aa,ak,ac,aa,af],vs:=[tI,ab],head:=⟨130,aN 6 (.box 0 0::.any::.box 1 0::aN 6 (.box 2 0::aN 88 [.con ab,.con tI,.var tI])),[.cells [.con tI,.con tI,.con ac,.con aa,.con af,.con ab,.con aa],.cells [.omp 3],.cells [.con tI,.con tI,.own 4,.own 5,.own 6,.own 7,.con aa],.mapc tI .bool,.rowc Ð,.rowc Ã,.rowc ō,.rowv É]⟩,exits:=[(.exit 10,⟨130,aN 6 (.box 0 0::.any::.box 1 0::aN 6 (.box 2 0::aN 88 [.con ab,.con tI])),[.cells [.con tI,.con tI,.con ac,.con aa,.con af,.con ab,.con aa],.cells [.omp 3],.cells [.con tI,.con tI,.own 4,.own 5,.own 6,.own 7,.con aa],.mapc tI .bool,.rowc Ð,.rowc Ã,.rowc ō,.rowv É]⟩,[ab])]}
noncomputable def rm (ρ:Type):Ý ρ:=⟨[],62,10,aa0,fun(p:Val (.pair ab (.pair tI (.pair tI (.pair tI (.pair ac (.pair aa (.pair af (.pair ab (.pair aa (.pair tI (.pair tI (.pair aa (.pair ak (.pair ac (.pair aa af)))))))))))))))) (v:Val (.pair tI ab)) kn kx=>tq p.1 p.2.1 p.2.2.2.2.2.2.2.2.2.2.2.2.1 v.1 v.2 (fun u0 u1=>kn (u0,u1)) (kx 0)⟩
noncomputable def Ja:List (Nat×Ù):=[(81,ś)]
noncomputable def Dx (ρ:Type):List (Ý ρ):=[K6 ρ,K7 ρ,K5 ρ,ro ρ,rn ρ,rm ρ]
noncomputable def ž (ρ:Type):Env ρ:=Ú Ja (Dx ρ)
noncomputable def tp:Tpl:=⟨130,.any::.any::.any::.box 0 0::.any::.any::.box 1 0::.box 2 0::.box 3 0::aN 6 (.box 4 0::aN 43 [.fn 186 [(5,0),(6,0)]]),[.cells [.var tI,.var tI,.var ac,.var aa,.var af,.var ab,.var aa],.cells [.var tI,.var tI,.var ac,.var aa,.var af,.var ab,.var aa],.cells [.omp 7],.cells [.omp 8],.cells [.con tI,.con tI,.own 9,.nils,.nils,.nils,.con aa],.cells [.var tI,.var tI,.var ac,.var aa,.var af,.var ab,.var aa],.cells [.omp 7],.mapv tI .bool,.mapv tI .bool,.rowv Ð]⟩
noncomputable def PH:Tpl:=⟨130,.any::.any::.any::.box 0 0::.any::.any::.box 1 0::.box 2 0::.box 3 0::aN 6 (.box 4 0::.box 10 0::aN 42 [.fn 186 [(5,0),(6,0)]]),[.cells [.var tI,.var tI,.var ac,.var aa,.var af,.var ab,.var aa],.cells [.var tI,.var tI,.var ac,.var aa,.var af,.var ab,.var aa],.cells [.omp 7],.cells [.omp 8],.cells [.con tI,.con tI,.own 9,.nils,.nils,.nils,.con aa],.cells [.var tI,.var tI,.var ac,.var aa,.var af,.var ab,.var aa],.cells [.omp 7],.mapv tI .bool,.mapv tI .bool,.rowv Ð,.cells [.var tI,.var tI,.var tI,.var tI,.var tI,.var tI,.var tI,.var tI]]⟩
noncomputable def rk (ρ:Type):List (Ý ρ):=[ro ρ,rn ρ,rm ρ]
noncomputable def Ğ (ρ:Type):Env ρ:={Ú Ja (rk ρ) with inl:=fun _=>false}
noncomputable def pV:Tpl:=⟨130,aN 6 [.box 0 0],[.cells [.var tI,.var tI,.var ac,.var aa,.var af,.var ab,.var aa]]⟩
abbrev jz:List Ty:=[tI,tI,ac,aa,af,ab,aa]
noncomputable def kE (y:Val Å):Val ai:=(y.1.1,y.1.2,y.2.1,y.2.2.1,y.2.2.2.1,y.2.2.2.2.1,y.2.2.2.2.2)
noncomputable def Ģ:Code:=(rV Tryz.prog 62).getD .skip
abbrev iW:List Ty:=[tI,tI,aa]
abbrev mC:List Ty:=[tI,tI,ac,aa,af,ab,aa,tI,tI,ac,aa,af,ab,aa,tI,tI,ac,aa,af,ab,aa,ak,ak,ac]
abbrev Ag:List Ty:=[tI,tI,ac,aa,af,ab,aa,tI,tI,ac,aa,af,ab,aa,tI,tI,ac,aa,af,ab,aa,ak,ak,ac,tI,tI,tI,tI,tI,tI,tI,tI]
abbrev ö (v:Val aj):List (Val Ð):=v.2.2.2.2.2.2.2.2.2.2.2.2.2.2.2.2.1
abbrev Ŝ (v:Val aj):List (Int×Bool):=v.2.2.2.2.2.2.2.2.2.2.2.2.2.2.2.2.2.2.2.2.2.1
abbrev vm (v:Val aj):List (Val Ð):=v.2.2.2.2.2.2.2.2.2.2.2.2.2.2.2.2.2.2.2.2.2.2.2
noncomputable def ġ (v:Val aj) (z:List (Val Ð)):Val aj:=(v.1,v.2.1,v.2.2.1,v.2.2.2.1,v.2.2.2.2.1,v.2.2.2.2.2.1,v.2.2.2.2.2.2.1,v.2.2.2.2.2.2.2.1,v.2.2.2.2.2.2.2.2.1,v.2.2.2.2.2.2.2.2.2.1,v.2.2.2.2.2.2.2.2.2.2.1,v.2.2.2.2.2.2.2.2.2.2.2.1,v.2.2.2.2.2.2.2.2.2.2.2.2.1,v.2.2.2.2.2.2.2.2.2.2.2.2.2.1,v.2.2.2.2.2.2.2.2.2.2.2.2.2.2.1,v.2.2.2.2.2.2.2.2.2.2.2.2.2.2.2.1,v.2.2.2.2.2.2.2.2.2.2.2.2.2.2.2.2.1,v.2.2.2.2.2.2.2.2.2.2.2.2.2.2.2.2.2.1,v.2.2.2.2.2.2.2.2.2.2.2.2.2.2.2.2.2.2.1,v.2.2.2.2.2.2.2.2.2.2.2.2.2.2.2.2.2.2.2.1,v.2.2.2.2.2.2.2.2.2.2.2.2.2.2.2.2.2.2.2.2.1,v.2.2.2.2.2.2.2.2.2.2.2.2.2.2.2.2.2.2.2.2.2.1,v.2.2.2.2.2.2.2.2.2.2.2.2.2.2.2.2.2.2.2.2.2.2.1,z)
noncomputable def Dy (v:Val aj) (x:Val Ð):Val (.pair tI (.pair tI (.pair ac (.pair aa (.pair af (.pair ab (.pair aa (.pair tI (.pair tI (.pair ac (.pair aa (.pair af (.pair ab (.pair aa (.pair tI (.pair tI (.pair ac (.pair aa (.pair af (.pair ab (.pair aa (.pair ak (.pair ak (.pair ac kR)))))))))))))))))))))))):=(v.1,v.2.1,v.2.2.1,v.2.2.2.1,v.2.2.2.2.1,v.2.2.2.2.2.1,v.2.2.2.2.2.2.1,v.2.2.2.2.2.2.2.1,v.2.2.2.2.2.2.2.2.1,v.2.2.2.2.2.2.2.2.2.1,v.2.2.2.2.2.2.2.2.2.2.1,v.2.2.2.2.2.2.2.2.2.2.2.1,v.2.2.2.2.2.2.2.2.2.2.2.2.1,v.2.2.2.2.2.2.2.2.2.2.2.2.2.1,v.2.2.2.2.2.2.2.2.2.2.2.2.2.2.1,v.2.2.2.2.2.2.2.2.2.2.2.2.2.2.2.1,v.2.2.2.2.2.2.2.2.2.2.2.2.2.2.2.2.1,v.2.2.2.2.2.2.2.2.2.2.2.2.2.2.2.2.2.1,v.2.2.2.2.2.2.2.2.2.2.2.2.2.2.2.2.2.2.1,v.2.2.2.2.2.2.2.2.2.2.2.2.2.2.2.2.2.2.2.1,v.2.2.2.2.2.2.2.2.2.2.2.2.2.2.2.2.2.2.2.2.1,v.2.2.2.2.2.2.2.2.2.2.2.2.2.2.2.2.2.2.2.2.2.1,v.2.2.2.2.2.2.2.2.2.2.2.2.2.2.2.2.2.2.2.2.2.2.1,v.2.2.2.2.2.2.2.2.2.2.2.2.2.2.2.2.2.2.2.2.2.2.2,x.1,x.2.1,x.2.2.1,x.2.2.2.1.1,x.2.2.2.1.2,x.2.2.2.2.1.1,x.2.2.2.2.1.2,x.2.2.2.2.2)
def s8:Ù:=⟨[Ã,tI,tI],[.bool],fun(x:Val è)=>Τ x.1 x.2.1 x.2.2⟩
def X3:List (Nat×Ù):=[]
def CB (ρ:Type):List (Ý ρ):=[]
def Lu (ρ:Type):Env ρ:=Ú X3 (CB ρ)
def ku:Ù:=⟨[tI,tI,tI],[.bool],fun(x:Val Ĉ)=>ğ x.1 x.2.1 x.2.2⟩
def XR:List (Nat×Ù):=[]
def Cv (ρ:Type):List (Ý ρ):=[]
def Lp (ρ:Type):Env ρ:=Ú XR (Cv ρ)
def EE:Ù:=⟨[tI],[.bool],fun(x:Val tI)=>nV x⟩
def abB:List (Nat×Ù):=[(227,ku)]
def GX (ρ:Type):List (Ý ρ):=[]
def QB (ρ:Type):Env ρ:=Ú abB (GX ρ)
def V6:Ù:=⟨[tI],[(.int .u64)],fun(x:Val tI)=>rR x⟩
def adY:List (Nat×Ù):=[]
def Li (ρ:Type):List (Ý ρ):=[]
def UV (ρ:Type):Env ρ:=Ú adY (Li ρ)
def adp:Ù:=⟨[(.int .u64),(.int .u64)],[(.int .u64)],fun(x:Val bf)=>Q8 x.1 x.2⟩
def abk:Ê:={pin:=0,cs:=[],vs:=[(.int .u64),(.int .u64)],head:=⟨12,[.var (.int .u64),.var (.int .u64)],[]⟩,exits:=[(.exit 0,⟨12,[.var (.int .u64)],[]⟩,[(.int .u64)])]}
def Lj (ρ:Type):Ý ρ:=⟨[],259,0,abk,fun(p:Unit) (v:Val bf) a b=>Ak v.1 v.2 (fun c d=>a (c,d)) (b 0)⟩
def ag8:List (Nat×Ù):=[]
def Qe (ρ:Type):List (Ý ρ):=[Lj ρ]
def Qf (ρ:Type):Env ρ:=Ú ag8 (Qe ρ)
def EA:Ù:=⟨[Ã],[.bool],fun(x:Val Ã)=>uA x⟩
def abn:List (Nat×Ù):=[(258,V6),(259,adp)]
def Gz (ρ:Type):List (Ý ρ):=[]
def Qi (ρ:Type):Env ρ:=Ú abn (Gz ρ)
def Oa:Ù:=⟨[Ð],[.bool],fun(x:Val Ð)=>wm x⟩
def TL:List (Nat×Ù):=[(131,s8),(189,EE),(226,EA),(227,ku)]
def zm (ρ:Type):List (Ý ρ):=[]
def GW (ρ:Type):Env ρ:=Ú TL (zm ρ)
def xF:Ù:=⟨[Å],[tI],fun(x:Val Å)=>Β x⟩
def Bc:Ê:={pin:=0,cs:=[ac,tI,tI,tI,ac,aa,af,ab,aa],vs:=[tI],head:=⟨31,.any::.box 0 0::aN 4 [.con ac,.con tI,.var tI],[bj]⟩,exits:=[(.ret,⟨31,[.any,.box 0 0,.var tI,.any,.any,.any,.con ac,.con tI],[bj]⟩,[tI]),(.exit 0,⟨31,.any::.box 0 0::aN 4 [.con ac,.con tI],[bj]⟩,[])]}
def ov (ρ:Type):Ý ρ:=⟨[],132,0,Bc,fun(p:Val (.pair ac aD)) (v:Val tI) b a=>i9 p.1 p.2.1 p.2.2.2.2.1 v (fun c=>b c) (a 0) (a 1)⟩
def G1:List (Nat×Ù):=[(187,Oa)]
def pY (ρ:Type):List (Ý ρ):=[ov ρ]
def mD (ρ:Type):Env ρ:=Ú G1 (pY ρ)
def C5:Ù:=⟨[Å],[aq],fun(x:Val Å)=>υ x⟩
def MP:Ê:={pin:=0,cs:=[ac,tI],vs:=[tI,aq],head:=⟨20,aN 3 (.omp 0::aN 4 [.con ac,.con tI,.var tI]),[.mapv tI Ð]⟩,exits:=[(.exit 0,⟨20,aN 3 (.omp 0::aN 4 [.con ac,.con tI]),[.mapv tI Ð]⟩,[aq])]}
def xc (ρ:Type):Ý ρ:=⟨[],133,0,MP,fun(p:Val (.pair ac tI)) (v:Val (.pair tI aq)) a b=>mZ p.1 p.2 v.1 v.2 (fun c d=>a (c,d)) (b 0)⟩
def TA:List (Nat×Ù):=[]
def ze (ρ:Type):List (Ý ρ):=[xc ρ]
def vC (ρ:Type):Env ρ:=Ú TA (ze ρ)
def sV:Ù:=⟨[ae,tI],[tI],fun(x:Val aH)=>jB x.1 x.2⟩
def xl:Ê:={pin:=0,cs:=[ae,tI,tI],vs:=[tI],head:=⟨19,.con ae::.con tI::aN 5 [.con tI,.var tI],[]⟩,exits:=[(.ret,⟨19,[.con ae,.con tI,.any,.any,.var tI,.any,.any,.con tI],[]⟩,[tI]),(.exit 0,⟨19,.con ae::.con tI::aN 5 [.con tI],[]⟩,[])]}
def l6 (ρ:Type):Ý ρ:=⟨[],78,0,xl,fun(p:Val (.pair ae Ã)) (v:Val tI) b a=>gX p.1 p.2.1 p.2.2 v (fun c=>b c) (a 0) (a 1)⟩
def A4:List (Nat×Ù):=[]
def nk (ρ:Type):List (Ý ρ):=[l6 ρ]
def kg (ρ:Type):Env ρ:=Ú A4 (nk ρ)
def jG:Ù:=⟨[ae,tI],[.bool],fun(x:Val aH)=>ĩ x.1 x.2⟩
def uV:List (Nat×Ù):=[(78,sV)]
def kB (ρ:Type):List (Ý ρ):=[]
def l7 (ρ:Type):Env ρ:=Ú uV (kB ρ)
def Wb:Ù:=⟨[Å,Ð],[ae],fun(x:Val (.pair Å Ð))=>oW x.1 x.2⟩
def X7:Ê:={pin:=0,cs:=[ab,tI,tI,tI,ac,aa,af,ab,aa,tI,tI,tI,tI,tI,tI,tI,tI],vs:=[tI,ae],head:=⟨59,aN 2 (.box 0 0::.box 1 0::.any::.own 2::aN 8 [.con ab,.con tI,.var tI]),[bj,bm,.rowv tI]⟩,exits:=[(.exit 0,⟨59,aN 2 (.box 0 0::.box 1 0::.any::.own 2::aN 8 [.con ab,.con tI]),[bj,bm,.rowv tI]⟩,[ae])]}
def G0 (ρ:Type):Ý ρ:=⟨[],194,0,X7,fun(p:Val (.pair ab aB)) (v:Val ar) a b=>vN p.1 p.2.1 p.2.2.2.2.2.2.2.2.2.1 v.1 v.2 (fun c d=>a (c,d)) (b 0)⟩
def X6:Ê:={pin:=0,cs:=[aa,tI,tI,tI,tI,tI,tI,tI,tI,tI],vs:=[tI,ae],head:=⟨59,aN 3 (.box 0 0::.any::.own 1::aN 32 [.con aa,.con tI,.var tI]),bT⟩,exits:=[(.exit 2,⟨59,aN 3 (.box 0 0::.any::.own 1::aN 32 [.con aa,.con tI]),bT⟩,[ae])]}
def GZ (ρ:Type):Ý ρ:=⟨[],194,2,X6,fun(p:Val (.pair aa aX)) (v:Val ar) a b=>vM p.1 p.2.1 p.2.2.1 v.1 v.2 (fun c d=>a (c,d)) (b 0)⟩
def aec:List (Nat×Ù):=[(121,jG)]
def Lw (ρ:Type):List (Ý ρ):=[G0 ρ,GZ ρ]
def Ap (ρ:Type):Env ρ:=Ú aec (Lw ρ)
def ED:Ù:=⟨[Å],[aa],fun(x:Val Å)=>qv x⟩
def Cx:Ê:={pin:=0,cs:=[ac,tI,tI,ae,tI,tI,tI,ac,aa,af,ab,aa,tI,tI,tI,tI,tI,tI,tI,tI],vs:=[tI,aa],head:=⟨33,.any::.box 0 0::.any::.own 1::.any::.box 2 0::aN 3 (.con ac::.con tI::.con tI::aN 5 [.con ae,.con tI,.var tI]),[bj,.rowv Ã,bm]⟩,exits:=[(.exit 2,⟨33,.any::.box 0 0::.any::.own 1::.any::.box 2 0::aN 3 (.con ac::.con tI::.con tI::aN 5 [.con ae,.con tI]),[bj,.rowv Ã,bm]⟩,[aa])]}
def Cw (ρ:Type):Ý ρ:=⟨[],135,2,Cx,fun(p:Val (tyL Cx.cs)) (v:Val aF) a b=>rI p.2.2.2.1 p.2.2.2.2.1 p.2.2.2.2.2.2.2.2.2.2.2.2.1 v.1 v.2 (fun c d=>a (c,d)) (b 0)⟩
def TC:Ê:={pin:=0,cs:=[ac,tI,tI,tI,ac,aa,af,ab,aa],vs:=[tI,aa],head:=⟨33,.any::.box 0 0::.any::.own 1::aN 5 [.con ac,.con tI,.var tI],[bj,.rowv Ã]⟩,exits:=[(.exit 0,⟨33,.any::.box 0 0::.any::.own 1::aN 5 [.con ac,.con tI],[bj,.rowv Ã]⟩,[aa])]}
def Cy (ρ:Type):Ý ρ:=⟨[],135,0,TC,fun(p:Val (.pair ac aD)) (v:Val aF) a b=>let A:=p.2.2.2.2;rJ p.1 p.2.1 p.2.2.1 p.2.2.2.1 A.1 A.2.1 A.2.2.1 A.2.2.2.1 A.2.2.2.2 v.1 v.2 (fun c d=>a (c,d)) (b 0)⟩
def abx:List (Nat×Ù):=[(194,Wb)]
def GH (ρ:Type):List (Ý ρ):=[Cw ρ,Cy ρ]
def vF (ρ:Type):Env ρ:=Ú abx (GH ρ)
def mR:Ù:=⟨[aq,tI,tI],[tI],fun(x:Val (.pair aq Ã))=>iY x.1 x.2.1 x.2.2⟩
def Jw:List (Nat×Ù):=[]
def rH (ρ:Type):List (Ý ρ):=[]
def xd (ρ:Type):Env ρ:=Ú Jw (rH ρ)
def adr:Ù:=⟨[tI,tI,(.ptr aq)],[tI],fun(x:Val (.pair tI (.pair tI (.ptr aq))))=>ņ x.1 x.2.1 x.2.2⟩
def TB:List (Nat×Ù):=[(189,EE),(190,mR)]
def zi (ρ:Type):List (Ý ρ):=[]
def GG (ρ:Type):Env ρ:=Ú TB (zi ρ)
def Wc:Ù:=⟨[Å,aq,tI],[tI],fun(x:Val bi)=>Ψ x.1 x.2.1 x.2.2⟩
def rN:Ê:={pin:=2,cs:=[af,tI,tI,tI,ac,aa,af,ab,aa,tI,tI,tI,tI],vs:=[tI],head:=⟨19,.con af::.fn 228 [(1,0)]::aN 5 [.con tI,.var tI],bU⟩,exits:=[(.ret,⟨19,[.con af,.fn 228 [(1,0)],.any,.any,.var tI,.any,.any,.con tI],bU⟩,[tI]),(.exit 0,⟨19,.con af::.fn 228 [(1,0)]::aN 5 [.con tI],bU⟩,[])]}
def rM (ρ:Type):Ý ρ:=⟨[9,5,1,2],251,0,rN,fun(p:Val (tyL rN.cs)) (v:Val tI) b a=>let A:=p.2.2.2.2.2.2.2.2.2;j8 p.1 p.2.1 A.1 A.2.1 A.2.2.1 v (fun c=>b c) (a 0) (a 1)⟩
def rL:Ê:={pin:=2,cs:=[aa,tI,tI,tI,ac,aa,af,ab,aa,tI,tI,tI,tI],vs:=[tI],head:=⟨19,.con aa::.fn 229 [(1,0)]::aN 5 [.con tI,.var tI],bU⟩,exits:=[(.ret,⟨19,[.con aa,.fn 229 [(1,0)],.any,.any,.var tI,.any,.any,.con tI],bU⟩,[tI]),(.exit 0,⟨19,.con aa::.fn 229 [(1,0)]::aN 5 [.con tI],bU⟩,[])]}
def rK (ρ:Type):Ý ρ:=⟨[9,10,1,2],249,0,rL,fun(p:Val (tyL rL.cs)) (v:Val tI) b a=>let A:=p.2.2.2.2.2.2.2.2.2;Ρ p.1 p.2.1 A.1 A.2.1 A.2.2.1 v (fun c=>b c) (a 0) (a 1)⟩
def MU:List (Nat×Ù):=[(131,s8),(190,mR),(227,ku)]
def tV (ρ:Type):List (Ý ρ):=[rM ρ,rK ρ]
def lE (ρ:Type):Env ρ:=Ú MU (tV ρ)
def Ac:Ù:=⟨[ae,ae],[ae],fun(x:Val aY)=>ů x.1 x.2⟩
def XZ:Ê:={pin:=2,cs:=[tI,ae,ae],vs:=[tI],head:=⟨19,.own 1::.fn 237 [(0,0)]::aN 5 [.con tI,.var tI],[bo,.rowc tI]⟩,exits:=[(.ret,⟨19,[.own 1,.fn 237 [(0,0)],.any,.any,.var tI,.any,.any,.con tI],[bo,.rowc tI]⟩,[tI]),(.exit 0,⟨19,.own 1::.fn 237 [(0,0)]::aN 5 [.con tI],[bo,.rowc tI]⟩,[])]}
def GV (ρ:Type):Ý ρ:=⟨[1,3,1,2],155,0,XZ,fun(p:Val (.pair tI aY)) (v:Val tI) b a=>vL p.1 p.2.1 p.2.2 v (fun c=>b c) (a 0) (a 1)⟩
def XY:Ê:={pin:=2,cs:=[ae],vs:=[tI,tI,ae],head:=⟨42,[.own 1,.fn 237 [(0,0)],.any,.any,.any,.var tI,.var tI],[bo,.rowv tI]⟩,exits:=[(.exit 0,⟨42,[.own 1,.fn 237 [(0,0)],.any,.any,.any,.var tI],[bo,.rowv tI]⟩,[tI,ae])]}
def GU (ρ:Type):Ý ρ:=⟨[1,3],236,0,XY,fun(p:Val ae) (v:Val (.pair tI ar)) a b=>kr p v.1 v.2.1 v.2.2 (fun c d e=>a (c,d,e)) (b 0)⟩
def aeb:List (Nat×Ù):=[(121,jG)]
def Lt (ρ:Type):List (Ý ρ):=[GV ρ,GU ρ]
def Ao (ρ:Type):Env ρ:=Ú aeb (Lt ρ)
def Iv:Ù:=⟨[ae],[.bool],fun(x:Val ae)=>mL x⟩
def Qz:Ê:={pin:=0,cs:=[ae,ae,tI],vs:=[tI],head:=⟨32,.con ae::aN 4 [.con ae,.con tI,.var tI],[]⟩,exits:=[(.ret,⟨32,[.con ae,.any,.var .bool,.any,.any,.con ae,.con tI],[]⟩,[.bool]),(.exit 0,⟨32,.con ae::aN 4 [.con ae,.con tI],[]⟩,[])]}
def zk (ρ:Type):Ý ρ:=⟨[],204,0,Qz,fun(p:Val (.pair ae aH)) (v:Val tI) b a=>oP p.1 p.2.1 p.2.2 v (fun c=>b c) (a 0) (a 1)⟩
def X1:List (Nat×Ù):=[(227,ku)]
def CA (ρ:Type):List (Ý ρ):=[zk ρ]
def zl (ρ:Type):Env ρ:=Ú X1 (CA ρ)
def afD:Ù:=⟨[Å,tI,tI],[ō,.bool],fun(x:Val aC)=>AH x.1 x.2.1 x.2.2⟩
def G3:Ê:={pin:=4,cs:=[af,tI,tI,tI,ac,aa,af,ab,aa,tI,tI,tI,tI,tI,tI],vs:=[tI],head:=⟨19,.con af::.fn 260 [(1,0),(2,0)]::aN 5 [.con tI,.var tI],[bj,bp,bp,bn]⟩,exits:=[(.ret,⟨19,[.con af,.fn 260 [(1,0),(2,0)],.any,.any,.var tI,.any,.any,.con tI],[bj,bp,bp,bn]⟩,[tI]),(.exit 0,⟨19,.con af::.fn 260 [(1,0),(2,0)]::aN 5 [.con tI],[bj,bp,bp,bn]⟩,[])]}
def G2 (ρ:Type):Ý ρ:=⟨[1,3],251,0,G3,fun(p:Val (tyL G3.cs)) (v:Val tI) b a=>vP p.1 p.2.1 p.2.2.2.2.2.2.2.2.2.1 p.2.2.2.2.2.2.2.2.2.2.1 v (fun c=>b c) (a 0) (a 1)⟩
def aed:List (Nat×Ù):=[(227,ku)]
def Lx (ρ:Type):List (Ý ρ):=[G2 ρ]
def JE (ρ:Type):Env ρ:=Ú aed (Lx ρ)
def LZ:Ù:=⟨[Å,aq,tI],[tI],fun(x:Val bi)=>ň x.1 x.2.1 x.2.2⟩
def nJ:Ê:={pin:=2,cs:=[ab,tI,tI,tI,ac,aa,af,ab,aa,tI,tI,ae,ae,tI,tI,tI,tI],vs:=[tI],head:=⟨19,.con ab::.fn 230 [(1,0)]::aN 5 [.con tI,.var tI],[bj,bq]⟩,exits:=[(.ret,⟨19,[.con ab,.fn 230 [(1,0)],.any,.any,.var tI,.any,.any,.con tI],[bj,bq]⟩,[tI]),(.exit 0,⟨19,.con ab::.fn 230 [(1,0)]::aN 5 [.con tI],[bj,bq]⟩,[])]}
def nI (ρ:Type):Ý ρ:=⟨[4,5,1,2],213,0,nJ,fun(p:Val (tyL nJ.cs)) (v:Val tI) b a=>iG p.1 p.2.1 p.2.2.2.2.2.2.2.2.2.1 v (fun c=>b c) (a 0) (a 1)⟩
def nE:Ê:={pin:=0,cs:=[aq,ae,tI,tI,tI,ae,tI,tI,tI,ac,aa,af,ab,aa,tI,tI,ae,ae,tI,tI,tI,tI,ae],vs:=[tI],head:=⟨140,.any::.con aq::.any::.box 0 0::aN 3 (.box 1 0::.con ae::.any::.con tI::aN 65 [.own 2,.con tI,.con tI,.any,.any,.any,.con ae,.con tI,.var tI]),bV⟩,exits:=[(.ret,⟨140,.any::.con aq::.any::.box 0 0::aN 2 (.var tI::.box 1 0::.con ae::.any::.con tI::aN 65 [.own 2,.con tI,.con tI,.any,.any,.any,.con ae,.con tI]),bV⟩,[tI]),(.exit 2,⟨140,.any::.con aq::.any::.box 0 0::aN 3 (.box 1 0::.con ae::.any::.con tI::aN 65 [.own 2,.con tI,.con tI,.any,.any,.any,.con ae,.con tI]),bV⟩,[])]}
def nD (ρ:Type):Ý ρ:=⟨[],193,2,nE,fun(p:Val (tyL nE.cs)) (v:Val tI) b a=>let A:=p.2.2.2.2.2;iF p.1 p.2.2.1 A.1 A.2.1 A.2.2.2.2.2.2.2.2.2.2.1 v (fun c=>b c) (a 0) (a 1)⟩
def nH:Ê:={pin:=0,cs:=[aq,ae,tI,tI,tI,ac,aa,af,ab,aa,tI,tI,ae,ae,tI,tI,tI,tI,ae],vs:=[tI],head:=⟨140,.any::.con aq::.any::.box 0 0::aN 3 (.box 1 0::.con ae::aN 67 [.own 2,.con tI,.var tI]),bV⟩,exits:=[(.ret,⟨140,.any::.con aq::.any::.box 0 0::aN 2 (.var tI::.box 1 0::.con ae::aN 67 [.own 2,.con tI]),bV⟩,[tI]),(.exit 0,⟨140,.any::.con aq::.any::.box 0 0::aN 3 (.box 1 0::.con ae::aN 67 [.own 2,.con tI]),bV⟩,[])]}
def nF (ρ:Type):Ý ρ:=⟨[],193,0,nH,fun(p:Val (tyL nH.cs)) (v:Val tI) b a=>œ p.1 p.2.1 p.2.2.1 p.2.2.2.2.2.2.2.2.2.2.2.1 p.2.2.2.2.2.2.2.2.2.2.2.2.2.2.2.2.2.2 v (fun c=>b c) (a 0) (a 1)⟩
def nB:Ê:={pin:=0,cs:=[ae,tI,tI,tI,ac,aa,af,ab,aa,tI,tI,ae,ae,tI,tI,tI,tI],vs:=[tI],head:=⟨140,aN 3 (.box 0 0::aN 3 (.box 1 0::aN 90 [.con ae,.con tI,.var tI])),[bj,bq]⟩,exits:=[(.ret,⟨140,aN 3 (.box 0 0::aN 2 (.var tI::.box 1 0::aN 90 [.con ae,.con tI])),[bj,bq]⟩,[tI]),(.exit 4,⟨140,aN 3 (.box 0 0::aN 3 (.box 1 0::aN 90 [.con ae,.con tI])),[bj,bq]⟩,[])]}
def nA (ρ:Type):Ý ρ:=⟨[],193,4,nB,fun(p:Val (tyL nB.cs)) (v:Val tI) b a=>let A:=p.2.2.2.2;Œ p.1 p.2.1 p.2.2.1 p.2.2.2.1 A.1 A.2.1 A.2.2.1 A.2.2.2.1 A.2.2.2.2.1 A.2.2.2.2.2.2.1 v (fun c=>b c) (a 0) (a 1)⟩
def DS:List (Nat×Ù):=[(81,ś),(131,s8),(189,EE),(190,mR),(199,Ac),(204,Iv),(227,ku),(231,afD)]
def ow (ρ:Type):List (Ý ρ):=[nI ρ,nD ρ,nF ρ,nA ρ]
def ŝ (ρ:Type):Env ρ:=Ú DS (ow ρ)
def ŧ:Ù:=⟨[Å],[tI],fun(x:Val Å)=>ÿ x⟩
def Im:Ù:=⟨[É],[.bool],fun(x:Val É)=>ug x⟩
def Wu:List (Nat×Ù):=[]
def Br (ρ:Type):List (Ý ρ):=[]
def KD (ρ:Type):Env ρ:=Ú Wu (Br ρ)
def aft:Ù:=⟨[Å],[.bool],fun(x:Val Å)=>Nu x⟩
def Ws:Ê:={pin:=0,cs:=[tI,tI,ac,aa,af,ab,aa],vs:=[tI],head:=⟨50,[.any,.box 0 0,.any,.var tI],[bj]⟩,exits:=[(.ret,⟨50,[.any,.box 0 0,.var .bool],[bj]⟩,[.bool]),(.exit 0,⟨50,[.any,.box 0 0],[bj]⟩,[])]}
def ER (ρ:Type):Ý ρ:=⟨[],10,0,Ws,fun(p:Val ai) (v:Val tI) b a=>uT p.2.2.2.2.2.1 v (fun c=>b c) (a 0) (a 1)⟩
def adx:List (Nat×Ù):=[(30,Im)]
def KC (ρ:Type):List (Ý ρ):=[ER ρ]
def IB (ρ:Type):Env ρ:=Ú adx (KC ρ)
def ź:Ù:=⟨[aa,Ã],[tI],fun(x:Val aV)=>þ x.1 x.2⟩
def lV:Ê:={pin:=0,cs:=[aa,tI,tI,tI],vs:=[tI],head:=⟨19,[.con aa,.any,.any,.box 0 0,.any,.any,.any,.con tI,.var tI],[br]⟩,exits:=[(.ret,⟨19,[.con aa,.any,.any,.box 0 0,.var tI,.any,.any,.con tI],[br]⟩,[tI]),(.exit 0,⟨19,[.con aa,.any,.any,.box 0 0,.any,.any,.any,.con tI],[br]⟩,[])]}
def gT (ρ:Type):Ý ρ:=⟨[],136,0,lV,fun(p:Val (.pair aa Ĉ)) (v:Val tI) b a=>Ī p.1 p.2.1 p.2.2.1 p.2.2.2 v (fun c=>b c) (a 0) (a 1)⟩
def nm:List (Nat×Ù):=[]
def g8 (ρ:Type):List (Ý ρ):=[gT ρ]
def š (ρ:Type):Env ρ:=Ú nm (g8 ρ)
def jO:Ù:=⟨[Å,Ã],[tI,tI],fun(x:Val aC)=>ũ x.1 x.2⟩
def abI:List (Nat×Ù):=[(66,ŧ),(135,ED),(136,ź)]
def G9 (ρ:Type):List (Ý ρ):=[]
def QG (ρ:Type):Env ρ:=Ú abI (G9 ρ)
def kf:Ù:=⟨[ax,Ã],[tI],fun(x:Val aQ)=>ς x.1 x.2⟩
def SY:List (Nat×Ù):=[(67,jO)]
def yD (ρ:Type):List (Ý ρ):=[]
def FC (ρ:Type):Env ρ:=Ú SY (yD ρ)
def qK:Ù:=⟨[Í,ak],[ae,.bool],fun(x:Val (.pair Í ak))=>kJ x.1 x.2⟩
def tR:Ê:={pin:=2,cs:=[ak,ah,tI,tI,ah,ae,tI,ah,az,ae],vs:=[tI,tI],head:=⟨140,.any::.con ak::.own 1::.box 2 0::aN 3 (.box 3 0::.own 4::.own 5::.var tI::aN 14 [.con ah,.con tI,.var tI]),[bt,.rowc tI,bt,.cells [.nils],.rowc .bool,.rowc tI]⟩,exits:=[(.exit 0,⟨140,.any::.con ak::.own 1::.box 2 0::aN 3 (.box 3 0::.own 4::.own 5::.var tI::aN 14 [.con ah,.con tI]),[bt,.rowc tI,bt,.cells [.nils],.rowc .bool,.rowc tI]⟩,[tI])]}
def tQ (ρ:Type):Ý ρ:=⟨[2,3],183,0,tR,fun(p:Val (tyL tR.cs)) (v:Val Ã) a b=>hZ p.2.1 p.2.2.1 v.1 v.2 (fun c d=>a (c,d)) (b 0)⟩
def tP:Ê:={pin:=2,cs:=[ak,tI,tI,tI,ah,ae,tI,ah,ae],vs:=[tI,az,ae],head:=⟨140,.any::.con ak::.own 1::.box 2 0::aN 3 (.box 3 0::.own 4::.own 5::.con tI::aN 27 [.con tI,.var tI]),bW⟩,exits:=[(.exit 2,⟨140,.any::.con ak::.own 1::.box 2 0::aN 3 (.box 3 0::.own 4::.own 5::.con tI::aN 27 [.con tI]),bW⟩,[az,ae])]}
def tO (ρ:Type):Ý ρ:=⟨[2,3],183,2,tP,fun(p:Val (tyL tP.cs)) (v:Val (.pair tI aK)) a b=>Ř p.2.2.1 p.2.2.2.2.2.1 v.1 v.2.1 v.2.2 (fun c d e=>a (c,d,e)) (b 0)⟩
def tK:Ê:={pin:=2,cs:=[ak,tI,tI,ah,tI,tI,ah,tI,ah,ae],vs:=[tI,ae,az,ae],head:=⟨140,.any::.con ak::.own 1::.box 2 0::aN 3 (.box 3 0::.own 4::.own 5::.con tI::aN 3 (.con tI::aN 62 [.con ah,.con tI,.var tI])),bX⟩,exits:=[(.ret,⟨140,.any::.con ak::.own 1::.box 2 0::aN 2 (.var .bool::.box 3 0::.own 4::.own 5::.con tI::aN 3 (.con tI::aN 62 [.con ah,.con tI])),bX⟩,[.bool,ae,az,ae]),(.exit 6,⟨140,.any::.con ak::.own 1::.box 2 0::aN 3 (.box 3 0::.own 4::.own 5::.con tI::aN 3 (.con tI::aN 62 [.con ah,.con tI])),bX⟩,[ae,az,ae])]}
def tJ (ρ:Type):Ý ρ:=⟨[2,3],183,6,tK,fun(p:Val (tyL tK.cs)) (v:Val (.pair tI (.pair ae aK))) b a=>jg p.1 p.2.1 p.2.2.1 p.2.2.2.1 p.2.2.2.2.1 v.1 v.2.1 v.2.2.1 v.2.2.2 (fun c d e f=>b (c,d,e,f)) (a 0) (a 1)⟩
def tN:Ê:={pin:=2,cs:=[ak,tI,tI,ah,tI,ah],vs:=[ae,az,ae,ae],head:=⟨140,[.any,.con ak,.own 1,.box 2 0,.any,.any,.any,.box 3 0,.own 4,.own 5,.con tI],bY⟩,exits:=[(.ret,⟨140,[.any,.con ak,.own 1,.box 2 0,.any,.any,.var .bool,.box 3 0,.own 4,.own 5,.con tI],bY⟩,[.bool,ae,az,ae,ae])]}
def tM (ρ:Type):Ý ρ:=⟨[2,3],183,4,tN,fun(p:Val (tyL tN.cs)) (v:Val aL) a b=>į p.1 p.2.1 p.2.2.2.2.1 p.2.2.2.2.2 v.1 v.2.1 v.2.2.1 v.2.2.2 (fun c d e f=>a (c,d,e,f)) (b 0)⟩
def Jm:Ê:={pin:=0,cs:=[tI,tI],vs:=[tI,ae],head:=⟨34,aN 6 (.own 0::.con tI::aN 13 [.con tI,.var tI]),[.rowv tI]⟩,exits:=[(.exit 0,⟨34,aN 6 (.own 0::.con tI::aN 13 [.con tI]),[.rowv tI]⟩,[ae])]}
def tG (ρ:Type):Ý ρ:=⟨[],117,0,Jm,fun(p:Val Ã) (v:Val ar) a b=>jf p.1 p.2 v.1 v.2 (fun c d=>a (c,d)) (b 0)⟩
def PS:List (Nat×Ù):=[]
def wZ (ρ:Type):List (Ý ρ):=[tQ ρ,tO ρ,tJ ρ,tM ρ,tG ρ]
def θ (ρ:Type):Env ρ:=Ú PS (wZ ρ)
def Nf:Ù:=⟨[Í,tI],[.bool],fun(x:Val (.pair Í tI))=>rQ x.1 x.2⟩
def adT:List (Nat×Ù):=[]
def Lb (ρ:Type):List (Ý ρ):=[]
def UN (ρ:Type):Env ρ:=Ú adT (Lb ρ)
def sZ:Ù:=⟨[Í],[tI,tI],fun(x:Val Í)=>nT x⟩
def Tv:Ê:={pin:=0,cs:=[ah,tI,tI,ah],vs:=[tI],head:=⟨57,.any::.box 0 0::aN 17 [.con ah,.con tI,.var tI],[bt]⟩,exits:=[(.ret,⟨57,.any::.box 0 0::.var tI::.var tI::aN 15 [.con ah,.con tI],[bt]⟩,[tI,tI]),(.exit 0,⟨57,.any::.box 0 0::aN 17 [.con ah,.con tI],[bt]⟩,[])]}
def Cn (ρ:Type):Ý ρ:=⟨[],138,0,Tv,fun(p:Val (.pair ah aE)) (v:Val tI) b a=>ru p.1 p.2.1 p.2.2.1 p.2.2.2 v (fun c=>b c) (a 0) (a 1)⟩
def abf:List (Nat×Ù):=[(139,Nf)]
def Gq (ρ:Type):List (Ý ρ):=[Cn ρ]
def DG (ρ:Type):Env ρ:=Ú abf (Gq ρ)
def Z2:Ù:=⟨[Í,ae],[tI],fun(x:Val bg)=>HE x.1 x.2⟩
def Tt:Ê:={pin:=0,cs:=[ae,tI,tI,ah],vs:=[tI],head:=⟨37,aN 2 (.box 0 0::aN 16 [.con ae,.con tI,.var tI]),[bt]⟩,exits:=[(.ret,⟨37,aN 2 (.box 0 0::.any::.var tI::aN 14 [.con ae,.con tI]),[bt]⟩,[tI]),(.exit 0,⟨37,aN 2 (.box 0 0::aN 16 [.con ae,.con tI]),[bt]⟩,[])]}
def Cd (ρ:Type):Ý ρ:=⟨[],112,0,Tt,fun(p:Val (.pair ae aE)) (v:Val tI) b a=>rr p.1 p.2.1 p.2.2.1 p.2.2.2 v (fun c=>b c) (a 0) (a 1)⟩
def abd:List (Nat×Ù):=[(117,qK),(138,sZ),(139,Nf)]
def Gm (ρ:Type):List (Ý ρ):=[Cd ρ]
def DF (ρ:Type):Env ρ:=Ú abd (Gm ρ)
def Uv:Ù:=⟨[Í,ak,tI],[ae],fun(x:Val (.pair Í (.pair ak tI)))=>AF x.1 x.2.1 x.2.2⟩
def zc:Ê:={pin:=0,cs:=[ak,tI,tI,tI,ah],vs:=[tI,ae],head:=⟨29,.any::.con ak::.con tI::.box 0 0::aN 3 (.own 1::aN 5 [.con tI,.var tI]),bZ⟩,exits:=[(.exit 0,⟨29,.any::.con ak::.con tI::.box 0 0::aN 3 (.own 1::aN 5 [.con tI]),bZ⟩,[ae])]}
def zb (ρ:Type):Ý ρ:=⟨[],120,0,zc,fun(p:Val (tyL zc.cs)) (v:Val ar) a b=>oO p.2.2.1 v.1 v.2 (fun c d=>a (c,d)) (b 0)⟩
def za:Ê:={pin:=2,cs:=[ak,ah,tI,tI,ah,ae,tI,ah,az,ae],vs:=[tI,tI],head:=⟨140,.any::.con ak::.own 1::.box 2 0::aN 3 (.box 3 0::.own 4::.own 5::.var tI::aN 14 [.con ah,.con tI,.var tI]),[bt,.rowc tI,bt,.cells [.nils],.rowc .bool,.rowc tI]⟩,exits:=[(.exit 0,⟨140,.any::.con ak::.own 1::.box 2 0::aN 3 (.box 3 0::.own 4::.own 5::.var tI::aN 14 [.con ah,.con tI]),[bt,.rowc tI,bt,.cells [.nils],.rowc .bool,.rowc tI]⟩,[tI])]}
def y0 (ρ:Type):Ý ρ:=⟨[8,3],183,0,za,fun(p:Val (tyL za.cs)) (v:Val Ã) a b=>vA p.2.1 p.2.2.1 v.1 v.2 (fun c d=>a (c,d)) (b 0)⟩
def yZ:Ê:={pin:=2,cs:=[ak,tI,tI,tI,ah,ae,tI,ah,ae],vs:=[tI,az,ae],head:=⟨140,.any::.con ak::.own 1::.box 2 0::aN 3 (.box 3 0::.own 4::.own 5::.con tI::aN 27 [.con tI,.var tI]),bW⟩,exits:=[(.exit 2,⟨140,.any::.con ak::.own 1::.box 2 0::aN 3 (.box 3 0::.own 4::.own 5::.con tI::aN 27 [.con tI]),bW⟩,[az,ae])]}
def yY (ρ:Type):Ý ρ:=⟨[8,3],183,2,yZ,fun(p:Val (tyL yZ.cs)) (v:Val (.pair tI aK)) a b=>vz p.2.2.1 p.2.2.2.2.2.1 v.1 v.2.1 v.2.2 (fun c d e=>a (c,d,e)) (b 0)⟩
def yV:Ê:={pin:=2,cs:=[ak,tI,tI,ah,tI,tI,ah,tI,ah,ae],vs:=[tI,ae,az,ae],head:=⟨140,.any::.con ak::.own 1::.box 2 0::aN 3 (.box 3 0::.own 4::.own 5::.con tI::aN 3 (.con tI::aN 62 [.con ah,.con tI,.var tI])),bX⟩,exits:=[(.ret,⟨140,.any::.con ak::.own 1::.box 2 0::aN 2 (.var .bool::.box 3 0::.own 4::.own 5::.con tI::aN 3 (.con tI::aN 62 [.con ah,.con tI])),bX⟩,[.bool,ae,az,ae]),(.exit 6,⟨140,.any::.con ak::.own 1::.box 2 0::aN 3 (.box 3 0::.own 4::.own 5::.con tI::aN 3 (.con tI::aN 62 [.con ah,.con tI])),bX⟩,[ae,az,ae])]}
def yU (ρ:Type):Ý ρ:=⟨[8,3],183,6,yV,fun(p:Val (tyL yV.cs)) (v:Val (.pair tI (.pair ae aK))) b a=>Gl p.1 p.2.1 p.2.2.1 p.2.2.2.1 p.2.2.2.2.1 v.1 v.2.1 v.2.2.1 v.2.2.2 (fun c d e f=>b (c,d,e,f)) (a 0) (a 1)⟩
def yX:Ê:={pin:=2,cs:=[ak,tI,tI,ah,tI,ah],vs:=[ae,az,ae,ae],head:=⟨140,[.any,.con ak,.own 1,.box 2 0,.any,.any,.any,.box 3 0,.own 4,.own 5,.con tI],bY⟩,exits:=[(.ret,⟨140,[.any,.con ak,.own 1,.box 2 0,.any,.any,.var .bool,.box 3 0,.own 4,.own 5,.con tI],bY⟩,[.bool,ae,az,ae,ae])]}
def yW (ρ:Type):Ý ρ:=⟨[8,3],183,4,yX,fun(p:Val (tyL yX.cs)) (v:Val aL) a b=>vy p.1 p.2.1 p.2.2.2.2.1 p.2.2.2.2.2 v.1 v.2.1 v.2.2.1 v.2.2.2 (fun c d e f=>a (c,d,e,f)) (b 0)⟩
def XD:List (Nat×Ù):=[]
def Cc (ρ:Type):List (Ý ρ):=[zb ρ,y0 ρ,yY ρ,yU ρ,yW ρ]
def jh (ρ:Type):Env ρ:=Ú XD (Cc ρ)
def Ez:Ù:=⟨[Í,tI,tI],[tI,tI],fun(x:Val aW)=>qt x.1 x.2.1 x.2.2⟩
def abh:List (Nat×Ù):=[(112,Z2),(120,Uv)]
def Gu (ρ:Type):List (Ý ρ):=[]
def P9 (ρ:Type):Env ρ:=Ú abh (Gu ρ)
def jN:Ù:=⟨[ax,tI,tI],[tI],fun(x:Val aQ)=>ĉ x.1 x.2.1 x.2.2⟩
def I5:List (Nat×Ù):=[(114,Ez)]
def rh (ρ:Type):List (Ý ρ):=[]
def wO (ρ:Type):Env ρ:=Ú I5 (rh ρ)
def sa:Ù:=⟨[ax,Ã],[tI],fun(x:Val aQ)=>π x.1 x.2⟩
def I4:List (Nat×Ù):=[(50,kf),(51,jN)]
def rg (ρ:Type):List (Ý ρ):=[]
def wN (ρ:Type):Env ρ:=Ú I4 (rg ρ)
def mg:Ù:=⟨[ax,Ã],[tI],fun(x:Val aQ)=>il x.1 x.2⟩
def Ba:List (Nat×Ù):=[(50,kf),(51,jN)]
def ny (ρ:Type):List (Ý ρ):=[]
def pR (ρ:Type):Env ρ:=Ú Ba (ny ρ)
def jt:Ù:=⟨[ax,Ã],[Ã],fun(x:Val aQ)=>ŷ x.1 x.2⟩
def A9:List (Nat×Ù):=[(64,sa),(65,mg)]
def nw (ρ:Type):List (Ý ρ):=[]
def km (ρ:Type):Env ρ:={Ú A9 (nw ρ) with hint:=JS [(12,64),(16,65)]}
def xE:Ù:=⟨[aT,ae,tI],[tI],fun(x:Val (.pair aT aH))=>iy x.1 x.2.1 x.2.2⟩
def Qy:List (Nat×Ù):=[(136,ź)]
def xe (ρ:Type):List (Ý ρ):=[]
def Cz (ρ:Type):Env ρ:=Ú Qy (xe ρ)
def wD:Ù:=⟨[aq,ae],[Ã],fun(x:Val (.pair aq ae))=>iU x.1 x.2⟩
def DL:List (Nat×Ù):=[]
def ou (ρ:Type):List (Ý ρ):=[]
def rG (ρ:Type):Env ρ:=Ú DL (ou ρ)
def s7:Ù:=⟨[aa],[tI],fun(x:Val aa)=>jY x⟩
def Tw:Ê:={pin:=0,cs:=[aa,tI],vs:=[tI],head:=⟨15,aN 5 [.con aa,.con tI,.var tI],[]⟩,exits:=[(.ret,⟨15,[.any,.any,.var tI,.any,.any,.con aa,.con tI],[]⟩,[tI]),(.exit 0,⟨15,aN 5 [.con aa,.con tI],[]⟩,[])]}
def Cu (ρ:Type):Ý ρ:=⟨[],266,0,Tw,fun(p:Val (.pair aa tI)) (v:Val tI) b a=>rD p.1 p.2 v (fun c=>b c) (a 0) (a 1)⟩
def abi:List (Nat×Ù):=[(226,EA)]
def Gv (ρ:Type):List (Ý ρ):=[Cu ρ]
def DH (ρ:Type):Env ρ:=Ú abi (Gv ρ)
def C4:Ù:=⟨[tI,tI],[Ã,tI],fun(x:Val Ã)=>qu x.1 x.2⟩
def Tx:List (Nat×Ù):=[(258,V6),(259,adp)]
def zd (ρ:Type):List (Ý ρ):=[]
def Gw (ρ:Type):Env ρ:=Ú Tx (zd ρ)
def aiB:Ù:=⟨[Ã,Ã],[Ã,tI],fun(x:Val è)=>Yz x.1 x.2⟩
def aha:List (Nat×Ù):=[(266,s7),(294,C4)]
def Qk (ρ:Type):List (Ý ρ):=[]
def abo (ρ:Type):Env ρ:=Ú aha (Qk ρ)
def EC:Ù:=⟨[Ã,Ã],[Ã],fun(x:Val è)=>wj x.1 x.2⟩
def MR:List (Nat×Ù):=[(283,aiB)]
def tT (ρ:Type):List (Ý ρ):=[]
def zh (ρ:Type):Env ρ:=Ú MR (tT ρ)
def adq:Ù:=⟨[Ã,Ã],[tI],fun(x:Val è)=>Q9 x.1 x.2⟩
def ag9:List (Nat×Ù):=[]
def Qh (ρ:Type):List (Ý ρ):=[]
def abm (ρ:Type):Env ρ:=Ú ag9 (Qh ρ)
def Bp:Ù:=⟨[è],[.bool],fun(x:Val è)=>sK x⟩
def Jt:List (Nat×Ù):=[(266,s7),(300,adq)]
def rE (ρ:Type):List (Ý ρ):=[]
def xb (ρ:Type):Env ρ:=Ú Jt (rE ρ)
def aiC:Ù:=⟨[Ã,Ã],[Ã,tI],fun(x:Val è)=>Rb x.1 x.2⟩
def ahb:List (Nat×Ù):=[(266,s7),(294,C4)]
def Qm (ρ:Type):List (Ý ρ):=[]
def abq (ρ:Type):Env ρ:=Ú ahb (Qm ρ)
def Z5:Ù:=⟨[è,Ã],[è,tI],fun(x:Val (.pair è Ã))=>Ra x.1 x.2⟩
def Lm:List (Nat×Ù):=[(226,EA),(295,Bp),(298,aiC),(300,adq)]
def vB (ρ:Type):List (Ý ρ):=[]
def Ll:List alf:=[⟨[3,2],296,0,4⟩]
def abp (ρ:Type):Env ρ:=Ú Lm (vB ρ)
def DJ (ρ:Type):Env ρ:=anf Lm (vB ρ) Ll
def EB:Ù:=⟨[Ã,Ã],[è],fun(x:Val è)=>oV x.1 x.2⟩
def MQ:List (Nat×Ù):=[(284,Z5)]
def tS (ρ:Type):List (Ý ρ):=[]
def zf (ρ:Type):Env ρ:=Ú MQ (tS ρ)
def Iw:Ù:=⟨[Å,É],[è],fun(x:Val aA)=>pu x.1 x.2⟩
def X4:List (Nat×Ù):=[(133,C5),(199,Ac),(263,wD),(264,EC),(265,EB)]
def CC (ρ:Type):List (Ý ρ):=[]
def Lv (ρ:Type):Env ρ:=Ú X4 (CC ρ)
def Ob:Ù:=⟨[Å,É],[Ã],fun(x:Val aA)=>uC x.1 x.2⟩
def abC:List (Nat×Ù):=[]
def GY (ρ:Type):List (Ý ρ):=[]
def QD (ρ:Type):Env ρ:=Ú abC (GY ρ)
def N8:Ù:=⟨[tI,tI],[tI],fun(x:Val Ã)=>uz x.1 x.2⟩
def abl:List (Nat×Ù):=[]
def Gx (ρ:Type):List (Ý ρ):=[]
def Qg (ρ:Type):Env ρ:=Ú abl (Gx ρ)
def V7:Ù:=⟨[Ã],[tI,tI],fun(x:Val Ã)=>HF x⟩
def ad7:List (Nat×Ù):=[(266,s7),(267,N8)]
def Ln (ρ:Type):List (Ý ρ):=[]
def UW (ρ:Type):Env ρ:=Ú ad7 (Ln ρ)
def N9:Ù:=⟨[Ã],[tI,tI],fun(x:Val Ã)=>zG x⟩
def abr:List (Nat×Ù):=[(266,s7),(267,N8)]
def GB (ρ:Type):List (Ý ρ):=[]
def Qn (ρ:Type):Env ρ:=Ú abr (GB ρ)
def V8:Ù:=⟨[Å,É],[Ã],fun(x:Val aA)=>wi x.1 x.2⟩
def ad8:List (Nat×Ù):=[(238,Iw),(239,Ob),(240,V7),(241,N9)]
def Lq (ρ:Type):List (Ý ρ):=[]
def UX (ρ:Type):Env ρ:=Ú ad8 (Lq ρ)
def afC:Ù:=⟨[Å,Ð,tI,tI],[tI],fun(x:Val (.pair Å (.pair Ð Ã)))=>AG x.1 x.2.1 x.2.2.1 x.2.2.2⟩
def GS:Ê:={pin:=0,cs:=[tI,tI,af,tI,tI,tI,ac,aa,af,ab,aa,tI,tI,tI,tI,tI,tI,tI,tI],vs:=[tI,tI],head:=⟨88,aN 2 (.con tI::.con tI::.box 0 0::.box 1 0::aN 3 (.var tI::aN 7 [.con af,.con tI,.var tI])),[bj,bm]⟩,exits:=[(.exit 0,⟨88,aN 2 (.con tI::.con tI::.box 0 0::.box 1 0::aN 3 (.var tI::aN 7 [.con af,.con tI])),[bj,bm]⟩,[tI])]}
def GR (ρ:Type):Ý ρ:=⟨[],235,0,GS,fun(p:Val (tyL GS.cs)) (v:Val Ã) a b=>vK p.1 p.2.1 p.2.2.1 p.2.2.2.1 p.2.2.2.2.2.2.2.2.2.2.2.1 v.1 v.2 (fun c d=>a (c,d)) (b 0)⟩
def GQ:Ê:={pin:=0,cs:=[tI,tI,tI,aa,tI,tI,tI,tI,tI,tI,tI,tI,tI],vs:=[tI,ae],head:=⟨88,aN 2 (.con tI::.con tI::.any::.box 0 0::aN 3 (.con tI::aN 3 (.own 1::aN 39 [.con aa,.con tI,.var tI]))),bT⟩,exits:=[(.exit 2,⟨88,aN 2 (.con tI::.con tI::.any::.box 0 0::aN 3 (.con tI::aN 3 (.own 1::aN 39 [.con aa,.con tI]))),bT⟩,[ae])]}
def GP (ρ:Type):Ý ρ:=⟨[],235,2,GQ,fun(p:Val (tyL GQ.cs)) (v:Val ar) a b=>vJ p.1 p.2.1 p.2.2.2.1 p.2.2.2.2.1 p.2.2.2.2.2.1 v.1 v.2 (fun c d=>a (c,d)) (b 0)⟩
def aea:List (Nat×Ù):=[(227,ku)]
def Ls (ρ:Type):List (Ý ρ):=[GR ρ,GP ρ]
def Al (ρ:Type):Env ρ:=Ú aea (Ls ρ)
def V9:Ù:=⟨[Å],[aT],fun(x:Val Å)=>HH x⟩
def GM:Ê:={pin:=2,cs:=[tI,ae,tI,ac,tI,tI,tI,tI,ac,aa,af,ab,aa,tI,tI,ac,aa,af,ab,aa,aa,tI,tI,tI,tI,tI,tI,tI,tI,tI],vs:=[tI,ah,aa],head:=⟨144,.box 1 0::.any::.con tI::.box 2 0::.con ae::.con tI::.var tI::aN 24 [.con ac,.con tI,.con tI],[bj,bv,bm,.rowv Ĉ,.rowv Ã]⟩,exits:=[(.exit 2,⟨144,.box 1 0::.any::.con tI::.box 2 0::.con ae::.con tI::aN 25 [.con ac,.con tI,.con tI],[bj,bv,bm,.rowv Ĉ,.rowv Ã]⟩,[ah,aa])]}
def GK (ρ:Type):Ý ρ:=⟨[2,1],195,2,GM,fun(p:Val (tyL GM.cs)) (v:Val aM) a b=>let A:=p.2.2.2.2.2.2.2.2.2.2.2.2.2;let B:=A.2.2.2.2;let C:=B.2.2.2.2.2;let D:=C.2.2.2.2;vH p.1 p.2.1 p.2.2.1 A.1 A.2.1 A.2.2.1 A.2.2.2.1 B.1 B.2.1 B.2.2.1 C.1 C.2.1 C.2.2.1 C.2.2.2.1 D.1 D.2.1 D.2.2.1 D.2.2.2 v.1 v.2.1 v.2.2 (fun c d e=>a (c,d,e)) (b 0)⟩
def GO:Ê:={pin:=2,cs:=[ac,tI,tI,tI,ac,aa,af,ab,aa,tI,tI,ac,aa,af,ab,aa,aa,tI],vs:=[tI,ah,aa],head:=⟨144,.box 1 0::aN 30 [.con ac,.con tI,.var tI],ca⟩,exits:=[(.exit 0,⟨144,.box 1 0::aN 30 [.con ac,.con tI],ca⟩,[ah,aa])]}
def GN (ρ:Type):Ý ρ:=⟨[2,1],195,0,GO,fun(p:Val (tyL GO.cs)) (v:Val aM) a b=>let A:=p.2.2.2.2.2.2.2.2.2;let B:=A.2.2.2.2;vI p.1 p.2.1 A.1 A.2.1 A.2.2.1 A.2.2.2.1 B.1 B.2.1 B.2.2.1 B.2.2.2.1 B.2.2.2.2 v.1 v.2.1 v.2.2 (fun c d e=>a (c,d,e)) (b 0)⟩
def GJ:Ê:={pin:=2,cs:=[ab,tI,tI,tI,ac,aa,af,ab,aa,tI,tI,ac,aa,af,ab,aa,aa,tI],vs:=[tI,ah,aa],head:=⟨144,.box 1 0::aN 107 [.con ab,.con tI,.var tI],ca⟩,exits:=[(.exit 4,⟨144,.box 1 0::aN 107 [.con ab,.con tI],ca⟩,[ah,aa])]}
def GI (ρ:Type):Ý ρ:=⟨[2,1],195,4,GJ,fun(p:Val (tyL GJ.cs)) (v:Val aM) a b=>let A:=p.2.2.2.2.2.2.2.2.2;let B:=A.2.2.2.2;vG p.1 p.2.1 A.1 A.2.1 A.2.2.1 A.2.2.2.1 B.1 B.2.1 B.2.2.1 B.2.2.2.1 B.2.2.2.2 v.1 v.2.1 v.2.2 (fun c d e=>a (c,d,e)) (b 0)⟩
def ad9:List (Nat×Ù):=[(135,ED),(194,Wb),(198,xE),(199,Ac),(203,V8),(235,afC)]
def Lr (ρ:Type):List (Ý ρ):=[GK ρ,GN ρ,GI ρ]
def tU (ρ:Type):Env ρ:=Ú ad9 (Lr ρ)
def ŵ:Ù:=⟨[Å],[Í,aa,tI],fun(x:Val Å)=>Į x⟩
def Yb:List (Nat×Ù):=[(66,ŧ),(137,V9)]
def CD (ρ:Type):List (Ý ρ):=[]
def Lz (ρ:Type):Env ρ:=Ú Yb (CD ρ)
def qL:Ù:=⟨[Å,Ã],[Å,tI],fun(x:Val aC)=>j9 x.1 x.2⟩
def G8:Ê:={pin:=6,cs:=[tI,tI,tI,ac,aa,af,ab,aa,tI,tI,tI,tI,tI,tI,ac,aa,af,ab,aa,tI,tI,tI,tI,ab,tI,tI,ac,aa,af,aa],vs:=[tI,ab],head:=⟨50,.any::.box 6 0::.box 7 0::.own 8::aN 21 [.own 8,.con tI,.var tI],cd⟩,exits:=[(.exit 0,⟨50,.any::.box 6 0::.box 7 0::.own 8::aN 21 [.own 8,.con tI],cd⟩,[ab])]}
def G7 (ρ:Type):Ý ρ:=⟨[1,2,4,1],223,0,G8,fun(p:Val (tyL G8.cs)) (v:Val (.pair tI ab)) a b=>vR p.1 v.1 v.2 (fun c d=>a (c,d)) (b 0)⟩
def aeg:List (Nat×Ù):=[(66,ŧ)]
def LB (ρ:Type):List (Ý ρ):=[G7 ρ]
def JH (ρ:Type):Env ρ:=Ú aeg (LB ρ)
def ű:Ù:=⟨[Í],[.bool,tI],fun(x:Val Í)=>ģ x⟩
def Jq:List (Nat×Ù):=[(117,qK),(138,sZ)]
def rt (ρ:Type):List (Ý ρ):=[]
def w8 (ρ:Type):Env ρ:=Ú Jq (rt ρ)
def KB:Ù:=⟨[Å,Ã],[Ã,tI],fun(x:Val aC)=>nS x.1 x.2⟩
def tD:Ê:={pin:=4,cs:=[tI,tI,tI,ac,aa,af,ab,aa,tI,tI,tI,tI,aa],vs:=[tI,tI,tI,ac,aa,af,ab,aa],head:=⟨68,aN 2 (.box 4 0::aN 20 [.own 3,.con tI,.var tI]),ce⟩,exits:=[(.ret,⟨68,aN 2 (.box 4 0::.any::.nilp::.var tI::aN 17 [.own 3,.con tI]),ce⟩,[tI,tI,tI,ac,aa,af,ab,aa]),(.exit 0,⟨68,aN 2 (.box 4 0::aN 20 [.own 3,.con tI]),ce⟩,[tI,tI,ac,aa,af,ab,aa])]}
def tC (ρ:Type):Ý ρ:=⟨[1,3],47,0,tD,fun(p:Val (tyL tD.cs)) (v:Val aD) b a=>Ē p.1 p.2.2.2.2.2.2.2.2.2.2.2.2 v.1 v.2.1 v.2.2.1 v.2.2.2.1 v.2.2.2.2.1 v.2.2.2.2.2.1 v.2.2.2.2.2.2.1 v.2.2.2.2.2.2.2 (fun c d e f g h i j=>b (c,d,e,f,g,h,i,j)) (a 0) (a 1)⟩
def PN:List (Nat×Ù):=[(48,jt),(66,ŧ),(67,jO),(68,ŵ),(110,qL),(111,ű)]
def wR (ρ:Type):List (Ý ρ):=[tC ρ]
def si (ρ:Type):Env ρ:=Ú PN (wR ρ)
def N6:Ù:=⟨[Å,Ã,Ã],[Ã,tI],fun(x:Val (.pair Å è))=>wh x.1 x.2.1 x.2.2⟩
def wY:Ê:={pin:=5,cs:=[tI,tI,tI,ac,aa,af,ab,aa,tI,tI,tI,tI,tI,tI,aa],vs:=[tI,tI,tI,ac,aa,af,ab,aa],head:=⟨68,aN 2 (.box 5 0::aN 20 [.own 4,.con tI,.var tI]),cf⟩,exits:=[(.ret,⟨68,aN 2 (.box 5 0::.any::.nilp::.var tI::aN 17 [.own 4,.con tI]),cf⟩,[tI,tI,tI,ac,aa,af,ab,aa]),(.exit 0,⟨68,aN 2 (.box 5 0::aN 20 [.own 4,.con tI]),cf⟩,[tI,tI,ac,aa,af,ab,aa])]}
def wX (ρ:Type):Ý ρ:=⟨[1,4],47,0,wY,fun(p:Val (tyL wY.cs)) (v:Val aD) b a=>sm p.1 p.2.2.2.2.2.2.2.2.2.2.2.2.2.2 v.1 v.2.1 v.2.2.1 v.2.2.2.1 v.2.2.2.2.1 v.2.2.2.2.2.1 v.2.2.2.2.2.2.1 v.2.2.2.2.2.2.2 (fun c d e f g h i j=>b (c,d,e,f,g,h,i,j)) (a 0) (a 1)⟩
def Tp:List (Nat×Ù):=[(50,kf),(51,jN),(66,ŧ),(67,jO),(68,ŵ),(110,qL),(111,ű)]
def yR (ρ:Type):List (Ý ρ):=[wX ρ]
def vv (ρ:Type):Env ρ:=Ú Tp (yR ρ)
def C0:Ù:=⟨[Ã,Ã],[tI],fun(x:Val è)=>qp x.1 x.2⟩
def SW:List (Nat×Ù):=[]
def yz (ρ:Type):List (Ý ρ):=[]
def Fz (ρ:Type):Env ρ:=Ú SW (yz ρ)
def Z0:Ù:=⟨[Å,Ã,Ã],[tI,tI],fun(x:Val (.pair Å è))=>HB x.1 x.2.1 x.2.2⟩
def Cb:Ê:={pin:=4,cs:=[tI,tI,tI,ac,aa,af,ab,aa,tI,tI,tI,tI,aa],vs:=[tI,tI,tI,ac,aa,af,ab,aa],head:=⟨68,aN 2 (.box 4 0::aN 20 [.own 3,.con tI,.var tI]),ce⟩,exits:=[(.ret,⟨68,aN 2 (.box 4 0::.any::.nilp::.var tI::aN 17 [.own 3,.con tI]),ce⟩,[tI,tI,tI,ac,aa,af,ab,aa]),(.exit 0,⟨68,aN 2 (.box 4 0::aN 20 [.own 3,.con tI]),ce⟩,[tI,tI,ac,aa,af,ab,aa])]}
def Ca (ρ:Type):Ý ρ:=⟨[1,3],47,0,Cb,fun(p:Val (tyL Cb.cs)) (v:Val aD) b a=>yM p.1 p.2.2.2.2.2.2.2.2.2.2.2.2 v.1 v.2.1 v.2.2.1 v.2.2.2.1 v.2.2.2.2.1 v.2.2.2.2.2.1 v.2.2.2.2.2.2.1 v.2.2.2.2.2.2.2 (fun c d e f g h i j=>b (c,d,e,f,g,h,i,j)) (a 0) (a 1)⟩
def aa8:List (Nat×Ù):=[(48,jt),(57,C0),(66,ŧ),(67,jO),(68,ŵ),(110,qL),(111,ű)]
def Ga (ρ:Type):List (Ý ρ):=[Ca ρ]
def DB (ρ:Type):Env ρ:=Ú aa8 (Ga ρ)
def N7:Ù:=⟨[Í,tI,tI],[am],fun(x:Val aW)=>zD x.1 x.2.1 x.2.2⟩
def UU:Ê:={pin:=0,cs:=[tI,tI,tI,tI,ah],vs:=[tI,ae],head:=⟨45,.any::.con tI::.con tI::.box 0 0::aN 3 (.own 1::aN 7 [.con tI,.var tI]),bZ⟩,exits:=[(.exit 0,⟨45,.any::.con tI::.con tI::.box 0 0::aN 3 (.own 1::aN 7 [.con tI]),bZ⟩,[ae])]}
def UT (ρ:Type):Ý ρ:=⟨[],122,0,UU,fun(p:Val (tyL UU.cs)) (v:Val ar) a b=>Aj p.2.2.1 v.1 v.2 (fun c d=>a (c,d)) (b 0)⟩
def UR:Ê:={pin:=4,cs:=[ae,tI,am,tI,ah],vs:=[tI,ae],head:=⟨53,.con ae::.box 1 0::aN 2 (.own 4::aN 7 [.con tI,.var tI]),cg⟩,exits:=[(.exit 0,⟨53,.con ae::.box 1 0::aN 2 (.own 4::aN 7 [.con tI]),cg⟩,[ae])]}
def UQ (ρ:Type):Ý ρ:=⟨[12,8],185,0,UR,fun(p:Val (tyL UR.cs)) (v:Val ar) a b=>XC p.2.1 v.1 v.2 (fun c d=>a (c,d)) (b 0)⟩
def UP:Ê:={pin:=4,cs:=[ae,ah,tI,am,tI,ah],vs:=[tI,ae],head:=⟨53,.con ae::aN 3 (.own 4::aN 16 [.con ah,.con tI,.var tI]),cg⟩,exits:=[(.exit 2,⟨53,.con ae::aN 3 (.own 4::aN 16 [.con ah,.con tI]),cg⟩,[ae])]}
def UO (ρ:Type):Ý ρ:=⟨[12,8],185,2,UP,fun(p:Val (tyL UP.cs)) (v:Val ar) a b=>Gk p.1 p.2.1 p.2.2.1 v.1 v.2 (fun c d=>a (c,d)) (b 0)⟩
def ag7:Ê:={pin:=0,cs:=[tI,tI,ah],vs:=[tI,am],head:=⟨45,aN 9 (.own 0::.fn 185 [(1,0)]::aN 18 [.con tI,.var tI]),[.rowv ae,bt]⟩,exits:=[(.exit 2,⟨45,aN 9 (.own 0::.fn 185 [(1,0)]::aN 18 [.con tI]),[.rowv ae,bt]⟩,[am])]}
def US (ρ:Type):Ý ρ:=⟨[],122,2,ag7,fun(p:Val aE) (v:Val aO) a b=>Nn p.1 p.2.1 p.2.2 v.1 v.2 (fun c d=>a (c,d)) (b 0)⟩
def alW:List (Nat×Ù):=[]
def abc (ρ:Type):List (Ý ρ):=[UT ρ,UQ ρ,UO ρ,US ρ]
def Jo (ρ:Type):Env ρ:=Ú alW (abc ρ)
def Z4:Ù:=⟨[Í,tI,tI],[ae,tI],fun(x:Val aW)=>zF x.1 x.2.1 x.2.2⟩
def Ct:Ê:={pin:=3,cs:=[am,tI,tI,ah,tI,tI],vs:=[tI],head:=⟨19,.con am::.fn 124 [(1,0),(2,0)]::aN 5 [.con tI,.var tI],[bt,bp,bp]⟩,exits:=[(.ret,⟨19,[.con am,.fn 124 [(1,0),(2,0)],.any,.any,.var tI,.any,.any,.con tI],[bt,bp,bp]⟩,[tI]),(.exit 0,⟨19,.con am::.fn 124 [(1,0),(2,0)]::aN 5 [.con tI],[bt,bp,bp]⟩,[])]}
def Cs (ρ:Type):Ý ρ:=⟨[5,2],123,0,Ct,fun(p:Val (tyL Ct.cs)) (v:Val tI) b a=>rC p.1 p.2.1 p.2.2.2.2.1 p.2.2.2.2.2 v (fun c=>b c) (a 0) (a 1)⟩
def Cp:Ê:={pin:=3,cs:=[tI,am,ah,tI,tI,ah,tI,tI,tI,ah],vs:=[tI,tI,tI,ae],head:=⟨73,.any::.var tI::.con tI::.con am::.fn 126 [(2,0)]::.box 3 0::aN 5 (.own 4::.var tI::aN 7 [.con ah,.con tI,.var tI]),ci⟩,exits:=[(.exit 2,⟨73,.any::.var tI::.con tI::.con am::.fn 126 [(2,0)]::.box 3 0::aN 5 (.own 4::.var tI::aN 7 [.con ah,.con tI]),ci⟩,[tI,tI,ae])]}
def Co (ρ:Type):Ý ρ:=⟨[6,5],125,2,Cp,fun(p:Val (tyL Cp.cs)) (v:Val aJ) a b=>Lh p.1 p.2.1 p.2.2.1 p.2.2.2.1 p.2.2.2.2.2.2.2.1 v.1 v.2.1 v.2.2.1 v.2.2.2 (fun c d e f=>a (c,d,e,f)) (b 0)⟩
def Cr:Ê:={pin:=3,cs:=[am,tI,ah,tI,tI,tI,ah],vs:=[tI,tI,tI,ae],head:=⟨73,.any::.var tI::.var tI::.con am::.fn 126 [(2,0)]::.box 3 0::aN 5 [.own 4,.var tI],ci⟩,exits:=[(.exit 0,⟨73,aN 3 (.con am::.fn 126 [(2,0)]::.box 3 0::aN 5 [.own 4]),ci⟩,[ae])]}
def Cq (ρ:Type):Ý ρ:=⟨[6,5],125,0,Cr,fun(p:Val (tyL Cr.cs)) (v:Val aJ) a b=>rB p.1 p.2.2.2.2.1 p.2.2.2.2.2.2 v.1 v.2.1 v.2.2.1 v.2.2.2 (fun c d e f=>a (c,d,e,f)) (b 0)⟩
def abg:List (Nat×Ù):=[(114,Ez),(122,N7)]
def Gt (ρ:Type):List (Ý ρ):=[Cs ρ,Co ρ,Cq ρ]
def pX (ρ:Type):Env ρ:=Ú abg (Gt ρ)
def Ey:Ù:=⟨[ax,aS,(.ptr .bool)],[ae],fun(x:Val (.pair ax (.pair aS (.ptr .bool))))=>lN x.1 x.2.1 x.2.2⟩
def MH:List (Nat×Ù):=[(50,kf),(61,Z4)]
def tF (ρ:Type):List (Ý ρ):=[]
def yQ (ρ:Type):Env ρ:=Ú MH (tF ρ)
def C1:Ù:=⟨[Å,ae],[aa],fun(x:Val (.pair Å ae))=>qq x.1 x.2⟩
def My:Ê:={pin:=0,cs:=[aa,ae,tI],vs:=[tI,aa],head:=⟨32,aN 6 (.con aa::.any::.own 0::aN 8 [.con ae,.con tI,.var tI]),[.rowv Ã]⟩,exits:=[(.exit 0,⟨32,aN 6 (.con aa::.any::.own 0::aN 8 [.con ae,.con tI]),[.rowv Ã]⟩,[aa])]}
def wM (ρ:Type):Ý ρ:=⟨[],63,0,My,fun(p:Val (.pair aa aH)) (v:Val aF) a b=>mW p.1 p.2.1 p.2.2 v.1 v.2 (fun c d=>a (c,d)) (b 0)⟩
def SX:List (Nat×Ù):=[(68,ŵ)]
def yA (ρ:Type):List (Ý ρ):=[wM ρ]
def vf (ρ:Type):Env ρ:=Ú SX (yA ρ)
def N5:Ù:=⟨[Å,Ã,.bool],[χ,tI],fun(x:Val (.pair Å (.pair Ã .bool)))=>wg x.1 x.2.1 x.2.2⟩
def wW:Ê:={pin:=5,cs:=[tI,tI,tI,ac,aa,af,ab,aa,tI,tI,tI,tI,.bool,tI,aa],vs:=[tI,tI,tI,ac,aa,af,ab,aa],head:=⟨68,aN 2 (.box 5 0::aN 20 [.own 4,.con tI,.var tI]),cj⟩,exits:=[(.ret,⟨68,aN 2 (.box 5 0::.any::.nilp::.var tI::aN 17 [.own 4,.con tI]),cj⟩,[tI,tI,tI,ac,aa,af,ab,aa]),(.exit 0,⟨68,aN 2 (.box 5 0::aN 20 [.own 4,.con tI]),cj⟩,[tI,tI,ac,aa,af,ab,aa])]}
def wV (ρ:Type):Ý ρ:=⟨[1,3],47,0,wW,fun(p:Val (tyL wW.cs)) (v:Val aD) b a=>sl p.1 p.2.2.2.2.2.2.2.2.2.2.2.2.2.2 v.1 v.2.1 v.2.2.1 v.2.2.2.1 v.2.2.2.2.1 v.2.2.2.2.2.1 v.2.2.2.2.2.2.1 v.2.2.2.2.2.2.2 (fun c d e f g h i j=>b (c,d,e,f,g,h,i,j)) (a 0) (a 1)⟩
def wU:Ê:={pin:=10,cs:=[tI,tI,tI,ac,aa,af,ab,aa,tI,tI,tI,tI,.bool,tI,aa,tI,tI,ac,aa,af,ab,aa,tI,ah,aa,tI,tI,ac,aa,af,ab,aa,tI,tI,ac,aa,af,ab,aa],vs:=[tI],head:=⟨68,aN 2 (.box 10 0::aN 20 [.nils,.con tI,.var tI]),cm⟩,exits:=[(.exit 0,⟨68,aN 2 (.box 10 0::aN 20 [.nils,.con tI]),cm⟩,[])]}
def wT (ρ:Type):Ý ρ:=⟨[6,1],47,0,wU,fun(p:Val (tyL wU.cs)) (v:Val tI) a b=>sk p.1 v (fun c=>a c) (b 0)⟩
def Tn:List (Nat×Ù):=[(60,Ey),(62,pI),(63,C1),(64,sa),(65,mg),(66,ŧ),(67,jO),(68,ŵ),(110,qL),(111,ű)]
def yP (ρ:Type):List (Ý ρ):=[wV ρ,wT ρ]
def lC (ρ:Type):Env ρ:={Ú Tn (yP ρ) with hint:=JS [(34,60),(56,60)]}
def C3:Ù:=⟨[Í,ae],[tI],fun(x:Val bg)=>qr x.1 x.2⟩
def MJ:Ê:={pin:=1,cs:=[ae,tI,tI,ah],vs:=[tI],head:=⟨19,.con ae::.fn 196 [(0,0)]::aN 5 [.con tI,.var tI],[bt]⟩,exits:=[(.ret,⟨19,[.con ae,.fn 196 [(0,0)],.any,.any,.var tI,.any,.any,.con tI],[bt]⟩,[tI]),(.exit 0,⟨19,.con ae::.fn 196 [(0,0)]::aN 5 [.con tI],[bt]⟩,[])]}
def w7 (ρ:Type):Ý ρ:=⟨[3,2,1,2],155,0,MJ,fun(p:Val (.pair ae aE)) (v:Val tI) b a=>mY p.1 p.2.1 p.2.2.2 v (fun c=>b c) (a 0) (a 1)⟩
def Tr:List (Nat×Ù):=[]
def yT (ρ:Type):List (Ý ρ):=[w7 ρ]
def vx (ρ:Type):Env ρ:=Ú Tr (yT ρ)
def V5:Ù:=⟨[Í,tI,ae],[tI,tI,.bool],fun(x:Val (.pair Í ar))=>HD x.1 x.2.1 x.2.2⟩
def Xz:Ê:={pin:=0,cs:=[ae,tI,tI,ah],vs:=[tI,tI,tI],head:=⟨37,.any::.var tI::.any::.box 0 0::aN 5 [.var tI,.any,.any,.any,.con ae,.con tI,.var tI],[bt]⟩,exits:=[(.ret,⟨37,aN 3 (.box 0 0::aN 2 (.var tI::.var tI::.var .bool::aN 4 [.con ae,.con tI])),[bt]⟩,[tI,tI,.bool]),(.exit 0,⟨37,.any::.var tI::.any::.box 0 0::aN 5 [.var tI,.any,.any,.any,.con ae,.con tI],[bt]⟩,[tI,tI])]}
def Ge (ρ:Type):Ý ρ:=⟨[],141,0,Xz,fun(p:Val (.pair ae aE)) (v:Val Ĉ) b a=>vw p.1 p.2.1 p.2.2.2 v.1 v.2.1 v.2.2 (fun c d e=>b (c,d,e)) (a 0) (a 1)⟩
def adS:List (Nat×Ù):=[]
def La (ρ:Type):List (Ý ρ):=[Ge ρ]
def Jl (ρ:Type):Env ρ:=Ú adS (La ρ)
def Bo:Ù:=⟨[Í,tI,tI,ae],[tI,tI],fun(x:Val (.pair Í (.pair tI ar)))=>jX x.1 x.2.1 x.2.2.1 x.2.2.2⟩
def Js:List (Nat×Ù):=[(138,sZ),(139,Nf),(140,C3),(141,V5)]
def rA (ρ:Type):List (Ý ρ):=[]
def xa (ρ:Type):Env ρ:=Ú Js (rA ρ)
def uP:Ù:=⟨[χ],[tI],fun(x:Val χ)=>lM x⟩
def MG:List (Nat×Ù):=[(66,ŧ),(67,jO),(68,ŵ),(69,Bo)]
def tE (ρ:Type):List (Ý ρ):=[]
def yO (ρ:Type):Env ρ:=Ú MG (tE ρ)
def Wd:Ù:=⟨[Å,É],[Å,tI],fun(x:Val aA)=>oX x.1 x.2⟩
def G5:Ê:={pin:=8,cs:=[tI,tI,tI,ac,aa,af,ab,aa,tI,tI,ae,ae,tI,tI,tI,tI,tI,tI,tI,tI,ac,aa,af,ab,aa,tI,tI,tI,tI,ab,tI,tI,ac,aa,af,aa],vs:=[tI,ab],head:=⟨50,.any::.box 8 0::.box 9 0::.own 10::aN 21 [.own 10,.con tI,.var tI],cn⟩,exits:=[(.exit 0,⟨50,.any::.box 8 0::.box 9 0::.own 10::aN 21 [.own 10,.con tI],cn⟩,[ab])]}
def G4 (ρ:Type):Ý ρ:=⟨[2,2,4,1],223,0,G5,fun(p:Val (tyL G5.cs)) (v:Val (.pair tI ab)) a b=>vQ p.1 v.1 v.2 (fun c d=>a (c,d)) (b 0)⟩
def aee:List (Nat×Ù):=[(66,ŧ)]
def Ly (ρ:Type):List (Ý ρ):=[G4 ρ]
def JF (ρ:Type):Env ρ:=Ú aee (Ly ρ)
def Z7:Ù:=⟨[Å,É,Ã],[Ã,tI],fun(x:Val (.pair Å (.pair É Ã)))=>uB x.1 x.2.1 x.2.2⟩
def abv:List (Nat×Ù):=[(238,Iw),(239,Ob),(240,V7),(241,N9)]
def GD (ρ:Type):List (Ý ρ):=[]
def Qr (ρ:Type):Env ρ:=Ú abv (GD ρ)
def Oc:Ù:=⟨[Å,É],[Ã,tI],fun(x:Val aA)=>wn x.1 x.2⟩
def TT:List (Nat×Ù):=[(114,Ez),(137,V9),(147,Wd),(198,xE),(199,Ac),(200,Z7)]
def zo (ρ:Type):List (Ý ρ):=[]
def G6 (ρ:Type):Env ρ:=Ú TT (zo ρ)
def Z6:Ù:=⟨[Å,tI],[É,tI],fun(x:Val aG)=>HG x.1 x.2⟩
def abu:List (Nat×Ù):=[(66,ŧ)]
def GC (ρ:Type):List (Ý ρ):=[]
def Qp (ρ:Type):Env ρ:=Ú abu (GC ρ)
def afE:Ù:=⟨[Å,tI],[Ã,tI],fun(x:Val aG)=>Nz x.1 x.2⟩
def aef:List (Nat×Ù):=[(202,Z6),(203,V8)]
def LA (ρ:Type):List (Ý ρ):=[]
def UY (ρ:Type):Env ρ:=Ú aef (LA ρ)
def Ix:Ù:=⟨[ae,ae],[ae,ae,tI],fun(x:Val aY)=>uD x.1 x.2⟩
def Yf:List (Nat×Ù):=[(199,Ac),(204,Iv)]
def CE (ρ:Type):List (Ý ρ):=[]
def LC (ρ:Type):Env ρ:=Ú Yf (CE ρ)
def KA:Ù:=⟨[ae,ax,(.ptr É)],[tI],fun(x:Val (.pair ae (.pair ax (.ptr É))))=>nR x.1 x.2.1 x.2.2⟩
def PD:List (Nat×Ù):=[(50,kf)]
def wQ (ρ:Type):List (Ý ρ):=[]
def B4 (ρ:Type):Env ρ:=Ú PD (wQ ρ)
def Kz:Ù:=⟨[tI,tI,ax,(.ptr tI),aS,(.ptr tI)],[Ĉ],fun(x:Val (.pair tI (.pair tI (.pair ax (.pair (.ptr tI) (.pair aS (.ptr tI)))))))=>nQ x.1 x.2.1 x.2.2.1 x.2.2.2.1 x.2.2.2.2.1 x.2.2.2.2.2⟩
def PC:List (Nat×Ù):=[(51,jN)]
def wP (ρ:Type):List (Ý ρ):=[]
def B3 (ρ:Type):Env ρ:=Ú PC (wP ρ)
def Iu:Ù:=⟨[ax,Ã,É],[Ź,tI],fun(x:Val (.pair ax aI))=>ut x.1 x.2.1 x.2.2⟩
def yF:Ê:={pin:=0,cs:=[tI,ae,ae,aa,ah,tI,tI,tI,tI,tI,ae,ae,tI,tI,tI,tI,tI,tI,tI,tI,tI,tI,tI,tI,tI,tI,tI,tI,tI,tI,ac,aa,af,ab,aa,tI],vs:=[tI,ah],head:=⟨127,aN 4 (.box 0 0::.box 1 0::.box 2 0::.any::.box 3 0::aN 2 (.con tI::.box 4 0::.any::.con ae::.con ae::aN 2 (.con aa::.any::.box 5 0::aN 65 [.con ah,.con tI,.var tI]))),[br,bq,bm,br,br,bG,.rowv Ĉ]⟩,exits:=[(.exit 0,⟨127,aN 4 (.box 0 0::.box 1 0::.box 2 0::.any::.box 3 0::aN 2 (.con tI::.box 4 0::.any::.con ae::.con ae::aN 2 (.con aa::.any::.box 5 0::aN 65 [.con ah,.con tI]))),[br,bq,bm,br,br,bG,.rowv Ĉ]⟩,[ah])]}
def yE (ρ:Type):Ý ρ:=⟨[],76,0,yF,fun(p:Val (tyL yF.cs)) (v:Val Í) a b=>lz p.1 p.2.2.2.1 p.2.2.2.2.1 p.2.2.2.2.2.1 v.1 v.2 (fun c d=>a (c,d)) (b 0)⟩
def Xl:List (Nat×Ù):=[(50,kf),(68,ŵ),(146,Oc),(147,Wd),(148,afE),(149,Ix),(150,KA),(151,Kz)]
def B0 (ρ:Type):List (Ý ρ):=[yE ρ]
def rj (ρ:Type):Env ρ:={Ú Xl (B0 ρ) with hint:=JS [(110,150),(113,150),(120,151),(123,151)]}
def uO:Ù:=⟨[Ĉ],[ae],fun(x:Val Ĉ)=>iK x⟩
def MC:List (Nat×Ù):=[]
def tk (ρ:Type):List (Ý ρ):=[]
def yI (ρ:Type):Env ρ:=Ú MC (tk ρ)
def Ut:Ù:=⟨[Ĉ,tI],[tI],fun(x:Val (.pair Ĉ tI))=>uw x.1 x.2⟩
def Xn:List (Nat×Ù):=[]
def B5 (ρ:Type):List (Ý ρ):=[]
def K3 (ρ:Type):Env ρ:=Ú Xn (B5 ρ)
def rY:Ù:=⟨[Ź,tI],[Ã],fun(x:Val (.pair Ź tI))=>Ŕ x.1 x.2⟩
def I1:List (Nat×Ù):=[(154,Ut)]
def re (ρ:Type):List (Ý ρ):=[]
def wL (ρ:Type):Env ρ:=Ú I1 (re ρ)
def rZ:Ù:=⟨[Ź,ae],[ae],fun(x:Val (.pair Ź ae))=>jW x.1 x.2⟩
def pP:Ê:={pin:=0,cs:=[tI,ae,tI,tI,tI,tI,tI,tI,tI,tI,tI,tI],vs:=[tI,ae],head:=⟨48,aN 2 (.box 0 0::aN 2 (.own 1::.any::.con tI::.var tI::aN 7 [.con ae,.con tI,.con tI])),bT⟩,exits:=[(.exit 2,⟨48,aN 2 (.box 0 0::aN 2 (.own 1::.any::.con tI::aN 8 [.con ae,.con tI,.con tI])),bT⟩,[ae])]}
def pO (ρ:Type):Ý ρ:=⟨[],88,2,pP,fun(p:Val (tyL pP.cs)) (v:Val ar) a b=>hO p.1 p.2.2.2.2.1 p.2.2.2.2.2.1 v.1 v.2 (fun c d=>a (c,d)) (b 0)⟩
def Ds:Ê:={pin:=0,cs:=[ae,tI,tI,tI,tI,tI,tI,tI,tI,tI],vs:=[tI,ae],head:=⟨48,aN 2 (.box 0 0::aN 2 (.own 1::aN 10 [.con ae,.con tI,.var tI])),bT⟩,exits:=[(.exit 0,⟨48,aN 2 (.box 0 0::aN 2 (.own 1::aN 10 [.con ae,.con tI])),bT⟩,[ae])]}
def pQ (ρ:Type):Ý ρ:=⟨[],88,0,Ds,fun(p:Val (.pair ae aX)) (v:Val ar) a b=>jy p.1 p.2.1 p.2.2.1 p.2.2.2.1 v.1 v.2 (fun c d=>a (c,d)) (b 0)⟩
def I2:List (Nat×Ù):=[]
def rf (ρ:Type):List (Ý ρ):=[pO ρ,pQ ρ]
def j7 (ρ:Type):Env ρ:=Ú I2 (rf ρ)
def xD:Ù:=⟨[Ź],[tI],fun(x:Val Ź)=>lK x⟩
def A6:Ê:={pin:=0,cs:=[ae,tI,tI,tI,tI,tI,tI,tI,tI,tI],vs:=[tI,tI],head:=⟨34,.any::.box 0 0::.any::.var tI::aN 12 [.con ae,.con tI,.var tI],[bm]⟩,exits:=[(.exit 0,⟨34,.any::.box 0 0::.any::.var tI::aN 12 [.con ae,.con tI],[bm]⟩,[tI])]}
def ot (ρ:Type):Ý ρ:=⟨[],77,0,A6,fun(p:Val (.pair ae aX)) (v:Val Ã) a b=>let A:=p.2.2.2.2;i8 p.1 p.2.1 p.2.2.1 p.2.2.2.1 A.1 A.2.1 A.2.2.1 A.2.2.2.1 A.2.2.2.2.1 A.2.2.2.2.2 v.1 v.2 (fun c d=>a (c,d)) (b 0)⟩
def Fw:List (Nat×Ù):=[(81,ś),(82,uO),(86,rY),(88,rZ)]
def pM (ρ:Type):List (Ý ρ):=[ot ρ]
def mu (ρ:Type):Env ρ:=Ú Fw (pM ρ)
def ZZ:Ù:=⟨[Å,Ã,É],[tI,tI],fun(x:Val (.pair Å aI))=>zC x.1 x.2.1 x.2.2⟩
def B7:Ê:={pin:=4,cs:=[tI,tI,tI,ac,aa,af,ab,aa,tI,tI,tI,tI,ae,ae,tI,tI,tI,tI,aa],vs:=[tI,tI,tI,ac,aa,af,ab,aa],head:=⟨68,aN 2 (.box 4 0::aN 20 [.own 3,.con tI,.var tI]),cp⟩,exits:=[(.ret,⟨68,aN 2 (.box 4 0::.any::.nilp::.var tI::aN 17 [.own 3,.con tI]),cp⟩,[tI,tI,tI,ac,aa,af,ab,aa]),(.exit 0,⟨68,aN 2 (.box 4 0::aN 20 [.own 3,.con tI]),cp⟩,[tI,tI,ac,aa,af,ab,aa])]}
def B6 (ρ:Type):Ý ρ:=⟨[1,3],47,0,B7,fun(p:Val (tyL B7.cs)) (v:Val aD) b a=>yK p.1 p.2.2.2.2.2.2.2.2.2.2.2.2.2.2.2.2.2.2 v.1 v.2.1 v.2.2.1 v.2.2.2.1 v.2.2.2.2.1 v.2.2.2.2.2.1 v.2.2.2.2.2.2.1 v.2.2.2.2.2.2.2 (fun c d e f g h i j=>b (c,d,e,f,g,h,i,j)) (a 0) (a 1)⟩
def aa6:List (Nat×Ù):=[(66,ŧ),(67,jO),(68,ŵ),(76,Iu),(77,xD),(110,qL),(111,ű)]
def F1 (ρ:Type):List (Ý ρ):=[B6 ρ]
def Dz (ρ:Type):Env ρ:=Ú aa6 (F1 ρ)
def Ex:Ù:=⟨[tI],[tI],fun(x:Val tI)=>lL x⟩
def ME:List (Nat×Ù):=[]
def tB (ρ:Type):List (Ý ρ):=[]
def yL (ρ:Type):Env ρ:=Ú ME (tB ρ)
def Ew:Ù:=⟨[Ĉ,tI],[ae],fun(x:Val (.pair Ĉ tI))=>iL x.1 x.2⟩
def MD:List (Nat×Ù):=[]
def tm (ρ:Type):List (Ý ρ):=[]
def yJ (ρ:Type):Env ρ:=Ú MD (tm ρ)
def C2:Ù:=⟨[Å,Ã,Ã,É],[.bool,tI],fun(x:Val bc)=>mK x.1 x.2.1 x.2.2.1 x.2.2.2⟩
def Ο:Ê:={pin:=5,cs:=[tI,tI,tI,ac,aa,af,ab,aa,tI,tI,tI,tI,tI,tI,ae,ae,tI,tI,tI,tI,aa],vs:=[tI,tI,tI,ac,aa,af,ab,aa],head:=⟨68,aN 2 (.box 5 0::aN 20 [.own 4,.con tI,.var tI]),cq⟩,exits:=[(.ret,⟨68,aN 2 (.box 5 0::.any::.nilp::.var tI::aN 17 [.own 4,.con tI]),cq⟩,[tI,tI,tI,ac,aa,af,ab,aa]),(.exit 0,⟨68,aN 2 (.box 5 0::aN 20 [.own 4,.con tI]),cq⟩,[tI,tI,ac,aa,af,ab,aa])]}
def oh (ρ:Type):Ý ρ:=⟨[1,3],47,0,Ο,fun(p:Val au) (v:Val aD) b a=>sh p.1 p.2.2.2.2.2.2.2.2.2.2.2.2.2.2.2.2.2.2.2.2 v.1 v.2.1 v.2.2.1 v.2.2.2.1 v.2.2.2.2.1 v.2.2.2.2.2.1 v.2.2.2.2.2.2.1 v.2.2.2.2.2.2.2 (fun c d e f g h i j=>b (c,d,e,f,g,h,i,j)) (a 0) (a 1)⟩
def Ξ:Ê:={pin:=12,cs:=[ae,tI,tI,tI,ac,aa,af,ab,aa,tI,tI,tI,tI,tI,tI,ae,ae,tI,tI,tI,tI,aa,tI,tI,ac,aa,af,ab,aa,tI,ah,tI,tI,tI,tI,tI,tI,tI,tI,am,am,am],vs:=[tI],head:=⟨19,.con ae::.fn 85 [(8,0),(2,0)]::aN 5 [.con tI,.var tI],cr⟩,exits:=[(.ret,⟨19,[.con ae,.fn 85 [(8,0),(2,0)],.any,.any,.var tI,.any,.any,.con tI],cr⟩,[tI]),(.exit 0,⟨19,.con ae::.fn 85 [(8,0),(2,0)]::aN 5 [.con tI],cr⟩,[])]}
def og (ρ:Type):Ý ρ:=⟨[18,4,1,2],155,0,Ξ,fun(p:Val ao) (v:Val tI) b a=>let A:=p.2.2.2.2.2.2.2.2.2.2.2;let B:=A.2.2.2.2.2.2.2.2.2.2.2.2.2.2.2.2.2.2.2.2;let C:=B.2.2.2.2;mX p.1 p.2.1 A.1 A.2.1 B.1 B.2.1 B.2.2.1 B.2.2.2.1 C.1 C.2.1 C.2.2.1 C.2.2.2.1 v (fun c=>b c) (a 0) (a 1)⟩
def B9:List (Nat×Ù):=[(57,C0),(66,ŧ),(67,jO),(68,ŵ),(76,Iu),(81,ś),(82,uO),(83,Ex),(84,Ew),(86,rY),(88,rZ),(110,qL),(111,ű)]
def pW (ρ:Type):List (Ý ρ):=[oh ρ,og ρ]
def sg:List alf:=[⟨[],35,0,4⟩]
def ē (ρ:Type):Env ρ:={Ú B9 (pW ρ) with hint:=JS [(51,83),(55,83)]}
def vn (ρ:Type):Env ρ:={{anf B9 (pW ρ) sg with loops:=abJ (ē ρ) sg} with hint:=JS [(51,83),(55,83)]}
def Z3:Ù:=⟨[Í],[ae,tI],fun(x:Val Í)=>zE x⟩
def Tu:Ê:={pin:=0,cs:=[tI,tI,ah],vs:=[tI,aP],head:=⟨93,.any::.box 0 0::aN 6 (.own 1::aN 24 [.con tI,.var tI]),[bt,.rowv am]⟩,exits:=[(.exit 0,⟨93,.any::.box 0 0::aN 6 (.own 1::aN 24 [.con tI]),[bt,.rowv am]⟩,[aP])]}
def Cm (ρ:Type):Ý ρ:=⟨[],91,0,Tu,fun(p:Val aE) (v:Val (.pair tI aP)) a b=>Lg p.1 p.2.1 p.2.2 v.1 v.2 (fun c d=>a (c,d)) (b 0)⟩
def Cf:Ê:={pin:=3,cs:=[tI,am,ah,tI,tI,ah,aP,tI,tI,tI,tI,ah],vs:=[tI,tI,tI,ae],head:=⟨73,.any::.var tI::.con tI::.con am::.fn 161 []::.box 3 0::aN 5 (.own 4::.var tI::aN 7 [.con ah,.con tI,.var tI]),cu⟩,exits:=[(.exit 2,⟨73,.any::.var tI::.con tI::.con am::.fn 161 []::.box 3 0::aN 5 (.own 4::.var tI::aN 7 [.con ah,.con tI]),cu⟩,[tI,tI,ae])]}
def Ce (ρ:Type):Ý ρ:=⟨[22,10],125,2,Cf,fun(p:Val (tyL Cf.cs)) (v:Val aJ) a b=>Lc p.1 p.2.1 p.2.2.1 p.2.2.2.1 v.1 v.2.1 v.2.2.1 v.2.2.2 (fun c d e f=>a (c,d,e,f)) (b 0)⟩
def Ch:Ê:={pin:=3,cs:=[am,tI,ah,aP,tI,tI,tI,tI,ah],vs:=[tI,tI,tI,ae],head:=⟨73,.any::.var tI::.var tI::.con am::.fn 161 []::.box 3 0::aN 5 [.own 4,.var tI],cu⟩,exits:=[(.exit 0,⟨73,aN 3 (.con am::.fn 161 []::.box 3 0::aN 5 [.own 4]),cu⟩,[ae])]}
def Cg (ρ:Type):Ý ρ:=⟨[22,10],125,0,Ch,fun(p:Val (tyL Ch.cs)) (v:Val aJ) a b=>Ld p.1 p.2.2.2.2.2.2.2.2 v.1 v.2.1 v.2.2.1 v.2.2.2 (fun c d e f=>a (c,d,e,f)) (b 0)⟩
def Cj:Ê:={pin:=0,cs:=[tI,ah,tI,tI,ah,aP],vs:=[tI],head:=⟨93,.any::.box 0 0::aN 6 (.own 1::.any::.fn 161 []::.con tI::aN 37 [.con ah,.con tI,.var tI]),[bt,.rowc am]⟩,exits:=[(.exit 2,⟨93,.any::.box 0 0::aN 6 (.own 1::.any::.fn 161 []::.con tI::aN 37 [.con ah,.con tI]),[bt,.rowc am]⟩,[]),(.ret,⟨93,.any::.box 0 0::.own 2::.var tI::aN 4 (.own 1::.any::.fn 161 []::.con tI::aN 37 [.con ah,.con tI]),[bt,.rowc am,.rowv tI]⟩,[tI,ae]),(.exit 4,⟨93,.any::.box 0 0::aN 6 (.own 1::.any::.fn 161 []::.con tI::aN 37 [.con ah,.con tI]),[bt,.rowc am]⟩,[])]}
def Ci (ρ:Type):Ý ρ:=⟨[],91,4,Cj,fun(p:Val (tyL Cj.cs)) (v:Val tI) b a=>Le p.1 p.2.1 p.2.2.1 p.2.2.2.1 p.2.2.2.2.1 p.2.2.2.2.2 v (fun c=>b c) (a 0) (a 1) (a 2)⟩
def Cl:Ê:={pin:=0,cs:=[tI,ah,aP],vs:=[tI],head:=⟨93,.any::.box 0 0::aN 6 [.own 1,.any,.fn 161 [],.var tI],[bt,.rowc am]⟩,exits:=[(.exit 2,⟨93,.any::.box 0 0::aN 6 [.own 1,.any,.fn 161 []],[bt,.rowc am]⟩,[]),(.ret,⟨93,.any::.box 0 0::.own 2::.var tI::aN 4 [.own 1,.any,.fn 161 []],[bt,.rowc am,.rowv tI]⟩,[tI,ae])]}
def Ck (ρ:Type):Ý ρ:=⟨[],91,2,Cl,fun(p:Val (tyL Cl.cs)) (v:Val tI) b a=>Lf p.1 p.2.1 p.2.2 v (fun c=>b c) (a 0) (a 1)⟩
def abe:List (Nat×Ù):=[(117,qK),(122,N7),(138,sZ)]
def Gp (ρ:Type):List (Ý ρ):=[Cm ρ,Ce ρ,Cg ρ,Ci ρ,Ck ρ]
def kq (ρ:Type):Env ρ:=Ú abe (Gp ρ)
def Z1:Ù:=⟨[Å],[χ,tI],fun(x:Val Å)=>HC x⟩
def aa9:List (Nat×Ù):=[(62,pI),(63,C1),(68,ŵ),(91,Z3)]
def Gc (ρ:Type):List (Ý ρ):=[]
def PO (ρ:Type):Env ρ:=Ú aa9 (Gc ρ)
def Kw:Ù:=⟨[],[Å],fun(_:Unit)=>zy⟩
def Ou:List (Nat×Ù):=[]
def wE (ρ:Type):List (Ý ρ):=[]
def Bq (ρ:Type):Env ρ:=Ú Ou (wE ρ)
def afz:Ù:=⟨[ae,tI],[.bool],fun(x:Val aH)=>Nx x.1 x.2⟩
def adM:List (Nat×Ù):=[(149,Ix)]
def KY (ρ:Type):List (Ý ρ):=[]
def UM (ρ:Type):Env ρ:=Ú adM (KY ρ)
def ZY:Ù:=⟨[tI],[.bool],fun(x:Val tI)=>HA x⟩
def aaY:List (Nat×Ù):=[]
def FY (ρ:Type):List (Ý ρ):=[]
def PE (ρ:Type):Env ρ:=Ú aaY (FY ρ)
def ZX:Ù:=⟨[tI,am],[aa],fun(x:Val aO)=>Hz x.1 x.2⟩
def Te:Ê:={pin:=0,cs:=[tI,ae,tI],vs:=[tI,aa],head:=⟨23,.con tI::aN 4 [.own 0,.any,.any,.any,.con ae,.con tI,.var tI],[.rowv Ã]⟩,exits:=[(.exit 0,⟨23,.con tI::aN 4 [.own 0,.any,.any,.any,.con ae,.con tI],[.rowv Ã]⟩,[aa])]}
def BZ (ρ:Type):Ý ρ:=⟨[],108,0,Te,fun(p:Val (.pair tI aH)) (v:Val aF) a b=>ri p.1 p.2.1 p.2.2 v.1 v.2 (fun c d=>a (c,d)) (b 0)⟩
def aaX:List (Nat×Ù):=[(81,ś)]
def FX (ρ:Type):List (Ý ρ):=[BZ ρ]
def Dw (ρ:Type):Env ρ:=Ú aaX (FX ρ)
def afB:Ù:=⟨[Å,tI,ae],[Ã,tI],fun(x:Val (.pair Å ar))=>Ny x.1 x.2.1 x.2.2⟩
def F9:Ê:={pin:=3,cs:=[aa,tI,tI,tI,ac,aa,af,ab,aa,tI,tI,am],vs:=[tI,tI,tI,ac,aa,af,ab,aa],head:=⟨68,aN 2 (.box 3 0::aN 20 [.con aa,.con tI,.var tI]),[bj,br,.rowf ae 0,bC]⟩,exits:=[(.ret,⟨68,aN 2 (.box 3 0::.any::.nilp::.var tI::aN 17 [.con aa,.con tI]),[bj,br,.rowf ae 0,bC]⟩,[tI,tI,tI,ac,aa,af,ab,aa]),(.exit 0,⟨68,aN 2 (.box 3 0::aN 20 [.con aa,.con tI]),[bj,br,.rowf ae 0,bC]⟩,[tI,tI,ac,aa,af,ab,aa])]}
def F8 (ρ:Type):Ý ρ:=⟨[7,2],47,0,F9,fun(p:Val (tyL F9.cs)) (v:Val aD) b a=>vr p.1 p.2.1 v.1 v.2.1 v.2.2.1 v.2.2.2.1 v.2.2.2.2.1 v.2.2.2.2.2.1 v.2.2.2.2.2.2.1 v.2.2.2.2.2.2.2 (fun c d e f g h i j=>b (c,d,e,f,g,h,i,j)) (a 0) (a 1)⟩
def F7:Ê:={pin:=0,cs:=[ax,aa,tI,tI,tI],vs:=[tI,tI,tI],head:=⟨87,aN 6 (.box 0 0::aN 3 (.con ax::aN 2 (.box 1 0::aN 51 [.con aa,.con tI,.var tI]))),[br,.cells [.var tI,.var tI]]⟩,exits:=[(.exit 0,⟨87,aN 6 (.box 0 0::aN 3 (.con ax::aN 2 (.box 1 0::aN 51 [.con aa,.con tI]))),[br,.cells [.var tI,.var tI]]⟩,[tI,tI])]}
def F6 (ρ:Type):Ý ρ:=⟨[],45,0,F7,fun(p:Val (tyL F7.cs)) (v:Val Ĉ) a b=>vq p.1 p.2.1 p.2.2.1 v.1 v.2.1 v.2.2 (fun c d e=>a (c,d,e)) (b 0)⟩
def adR:List (Nat×Ù):=[(48,jt),(66,ŧ),(67,jO),(68,ŵ),(106,afz),(107,ZY),(108,ZX),(110,qL),(111,ű)]
def K9 (ρ:Type):List (Ý ρ):=[F8 ρ,F6 ρ]
def Ai (ρ:Type):Env ρ:=Ú adR (K9 ρ)
def Bn:Ù:=⟨[Í,ae],[tI],fun(x:Val bg)=>m7 x.1 x.2⟩
def Jr:List (Nat×Ù):=[(138,sZ),(140,C3),(141,V5)]
def rz (ρ:Type):List (Ý ρ):=[]
def w9 (ρ:Type):Env ρ:=Ú Jr (rz ρ)
def Bm:Ù:=⟨[χ],[tI],fun(x:Val χ)=>m6 x⟩
def Jf:List (Nat×Ù):=[(66,ŧ),(68,ŵ),(92,Bn)]
def rq (ρ:Type):List (Ý ρ):=[]
def wS (ρ:Type):Env ρ:=Ú Jf (rq ρ)
def iQ:Ù:=⟨[ac,Ð],[tI],fun(x:Val (.pair ac Ð))=>Ť x.1 x.2⟩
def kO:Ê:={pin:=0,cs:=[ac,tI,tI,tI,tI,tI,tI,tI,tI,tI],vs:=[tI],head:=⟨19,[.con ac,.any,.any,.box 0 0,.any,.any,.any,.con tI,.var tI],[bm]⟩,exits:=[(.ret,⟨19,[.con ac,.any,.any,.box 0 0,.var tI,.any,.any,.con tI],[bm]⟩,[tI]),(.exit 0,⟨19,[.con ac,.any,.any,.box 0 0,.any,.any,.any,.con tI],[bm]⟩,[])]}
def Ζ (ρ:Type):Ý ρ:=⟨[],248,0,kO,fun(p:Val (.pair ac aX)) (v:Val tI) b a=>let A:=p.2.2.2.2;ă p.1 p.2.1 p.2.2.1 p.2.2.2.1 A.1 A.2.1 A.2.2.1 A.2.2.2.1 A.2.2.2.2.1 A.2.2.2.2.2 v (fun c=>b c) (a 0) (a 1)⟩
def lX:List (Nat×Ù):=[]
def Φ (ρ:Type):List (Ý ρ):=[Ζ ρ]
def ő (ρ:Type):Env ρ:=Ú lX (Φ ρ)
def ω:Ù:=⟨[ac,Ð],[.bool],fun(x:Val (.pair ac Ð))=>Ġ x.1 x.2⟩
def ki:List (Nat×Ù):=[(248,iQ)]
def Ų (ρ:Type):List (Ý ρ):=[]
def Θ (ρ:Type):Env ρ:=Ú ki (Ų ρ)
def jM:Ù:=⟨[aa,Ã],[tI],fun(x:Val aV)=>ξ x.1 x.2⟩
def nl:Ê:={pin:=0,cs:=[aa,tI,tI,tI],vs:=[tI],head:=⟨19,[.con aa,.any,.any,.box 0 0,.any,.any,.any,.con tI,.var tI],[br]⟩,exits:=[(.ret,⟨19,[.con aa,.any,.any,.box 0 0,.var tI,.any,.any,.con tI],[br]⟩,[tI]),(.exit 0,⟨19,[.con aa,.any,.any,.box 0 0,.any,.any,.any,.con tI],[br]⟩,[])]}
def ir (ρ:Type):Ý ρ:=⟨[],250,0,nl,fun(p:Val (.pair aa Ĉ)) (v:Val tI) b a=>Ę p.1 p.2.1 p.2.2.1 p.2.2.2 v (fun c=>b c) (a 0) (a 1)⟩
def oE:List (Nat×Ù):=[]
def iR (ρ:Type):List (Ý ρ):=[ir ρ]
def Ż (ρ:Type):Env ρ:=Ú oE (iR ρ)
def i5:Ù:=⟨[aa,Ã],[.bool],fun(x:Val aV)=>Ě x.1 x.2⟩
def mo:List (Nat×Ù):=[(250,jM)]
def gV (ρ:Type):List (Ý ρ):=[]
def iu (ρ:Type):Env ρ:=Ú mo (gV ρ)
def jd:Ù:=⟨[af,ō],[tI],fun(x:Val (.pair af ō))=>Α x.1 x.2⟩
def lW:Ê:={pin:=0,cs:=[af,tI,tI,tI,tI,tI],vs:=[tI],head:=⟨19,[.con af,.any,.any,.box 0 0,.any,.any,.any,.con tI,.var tI],[bn]⟩,exits:=[(.ret,⟨19,[.con af,.any,.any,.box 0 0,.var tI,.any,.any,.con tI],[bn]⟩,[tI]),(.exit 0,⟨19,[.con af,.any,.any,.box 0 0,.any,.any,.any,.con tI],[bn]⟩,[])]}
def gU (ρ:Type):Ý ρ:=⟨[],252,0,lW,fun(p:Val (.pair af bh)) (v:Val tI) b a=>Č p.1 p.2.1 p.2.2.1 p.2.2.2.1 p.2.2.2.2.1 p.2.2.2.2.2 v (fun c=>b c) (a 0) (a 1)⟩
def np:List (Nat×Ù):=[]
def g9 (ρ:Type):List (Ý ρ):=[gU ρ]
def Ţ (ρ:Type):Env ρ:=Ú np (g9 ρ)
def iq:Ù:=⟨[af,ō],[.bool],fun(x:Val (.pair af ō))=>č x.1 x.2⟩
def kZ:List (Nat×Ù):=[(252,jd)]
def Η (ρ:Type):List (Ý ρ):=[]
def gW (ρ:Type):Env ρ:=Ú kZ (Η ρ)
def afA:Ù:=⟨[Å,Å],[.bool],fun(x:Val (.pair Å Å))=>Hy x.1 x.2⟩
def FW:Ê:={pin:=0,cs:=[ac,tI,tI,tI,ac,aa,af,ab,aa,tI,tI,ac,aa,af,ab,aa],vs:=[tI,ak],head:=⟨87,aN 2 (.box 0 0::.box 1 0::.any::.box 2 0::aN 10 [.con ac,.con tI,.var tI]),[bj,bj,bI,.mapv tI .bool]⟩,exits:=[(.exit 0,⟨87,aN 2 (.box 0 0::.box 1 0::.any::.box 2 0::aN 10 [.con ac,.con tI]),[bj,bj,bI,.mapv tI .bool]⟩,[ak])]}
def FV (ρ:Type):Ý ρ:=⟨[],109,0,FW,fun(p:Val (tyL FW.cs)) (v:Val (.pair tI ak)) a b=>vh p.1 p.2.1 v.1 v.2 (fun c d=>a (c,d)) (b 0)⟩
def FQ:Ê:={pin:=6,cs:=[ae,ae,tI,tI,tI,ac,aa,af,ab,aa,tI,tI,ac,aa,af,ab,aa,ak,tI,tI,ae,ae,tI,tI,tI,tI,tI,tI,ae,ae,tI,tI,tI,tI],vs:=[tI],head:=⟨26,.con ae::.con ae::aN 10 [.con tI,.var tI],cw⟩,exits:=[(.ret,⟨26,.con ae::.con ae::aN 2 (.var .bool::aN 7 [.con tI]),cw⟩,[.bool]),(.exit 0,⟨26,.con ae::.con ae::aN 10 [.con tI],cw⟩,[])]}
def FP (ρ:Type):Ý ρ:=⟨[14,3,1,2,4,5,1,38],176,0,FQ,fun(p:Val (tyL FQ.cs)) (v:Val tI) b a=>mB p.1 p.2.1 p.2.2.1 v (fun c=>b c) (a 0) (a 1)⟩
def FO:Ê:={pin:=6,cs:=[ae,ae,tI,tI,tI,ac,aa,af,ab,aa,tI,tI,ac,aa,af,ab,aa,ak,tI,tI,ae,ae,tI,tI,tI,tI,tI,tI,ae,ae,tI,tI,tI,tI],vs:=[tI],head:=⟨26,.con ae::.con ae::aN 10 [.con tI,.var tI],cw⟩,exits:=[(.ret,⟨26,.con ae::.con ae::aN 2 (.var .bool::aN 7 [.con tI]),cw⟩,[.bool]),(.exit 0,⟨26,.con ae::.con ae::aN 10 [.con tI],cw⟩,[])]}
def FN (ρ:Type):Ý ρ:=⟨[14,3,1,2,4,5,1,45],176,0,FO,fun(p:Val (tyL FO.cs)) (v:Val tI) b a=>vg p.1 p.2.1 p.2.2.1 v (fun c=>b c) (a 0) (a 1)⟩
def FS:Ê:={pin:=5,cs:=[ab,tI,tI,tI,ac,aa,af,ab,aa,tI,tI,ac,aa,af,ab,aa,ak,tI,tI,ae,ae,tI,tI,tI,tI],vs:=[tI],head:=⟨19,.con ab::.fn 175 [(4,0)]::aN 5 [.con tI,.var tI],cz⟩,exits:=[(.ret,⟨19,[.con ab,.fn 175 [(4,0)],.any,.any,.var tI,.any,.any,.con tI],cz⟩,[tI]),(.exit 0,⟨19,.con ab::.fn 175 [(4,0)]::aN 5 [.con tI],cz⟩,[])]}
def FR (ρ:Type):Ý ρ:=⟨[14,3,1,2],213,0,FS,fun(p:Val (tyL FS.cs)) (v:Val tI) b a=>let A:=p.2.2.2.2.2.2.2.2.2.2.2.2.2.2.2.2.2;let B:=A.2.2.2.2;pT p.1 p.2.1 A.1 A.2.1 A.2.2.1 A.2.2.2.1 B.1 B.2.1 B.2.2.1 B.2.2.2 v (fun c=>b c) (a 0) (a 1)⟩
def FU:Ê:={pin:=0,cs:=[ab,tI,tI,tI,ac,aa,af,ab,aa,tI,tI,ac,aa,af,ab,aa,ak],vs:=[tI],head:=⟨87,aN 2 (.box 0 0::.box 1 0::aN 4 (.fn 172 []::.fn 173 [(2,0)]::.fn 174 [(2,0)]::aN 18 [.con ab,.con tI,.var tI])),cA⟩,exits:=[(.ret,⟨87,aN 2 (.box 0 0::.box 1 0::.var .bool::aN 3 (.fn 172 []::.fn 173 [(2,0)]::.fn 174 [(2,0)]::aN 18 [.con ab,.con tI])),cA⟩,[.bool]),(.exit 2,⟨87,aN 2 (.box 0 0::.box 1 0::aN 4 (.fn 172 []::.fn 173 [(2,0)]::.fn 174 [(2,0)]::aN 18 [.con ab,.con tI])),cA⟩,[])]}
def FT (ρ:Type):Ý ρ:=⟨[],109,2,FU,fun(p:Val (tyL FU.cs)) (v:Val tI) b a=>pU p.1 p.2.1 p.2.2.2.2.2.2.2.2.2.2.2.2.2.2.1 v (fun c=>b c) (a 0) (a 1)⟩
def FM:Ê:={pin:=6,cs:=[ac,tI,tI,tI,ac,aa,af,ab,aa,tI,tI,ac,aa,af,ab,aa,ak,ac],vs:=[tI],head:=⟨19,.con ac::.fn 215 [(5,0),(4,0)]::aN 5 [.con tI,.var tI],cB⟩,exits:=[(.ret,⟨19,[.con ac,.fn 215 [(5,0),(4,0)],.any,.any,.var tI,.any,.any,.con tI],cB⟩,[tI]),(.exit 0,⟨19,.con ac::.fn 215 [(5,0),(4,0)]::aN 5 [.con tI],cB⟩,[])]}
def FL (ρ:Type):Ý ρ:=⟨[17,11,1,2,1,2],247,0,FM,fun(p:Val (tyL FM.cs)) (v:Val tI) b a=>pS p.1 p.2.1 p.2.2.2.2.2.2.2.2.2.2.2.2.2.2.2.2.2 v (fun c=>b c) (a 0) (a 1)⟩
def FK:Ê:={pin:=8,cs:=[aa,tI,tI,tI,ac,aa,af,ab,aa,tI,tI,ac,aa,af,ab,aa,ak,ac,aa],vs:=[tI],head:=⟨19,.con aa::.fn 218 [(7,0),(6,0)]::aN 5 [.con tI,.var tI],cD⟩,exits:=[(.ret,⟨19,[.con aa,.fn 218 [(7,0),(6,0)],.any,.any,.var tI,.any,.any,.con tI],cD⟩,[tI]),(.exit 0,⟨19,.con aa::.fn 218 [(7,0),(6,0)]::aN 5 [.con tI],cD⟩,[])]}
def FJ (ρ:Type):Ý ρ:=⟨[17,19,1,2,1,2],249,0,FK,fun(p:Val (tyL FK.cs)) (v:Val tI) b a=>kp p.1 p.2.1 p.2.2.2.2.2.2.2.2.2.2.2.2.2.2.2.2.1 p.2.2.2.2.2.2.2.2.2.2.2.2.2.2.2.2.2.2 v (fun c=>b c) (a 0) (a 1)⟩
def FI:Ê:={pin:=10,cs:=[aa,tI,tI,tI,ac,aa,af,ab,aa,tI,tI,ac,aa,af,ab,aa,ak,ac,aa,aa],vs:=[tI],head:=⟨19,.con aa::.fn 218 [(9,0),(8,0)]::aN 5 [.con tI,.var tI],cE⟩,exits:=[(.ret,⟨19,[.con aa,.fn 218 [(9,0),(8,0)],.any,.any,.var tI,.any,.any,.con tI],cE⟩,[tI]),(.exit 0,⟨19,.con aa::.fn 218 [(9,0),(8,0)]::aN 5 [.con tI],cE⟩,[])]}
def FH (ρ:Type):Ý ρ:=⟨[17,27,1,2,1,2],249,0,FI,fun(p:Val (tyL FI.cs)) (v:Val tI) b a=>mA p.1 p.2.1 p.2.2.2.2.2.2.2.2.2.2.2.2.2.2.2.2.1 p.2.2.2.2.2.2.2.2.2.2.2.2.2.2.2.2.2.2.2 v (fun c=>b c) (a 0) (a 1)⟩
def FG:Ê:={pin:=12,cs:=[af,tI,tI,tI,ac,aa,af,ab,aa,tI,tI,ac,aa,af,ab,aa,ak,ac,aa,aa,af],vs:=[tI],head:=⟨19,.con af::.fn 221 [(11,0),(10,0)]::aN 5 [.con tI,.var tI],cF⟩,exits:=[(.ret,⟨19,[.con af,.fn 221 [(11,0),(10,0)],.any,.any,.var tI,.any,.any,.con tI],cF⟩,[tI]),(.exit 0,⟨19,.con af::.fn 221 [(11,0),(10,0)]::aN 5 [.con tI],cF⟩,[])]}
def FF (ρ:Type):Ý ρ:=⟨[17,35,1,2,1,2],251,0,FG,fun(p:Val (tyL FG.cs)) (v:Val tI) b a=>Ń p.1 p.2.1 p.2.2.2.2.2.2.2.2.2.2.2.2.2.2.2.2.1 p.2.2.2.2.2.2.2.2.2.2.2.2.2.2.2.2.2.2.2.2 v (fun c=>b c) (a 0) (a 1)⟩
def FE:Ê:={pin:=14,cs:=[af,tI,tI,tI,ac,aa,af,ab,aa,tI,tI,ac,aa,af,ab,aa,ak,ac,aa,aa,af,af],vs:=[tI],head:=⟨19,.con af::.fn 221 [(13,0),(12,0)]::aN 5 [.con tI,.var tI],cG⟩,exits:=[(.ret,⟨19,[.con af,.fn 221 [(13,0),(12,0)],.any,.any,.var tI,.any,.any,.con tI],cG⟩,[tI]),(.exit 0,⟨19,.con af::.fn 221 [(13,0),(12,0)]::aN 5 [.con tI],cG⟩,[])]}
def FD (ρ:Type):Ý ρ:=⟨[17,43,1,2,1,2],251,0,FE,fun(p:Val (tyL FE.cs)) (v:Val tI) b a=>ĕ p.1 p.2.1 p.2.2.2.2.2.2.2.2.2.2.2.2.2.2.2.2.1 p.2.2.2.2.2.2.2.2.2.2.2.2.2.2.2.2.2.2.2.2.2 v (fun c=>b c) (a 0) (a 1)⟩
def adN:List (Nat×Ù):=[(216,ω),(219,i5),(222,iq)]
def KZ (ρ:Type):List (Ý ρ):=[FV ρ,FP ρ,FN ρ,FR ρ,FT ρ,FL ρ,FJ ρ,FH ρ,FF ρ,FD ρ]
def Ν (ρ:Type):Env ρ:=Ú adN (KZ ρ)
def Uu:Ù:=⟨[Å,χ],[.bool,tI],fun(x:Val (.pair Å χ))=>AE x.1 x.2⟩
def Xv:List (Nat×Ù):=[(25,uP),(39,Bm),(66,ŧ),(109,afA)]
def B8 (ρ:Type):List (Ý ρ):=[]
def K8 (ρ:Type):Env ρ:=Ú Xv (B8 ρ)
def NZ:Ù:=⟨[],[.bool],fun(_:Unit)=>Ņ⟩
def Sf:List (Nat×Ù):=[(12,KB),(14,N6),(21,Z0),(24,N5),(25,uP),(31,ZZ),(35,C2),(38,Z1),(44,Kw),(45,afB),(46,Uu)]
def xJ (ρ:Type):List (Ý ρ):=[]
def EQ (ρ:Type):Env ρ:=Ú Sf (xJ ρ)
def ng:Ù:=⟨[Ã,tI,tI],[.bool],fun(x:Val è)=>jm x.1 x.2.1 x.2.2⟩
def OA:List (Nat×Ù):=[]
def wG (ρ:Type):List (Ý ρ):=[]
def Bv (ρ:Type):Env ρ:=Ú OA (wG ρ)
def Io:Ù:=⟨[tI,tI,tI],[.bool],fun(x:Val Ĉ)=>lJ x.1 x.2.1 x.2.2⟩
def ag2:List (Nat×Ù):=[]
def O9 (ρ:Type):List (Ý ρ):=[]
def aaH (ρ:Type):Env ρ:=Ú ag2 (O9 ρ)
def Eu:Ù:=⟨[tI],[.bool],fun(x:Val tI)=>wd x⟩
def adD:List (Nat×Ù):=[(164,Io)]
def KO (ρ:Type):List (Ý ρ):=[]
def UG (ρ:Type):Env ρ:=Ú adD (KO ρ)
def V3:Ù:=⟨[tI,tI],[tI],fun(x:Val Ã)=>AD x.1 x.2⟩
def Xc:Ê:={pin:=0,cs:=[],vs:=[tI,tI],head:=⟨14,[.var tI,.var tI],[]⟩,exits:=[(.exit 0,⟨14,[.var tI],[]⟩,[tI])]}
def Fu (ρ:Type):Ý ρ:=⟨[],209,0,Xc,fun(p:Unit) (v:Val Ã) a b=>ve v.1 v.2 (fun c d=>a (c,d)) (b 0)⟩
def adJ:List (Nat×Ù):=[]
def KU (ρ:Type):List (Ý ρ):=[Fu ρ]
def IZ (ρ:Type):Env ρ:=Ú adJ (KU ρ)
def V4:Ù:=⟨[tI],[tI],fun(x:Val tI)=>Hx x⟩
def adL:List (Nat×Ù):=[]
def KX (ρ:Type):List (Ý ρ):=[]
def UL (ρ:Type):Env ρ:=Ú adL (KX ρ)
def Ur:Ù:=⟨[Ã],[.bool],fun(x:Val Ã)=>AB x⟩
def W7:List (Nat×Ù):=[(209,V3),(210,V4)]
def BV (ρ:Type):List (Ý ρ):=[]
def KP (ρ:Type):Env ρ:=Ú W7 (BV ρ)
def Up:Ù:=⟨[Ð],[.bool],fun(x:Val Ð)=>AA x⟩
def WC:List (Nat×Ù):=[(94,ng),(100,Eu),(163,Ur),(164,Io)]
def Bz (ρ:Type):List (Ý ρ):=[]
def KI (ρ:Type):Env ρ:=Ú WC (Bz ρ)
def xC:Ù:=⟨[Å,tI],[tI],fun(x:Val aG)=>qm x.1 x.2⟩
def SK:Ê:={pin:=0,cs:=[tI,tI,tI,ac,aa,af,ab,aa],vs:=[tI],head:=⟨22,[.any,.con tI,.box 0 0,.any,.any,.var tI],[bj]⟩,exits:=[(.ret,⟨22,[.any,.con tI,.box 0 0,.any,.var tI],[bj]⟩,[tI]),(.exit 0,⟨22,[.any,.con tI,.box 0 0],[bj]⟩,[])]}
def BQ (ρ:Type):Ý ρ:=⟨[],166,0,SK,fun(p:Val aD) (v:Val tI) b a=>rc p.1 p.2.2.2.1 v (fun c=>b c) (a 0) (a 1)⟩
def aaJ:List (Nat×Ù):=[]
def Fq (ρ:Type):List (Ý ρ):=[BQ ρ]
def Dn (ρ:Type):Env ρ:=Ú aaJ (Fq ρ)
def sW:Ù:=⟨[Å,tI,tI],[tI],fun(x:Val aC)=>mI x.1 x.2.1 x.2.2⟩
def WK:List (Nat×Ù):=[(166,xC)]
def BD (ρ:Type):List (Ý ρ):=[]
def KK (ρ:Type):Env ρ:=Ú WK (BD ρ)
def ZM:Ù:=⟨[Å],[tI],fun(x:Val Å)=>Hs x⟩
def Sj:Ê:={pin:=0,cs:=[tI,tI,ac,aa,af,ab,aa],vs:=[tI],head:=⟨37,[.any,.box 0 0,.any,.var tI],[bj]⟩,exits:=[(.ret,⟨37,[.any,.box 0 0,.var tI],[bj]⟩,[tI]),(.exit 0,⟨37,[.any,.box 0 0],[bj]⟩,[])]}
def Bu (ρ:Type):Ý ρ:=⟨[],96,0,Sj,fun(p:Val ai) (v:Val tI) b a=>let A:=p.2.2.2.2;qQ p.1 p.2.1 p.2.2.1 p.2.2.2.1 A.1 A.2.1 A.2.2 v (fun c=>b c) (a 0) (a 1)⟩
def aat:List (Nat×Ù):=[(100,Eu),(101,sW)]
def ET (ρ:Type):List (Ý ρ):=[Bu ρ]
def Dc (ρ:Type):Env ρ:=Ú aat (ET ρ)
def Un:Ù:=⟨[Å],[tI],fun(x:Val Å)=>Az x⟩
def OD:Ê:={pin:=0,cs:=[tI,tI,tI,ac,aa,af,ab,aa,tI,tI,tI,tI],vs:=[tI],head:=⟨111,[.any,.box 0 0,.any,.con tI,.box 1 0,.any,.var tI],bU⟩,exits:=[(.ret,⟨111,[.any,.box 0 0,.var tI,.con tI,.box 1 0],bU⟩,[tI]),(.exit 2,⟨111,[.any,.box 0 0,.any,.con tI,.box 1 0],bU⟩,[])]}
def xR (ρ:Type):Ý ρ:=⟨[],97,2,OD,fun(p:Val (.pair tI aw)) (v:Val tI) b a=>let A:=p.2.2.2.2.2;oF p.1 A.1 A.2.2.2.1 A.2.2.2.2.1 A.2.2.2.2.2.1 v (fun c=>b c) (a 0) (a 1)⟩
def OC:Ê:={pin:=0,cs:=[tI,tI,tI,ac,aa,af,ab,aa,tI,tI,tI,tI],vs:=[tI],head:=⟨111,[.any,.box 0 0,.any,.con tI,.box 1 0,.any,.any,.var tI],bU⟩,exits:=[(.ret,⟨111,[.any,.box 0 0,.var tI,.con tI,.box 1 0],bU⟩,[tI]),(.exit 4,⟨111,[.any,.box 0 0,.any,.con tI,.box 1 0],bU⟩,[])]}
def xQ (ρ:Type):Ý ρ:=⟨[],97,4,OC,fun(p:Val (.pair tI aw)) (v:Val tI) b a=>let A:=p.2.2.2.2;let B:=A.2.2.2.2;lg A.1 B.1 B.2.1 B.2.2.1 v (fun c=>b c) (a 0) (a 1)⟩
def OE:Ê:={pin:=0,cs:=[tI,tI,ac,aa,af,ab,aa],vs:=[tI],head:=⟨111,[.any,.box 0 0,.any,.var tI],[bj]⟩,exits:=[(.ret,⟨111,[.any,.box 0 0,.var tI],[bj]⟩,[tI]),(.exit 0,⟨111,[.any,.box 0 0],[bj]⟩,[])]}
def xS (ρ:Type):Ý ρ:=⟨[],97,0,OE,fun(p:Val ai) (v:Val tI) b a=>let A:=p.2.2.2.2;oG p.1 p.2.1 p.2.2.1 p.2.2.2.1 A.1 A.2.1 A.2.2 v (fun c=>b c) (a 0) (a 1)⟩
def WA:List (Nat×Ù):=[(94,ng),(101,sW),(164,Io)]
def Bx (ρ:Type):List (Ý ρ):=[xR ρ,xQ ρ,xS ρ]
def nr (ρ:Type):Env ρ:=Ú WA (Bx ρ)
def ZR:Ù:=⟨[ae],[.bool],fun(x:Val ae)=>zz x⟩
def SB:Ê:={pin:=0,cs:=[ae],vs:=[tI],head:=⟨35,[.con ae,.any,.any,.var tI],[]⟩,exits:=[(.ret,⟨35,[.con ae,.any,.var .bool],[]⟩,[.bool]),(.exit 0,⟨35,[.con ae],[]⟩,[])]}
def BH (ρ:Type):Ý ρ:=⟨[],165,0,SB,fun(p:Val ae) (v:Val tI) b a=>qW p v (fun c=>b c) (a 0) (a 1)⟩
def aaB:List (Nat×Ù):=[(164,Io)]
def Ff (ρ:Type):List (Ý ρ):=[BH ρ]
def Di (ρ:Type):Env ρ:=Ú aaB (Ff ρ)
def Um:Ù:=⟨[É],[.bool],fun(x:Val É)=>Ay x⟩
def Wx:List (Nat×Ù):=[(94,ng),(100,Eu),(164,Io),(165,ZR)]
def Bw (ρ:Type):List (Ý ρ):=[]
def KE (ρ:Type):Env ρ:=Ú Wx (Bw ρ)
def N1:Ù:=⟨[Å,tI,tI],[ō,.bool],fun(x:Val aC)=>zA x.1 x.2.1 x.2.2⟩
def SF:Ê:={pin:=0,cs:=[tI,tI,tI,tI,ac,aa,af,ab,aa],vs:=[tI,tI,tI,tI,tI],head:=⟨42,[.any,.con tI,.con tI,.box 0 0,.any,.any,.box 1 0,.any,.var tI],[bj,bP]⟩,exits:=[(.ret,⟨42,[.any,.con tI,.con tI,.box 0 0,.any,.any,.box 1 0,.var .bool],[bj,bP]⟩,[.bool,tI,tI,tI,tI]),(.exit 0,⟨42,[.any,.con tI,.con tI,.box 0 0,.any,.any,.box 1 0],[bj,bP]⟩,[tI,tI,tI,tI])]}
def BN (ρ:Type):Ý ρ:=⟨[],167,0,SF,fun(p:Val (.pair tI aD)) (v:Val bh) b a=>qY p.1 p.2.1 p.2.2.2.2.2.2.1 v.1 v.2.1 v.2.2.1 v.2.2.2.1 v.2.2.2.2 (fun c d e f g=>b (c,d,e,f,g)) (a 0) (a 1)⟩
def aaF:List (Nat×Ù):=[]
def Fl (ρ:Type):List (Ý ρ):=[BN ρ]
def Dk (ρ:Type):Env ρ:=Ú aaF (Fl ρ)
def afu:Ù:=⟨[ae,tI],[.bool],fun(x:Val aH)=>Nv x.1 x.2⟩
def WV:Ê:={pin:=0,cs:=[ae,tI],vs:=[tI],head:=⟨18,[.con ae,.con tI,.any,.any,.any,.var tI],[]⟩,exits:=[(.ret,⟨18,[.con ae,.con tI,.any,.any,.var .bool],[]⟩,[.bool]),(.exit 0,⟨18,[.con ae,.con tI],[]⟩,[])]}
def Fo (ρ:Type):Ý ρ:=⟨[],211,0,WV,fun(p:Val aH) (v:Val tI) b a=>vd p.1 p.2 v (fun c=>b c) (a 0) (a 1)⟩
def adC:List (Nat×Ù):=[]
def KM (ρ:Type):List (Ý ρ):=[Fo ρ]
def IP (ρ:Type):Env ρ:=Ú adC (KM ρ)
def N2:Ù:=⟨[ae,ae],[ae],fun(x:Val aY)=>jV x.1 x.2⟩
def SG:Ê:={pin:=0,cs:=[ae,ae],vs:=[tI,ae],head:=⟨28,[.con ae,.con ae,.any,.any,.any,.own 0,.var tI],[.rowv tI]⟩,exits:=[(.exit 0,⟨28,[.con ae,.con ae,.any,.any,.any,.own 0],[.rowv tI]⟩,[ae])]}
def BO (ρ:Type):Ý ρ:=⟨[],168,0,SG,fun(p:Val aY) (v:Val ar) a b=>qZ p.1 p.2 v.1 v.2 (fun c d=>a (c,d)) (b 0)⟩
def aaG:List (Nat×Ù):=[(211,afu)]
def Fm (ρ:Type):List (Ý ρ):=[BO ρ]
def Dl (ρ:Type):Env ρ:=Ú aaG (Fm ρ)
def Et:Ù:=⟨[Å,É],[tI],fun(x:Val aA)=>jC x.1 x.2⟩
def EY:Ê:={pin:=0,cs:=[tI,tI,ac,aa,af,ab,aa,tI,tI,ae,ae,tI,tI,tI,tI,ae],vs:=[tI],head:=⟨90,[.any,.any,.box 0 0,.box 1 0,.any,.own 2,.var tI],bV⟩,exits:=[(.ret,⟨90,[.any,.any,.box 0 0,.box 1 0,.var tI,.own 2],bV⟩,[tI]),(.exit 0,⟨90,[.any,.any,.box 0 0,.box 1 0,.any,.own 2],bV⟩,[])]}
def qT (ρ:Type):Ý ρ:=⟨[],99,0,EY,fun(p:Val ay) (v:Val tI) b a=>let A:=p.2.2.2.2;j6 p.1 p.2.1 p.2.2.1 p.2.2.2.1 A.1 A.2.1 A.2.2.1 A.2.2.2.2.2.2.2.2.2.2.2 v (fun c=>b c) (a 0) (a 1)⟩
def EX:Ê:={pin:=0,cs:=[tI,tI,ac,aa,af,ab,aa,tI,tI,ae,ae,tI,tI,tI,tI,ae],vs:=[tI],head:=⟨90,[.any,.any,.box 0 0,.box 1 0,.any,.own 2,.any,.var tI],bV⟩,exits:=[(.ret,⟨90,[.any,.any,.box 0 0,.box 1 0,.var tI,.own 2],bV⟩,[tI]),(.exit 2,⟨90,[.any,.any,.box 0 0,.box 1 0,.any,.own 2],bV⟩,[])]}
def qS (ρ:Type):Ý ρ:=⟨[],99,2,EX,fun(p:Val ay) (v:Val tI) b a=>let A:=p.2.2.2.2;iS p.1 p.2.1 p.2.2.1 p.2.2.2.1 A.1 A.2.1 A.2.2.1 A.2.2.2.2.1 A.2.2.2.2.2.2.2.2.2.2.2 v (fun c=>b c) (a 0) (a 1)⟩
def EW:Ê:={pin:=0,cs:=[tI,tI,ac,aa,af,ab,aa,tI,tI,ae,ae,tI,tI,tI,tI,ae],vs:=[tI],head:=⟨90,[.any,.any,.box 0 0,.box 1 0,.any,.own 2,.any,.any,.var tI],bV⟩,exits:=[(.ret,⟨90,[.any,.any,.box 0 0,.box 1 0,.var tI,.own 2],bV⟩,[tI]),(.exit 4,⟨90,[.any,.any,.box 0 0,.box 1 0,.any,.own 2],bV⟩,[])]}
def qR (ρ:Type):Ý ρ:=⟨[],99,4,EW,fun(p:Val ay) (v:Val tI) b a=>let A:=p.2.2.2.2;Μ p.1 p.2.1 p.2.2.1 p.2.2.2.1 A.1 A.2.1 A.2.2.1 A.2.2.2.2.1 A.2.2.2.2.2.2.2.2.2.2.2 v (fun c=>b c) (a 0) (a 1)⟩
def L9:List (Nat×Ù):=[(101,sW),(166,xC),(167,N1),(168,N2)]
def tg (ρ:Type):List (Ý ρ):=[qT ρ,qS ρ,qR ρ]
def je (ρ:Type):Env ρ:=Ú L9 (tg ρ)
def Es:Ù:=⟨[ae,ae],[tI],fun(x:Val aY)=>lI x.1 x.2⟩
def ady:List (Nat×Ù):=[(168,N2)]
def KG (ρ:Type):List (Ý ρ):=[]
def UF (ρ:Type):Env ρ:=Ú ady (KG ρ)
def ZN:Ù:=⟨[Å,Ð,tI],[.bool],fun(x:Val (.pair Å (.pair Ð tI)))=>Ht x.1 x.2.1 x.2.2⟩
def Ss:Ê:={pin:=0,cs:=[tI,tI,tI,ac,aa,af,ab,aa,tI,tI,tI,tI,tI,tI,tI,tI],vs:=[tI],head:=⟨76,[.any,.any,.con tI,.box 0 0,.box 1 0,.any,.any,.var tI],[bj,bm]⟩,exits:=[(.ret,⟨76,[.any,.any,.con tI,.box 0 0,.box 1 0,.any,.var .bool],[bj,bm]⟩,[.bool]),(.exit 0,⟨76,[.any,.any,.con tI,.box 0 0,.box 1 0],[bj,bm]⟩,[])]}
def BB (ρ:Type):Ý ρ:=⟨[],169,0,Ss,fun(p:Val aB) (v:Val tI) b a=>qU p.1 p.2.2.2.2.2.2.1 p.2.2.2.2.2.2.2.2.1 v (fun c=>b c) (a 0) (a 1)⟩
def Sr:Ê:={pin:=0,cs:=[tI,tI,tI,ac,aa,af,ab,aa,tI,tI,tI,tI,tI,tI,tI,tI],vs:=[tI],head:=⟨76,aN 2 (.con tI::.box 0 0::.box 1 0::aN 4 [.var tI]),[bj,bm]⟩,exits:=[(.ret,⟨76,[.any,.any,.con tI,.box 0 0,.box 1 0,.any,.var .bool],[bj,bm]⟩,[.bool]),(.exit 2,⟨76,[.any,.any,.con tI,.box 0 0,.box 1 0],[bj,bm]⟩,[])]}
def BA (ρ:Type):Ý ρ:=⟨[],169,2,Sr,fun(p:Val aB) (v:Val tI) b a=>nt p.1 p.2.2.2.2.2.2.2.1 p.2.2.2.2.2.2.2.2.1 v (fun c=>b c) (a 0) (a 1)⟩
def aaw:List (Nat×Ù):=[(158,Es)]
def EZ (ρ:Type):List (Ý ρ):=[BB ρ,BA ρ]
def uY (ρ:Type):Env ρ:=Ú aaw (EZ ρ)
def sX:Ù:=⟨[Å],[aa],fun(x:Val Å)=>jD x⟩
def OZ:Ê:={pin:=0,cs:=[tI,tI,ac,aa,af,ab,aa],vs:=[tI,ae],head:=⟨114,[.any,.box 0 0,.any,.own 1,.var tI],cH⟩,exits:=[(.exit 0,⟨114,[.any,.box 0 0,.any,.own 1],cH⟩,[ae])]}
def yd (ρ:Type):Ý ρ:=⟨[],102,0,OZ,fun(p:Val ai) (v:Val ar) a b=>oK p.2.2.1 v.1 v.2 (fun c d=>a (c,d)) (b 0)⟩
def OY:Ê:={pin:=0,cs:=[tI,tI,ac,aa,af,ab,aa],vs:=[tI,ae],head:=⟨114,[.any,.box 0 0,.any,.own 1,.any,.var tI],cH⟩,exits:=[(.exit 2,⟨114,[.any,.box 0 0,.any,.own 1],cH⟩,[ae])]}
def yc (ρ:Type):Ý ρ:=⟨[],102,2,OY,fun(p:Val ai) (v:Val ar) a b=>oJ p.2.2.2.2.2.1 v.1 v.2 (fun c d=>a (c,d)) (b 0)⟩
def OX:Ê:={pin:=0,cs:=[tI,tI,ac,aa,af,ab,aa],vs:=[tI,ae],head:=⟨114,[.any,.box 0 0,.any,.own 1,.any,.any,.var tI],cH⟩,exits:=[(.exit 4,⟨114,[.any,.box 0 0,.any,.own 1],cH⟩,[ae])]}
def yb (ρ:Type):Ý ρ:=⟨[],102,4,OX,fun(p:Val ai) (v:Val ar) a b=>oI p.2.2.2.2.2.2 v.1 v.2 (fun c d=>a (c,d)) (b 0)⟩
def xW:Ê:={pin:=0,cs:=[tI,tI,tI,tI,ac,aa,af,ab,aa,ae,aa],vs:=[tI,tI],head:=⟨114,[.any,.box 0 0,.any,.own 1,.any,.any,.any,.own 2,.con tI,.con tI,.var tI,.var tI],[bj,.rowc tI,.rowc Ã]⟩,exits:=[(.exit 10,⟨114,[.any,.box 0 0,.any,.own 1,.any,.any,.any,.own 2,.con tI,.con tI,.var tI],[bj,.rowc tI,.rowc Ã]⟩,[tI])]}
def xV (ρ:Type):Ý ρ:=⟨[],102,10,xW,fun(p:Val (tyL xW.cs)) (v:Val Ã) a b=>lh p.2.1 p.2.2.2.2.2.2.2.2.2.1 v.1 v.2 (fun c d=>a (c,d)) (b 0)⟩
def xY:Ê:={pin:=0,cs:=[tI,tI,tI,ac,aa,af,ab,aa,ae],vs:=[tI,aa],head:=⟨114,[.any,.box 0 0,.any,.own 1,.any,.any,.any,.own 2,.con tI,.var tI],cI⟩,exits:=[(.exit 8,⟨114,[.any,.box 0 0,.any,.own 1,.any,.any,.any,.own 2,.con tI],cI⟩,[aa])]}
def xX (ρ:Type):Ý ρ:=⟨[],102,8,xY,fun(p:Val (tyL xY.cs)) (v:Val aF) a b=>let A:=p.2.2.2.2;lm p.1 p.2.1 p.2.2.1 p.2.2.2.1 A.1 A.2.1 A.2.2.1 A.2.2.2.1 A.2.2.2.2 v.1 v.2 (fun c d=>a (c,d)) (b 0)⟩
def ya:Ê:={pin:=0,cs:=[tI,tI,ac,aa,af,ab,aa,ae],vs:=[tI,aa],head:=⟨114,[.any,.box 0 0,.any,.own 1,.any,.any,.any,.own 2,.var tI],cI⟩,exits:=[(.exit 6,⟨114,[.any,.box 0 0,.any,.own 1,.any,.any,.any,.own 2],cI⟩,[aa])]}
def xZ (ρ:Type):Ý ρ:=⟨[],102,6,ya,fun(p:Val (tyL ya.cs)) (v:Val aF) a b=>let A:=p.2.2.2.2;oH p.1 p.2.1 p.2.2.1 p.2.2.2.1 A.1 A.2.1 A.2.2.1 A.2.2.2 v.1 v.2 (fun c d=>a (c,d)) (b 0)⟩
def WP:List (Nat×Ù):=[(169,ZN)]
def BK (ρ:Type):List (Ý ρ):=[yd ρ,yc ρ,yb ρ,xV ρ,xX ρ,xZ ρ]
def iv (ρ:Type):Env ρ:=Ú WP (BK ρ)
def sY:Ù:=⟨[Å,Ã],[tI],fun(x:Val aC)=>ĥ x.1 x.2⟩
def O8:Ê:={pin:=0,cs:=[aa,tI,tI],vs:=[tI],head:=⟨23,[.any,.any,.any,.box 0 0,.any,.con aa,.var tI],[br]⟩,exits:=[(.ret,⟨23,[.any,.any,.any,.box 0 0,.var tI,.con aa],[br]⟩,[tI]),(.exit 0,⟨23,[.any,.any,.any,.box 0 0,.any,.con aa],[br]⟩,[])]}
def ye (ρ:Type):Ý ρ:=⟨[],52,0,O8,fun(p:Val aV) (v:Val tI) b a=>oL p.1 p.2.1 p.2.2 v (fun c=>b c) (a 0) (a 1)⟩
def WU:List (Nat×Ù):=[(102,sX)]
def BP (ρ:Type):List (Ý ρ):=[ye ρ]
def yf (ρ:Type):Env ρ:=Ú WU (BP ρ)
def ZP:Ù:=⟨[Å,tI,tI],[.bool],fun(x:Val aC)=>Hu x.1 x.2.1 x.2.2⟩
def Su:Ê:={pin:=0,cs:=[tI,tI,tI,tI,ac,aa,af,ab,aa],vs:=[tI],head:=⟨33,[.any,.con tI,.con tI,.box 0 0,.any,.any,.any,.var tI],[bj]⟩,exits:=[(.ret,⟨33,[.any,.con tI,.con tI,.box 0 0,.any,.any,.var .bool],[bj]⟩,[.bool]),(.exit 0,⟨33,[.any,.con tI,.con tI,.box 0 0],[bj]⟩,[])]}
def BC (ρ:Type):Ý ρ:=⟨[],212,0,Su,fun(p:Val (.pair tI aD)) (v:Val tI) b a=>qV p.1 p.2.1 p.2.2.2.2.2.1 v (fun c=>b c) (a 0) (a 1)⟩
def aay:List (Nat×Ù):=[]
def E5 (ρ:Type):List (Ý ρ):=[BC ρ]
def Dh (ρ:Type):Env ρ:=Ú aay (E5 ρ)
def ZT:Ù:=⟨[Å,tI,tI,tI],[tI],fun(x:Val (.pair Å Ĉ))=>un x.1 x.2.1 x.2.2.1 x.2.2.2⟩
def BM:Ê:={pin:=0,cs:=[tI,tI,tI,tI,tI,ac,aa,af,ab,aa],vs:=[tI,tI],head:=⟨48,.any::.con tI::.any::.con tI::.box 0 0::aN 4 [.con tI,.var tI,.var tI],[bj]⟩,exits:=[(.exit 0,⟨48,.any::.con tI::.any::.con tI::.box 0 0::aN 4 [.con tI,.var tI],[bj]⟩,[tI])]}
def BL (ρ:Type):Ý ρ:=⟨[],170,0,BM,fun(p:Val (tyL BM.cs)) (v:Val Ã) a b=>let A:=p.2.2.2.2;qX p.1 p.2.1 p.2.2.1 p.2.2.2.1 A.1 A.2.1 A.2.2.1 A.2.2.2.1 A.2.2.2.2.1 A.2.2.2.2.2 v.1 v.2 (fun c d=>a (c,d)) (b 0)⟩
def aaD:List (Nat×Ù):=[(166,xC),(167,N1),(212,ZP)]
def Fh (ρ:Type):List (Ý ρ):=[BL ρ]
def Dj (ρ:Type):Env ρ:=Ú aaD (Fh ρ)
def CZ:Ù:=⟨[tI,tI],[Ĵ],fun(x:Val Ã)=>qo x.1 x.2⟩
def SP:List (Nat×Ù):=[(209,V3),(210,V4)]
def yx (ρ:Type):List (Ý ρ):=[]
def Fr (ρ:Type):Env ρ:=Ú SP (yx ρ)
def afy:Ù:=⟨[Ã,Ã],[Ĵ],fun(x:Val è)=>Yy x.1 x.2⟩
def adK:List (Nat×Ù):=[(285,CZ)]
def KW (ρ:Type):List (Ý ρ):=[]
def UK (ρ:Type):Env ρ:=Ú adK (KW ρ)
def afw:Ù:=⟨[Ã],[Ã],fun(x:Val Ã)=>Yx x⟩
def adH:List (Nat×Ù):=[]
def KS (ρ:Type):List (Ý ρ):=[]
def UI (ρ:Type):Env ρ:=Ú adH (KS ρ)
def afv:Ù:=⟨[Ã,Ã],[Ĵ],fun(x:Val è)=>Nw x.1 x.2⟩
def adG:List (Nat×Ù):=[(268,afy),(269,afw)]
def KQ (ρ:Type):List (Ý ρ):=[]
def UH (ρ:Type):Env ρ:=Ú adG (KQ ρ)
def Uo:Ù:=⟨[Å,tI],[Ã],fun(x:Val aG)=>uj x.1 x.2⟩
def WB:List (Nat×Ù):=[(166,xC)]
def By (ρ:Type):List (Ý ρ):=[]
def KH (ρ:Type):Env ρ:=Ú WB (By ρ)
def ZW:Ù:=⟨[Ĵ,Ĵ],[sS],fun(x:Val (.pair Ĵ Ĵ))=>Hw x.1 x.2⟩
def aaN:List (Nat×Ù):=[]
def Ft (ρ:Type):List (Ý ρ):=[]
def Ps (ρ:Type):Env ρ:=Ú aaN (Ft ρ)
def afx:Ù:=⟨[Ã,Ã],[Ĵ],fun(x:Val è)=>we x.1 x.2⟩
def adI:List (Nat×Ù):=[(285,CZ)]
def KT (ρ:Type):List (Ý ρ):=[]
def UJ (ρ:Type):Env ρ:=Ú adI (KT ρ)
def Us:Ù:=⟨[è,Ã],[sS],fun(x:Val (.pair è Ã))=>AC x.1 x.2⟩
def W9:List (Nat×Ù):=[(270,ZW),(271,afx)]
def BW (ρ:Type):List (Ý ρ):=[]
def KR (ρ:Type):Env ρ:=Ú W9 (BW ρ)
def CY:Ù:=⟨[Å,É],[è],fun(x:Val aA)=>mJ x.1 x.2⟩
def SJ:List (Nat×Ù):=[(158,Es),(242,afv),(243,Uo),(244,Us)]
def yg (ρ:Type):List (Ý ρ):=[]
def Fp (ρ:Type):Env ρ:=Ú SJ (yg ρ)
def Ip:Ù:=⟨[Å,É],[Ã],fun(x:Val aA)=>pq x.1 x.2⟩
def WY:List (Nat×Ù):=[]
def BS (ρ:Type):List (Ý ρ):=[]
def KN (ρ:Type):Env ρ:=Ú WY (BS ρ)
def aiA:Ù:=⟨[tI,tI],[tI],fun(x:Val Ã)=>aer x.1 x.2⟩
def ag3:List (Nat×Ù):=[]
def Po (ρ:Type):List (Ý ρ):=[]
def aaL (ρ:Type):Env ρ:=Ú ag3 (Po ρ)
def N4:Ù:=⟨[Ã],[tI],fun(x:Val Ã)=>zB x⟩
def aaS:List (Nat×Ù):=[(245,aiA)]
def Fv (ρ:Type):List (Ý ρ):=[]
def Pv (ρ:Type):Env ρ:=Ú aaS (Fv ρ)
def ZV:Ù:=⟨[tI,tI],[tI],fun(x:Val Ã)=>Q6 x.1 x.2⟩
def aaM:List (Nat×Ù):=[]
def Fs (ρ:Type):List (Ý ρ):=[]
def Pq (ρ:Type):Env ρ:=Ú aaM (Fs ρ)
def Ir:Ù:=⟨[Ã],[tI],fun(x:Val Ã)=>ur x⟩
def Xe:List (Nat×Ù):=[(246,ZV)]
def BX (ρ:Type):List (Ý ρ):=[]
def KV (ρ:Type):Env ρ:=Ú Xe (BX ρ)
def ZQ:Ù:=⟨[Å,É],[Ã],fun(x:Val aA)=>jn x.1 x.2⟩
def aaA:List (Nat×Ù):=[(205,CY),(206,Ip),(207,N4),(208,Ir)]
def Fc (ρ:Type):List (Ý ρ):=[]
def OP (ρ:Type):Env ρ:=Ú aaA (Fc ρ)
def V2:Ù:=⟨[Å],[wA],fun(x:Val Å)=>oU x⟩
def WH:Ê:={pin:=0,cs:=[aa,tI,tI,tI,ac,aa,af,ab,aa,tI,tI,tI,tI,tI,tI,tI,tI],vs:=[tI,ah,aa],head:=⟨182,[.any,.box 0 0,.box 1 0,.box 2 0,.con aa,.con tI,.box 3 0,.var tI],[bj,bQ,.cells [.own 4,.own 5],bm,.rowv Ĉ,.rowv Ã]⟩,exits:=[(.exit 2,⟨182,[.any,.box 0 0,.box 1 0,.box 2 0,.con aa,.con tI,.box 3 0],[bj,bQ,.cells [.own 4,.own 5],bm,.rowv Ĉ,.rowv Ã]⟩,[ah,aa])]}
def E7 (ρ:Type):Ý ρ:=⟨[],103,2,WH,fun(p:Val (.pair aa aB)) (v:Val aM) a b=>let A:=p.2.2.2.2;let B:=A.2.2.2.2;kj p.1 p.2.1 p.2.2.1 p.2.2.2.1 A.1 A.2.1 A.2.2.1 A.2.2.2.1 B.1 B.2.1 B.2.2.1 B.2.2.2.1 B.2.2.2.2.1 B.2.2.2.2.2.1 v.1 v.2.1 v.2.2 (fun c d e=>a (c,d,e)) (b 0)⟩
def WJ:Ê:={pin:=0,cs:=[aa,tI,tI,ac,aa,af,ab,aa],vs:=[tI,ah,aa],head:=⟨182,[.any,.box 0 0,.box 1 0,.box 2 0,.con aa,.var tI],cJ⟩,exits:=[(.exit 0,⟨182,[.any,.box 0 0,.box 1 0,.box 2 0,.con aa],cJ⟩,[ah,aa])]}
def E8 (ρ:Type):Ý ρ:=⟨[],103,0,WJ,fun(p:Val (.pair aa ai)) (v:Val aM) a b=>let A:=p.2.2.2.2;mr p.1 p.2.1 p.2.2.1 p.2.2.2.1 A.1 A.2.1 A.2.2.1 A.2.2.2 v.1 v.2.1 v.2.2 (fun c d e=>a (c,d,e)) (b 0)⟩
def WG:Ê:={pin:=0,cs:=[tI,tI,ac,aa,af,ab,aa],vs:=[tI,ah,aa],head:=⟨182,.any::.box 0 0::.box 1 0::.box 2 0::aN 5 [.var tI],cJ⟩,exits:=[(.exit 4,⟨182,[.any,.box 0 0,.box 1 0,.box 2 0],cJ⟩,[ah,aa])]}
def E6 (ρ:Type):Ý ρ:=⟨[],103,4,WG,fun(p:Val ai) (v:Val aM) a b=>let A:=p.2.2.2.2;mq p.1 p.2.1 p.2.2.1 p.2.2.2.1 A.1 A.2.1 A.2.2 v.1 v.2.1 v.2.2 (fun c d e=>a (c,d,e)) (b 0)⟩
def adz:List (Nat×Ù):=[(52,sY),(102,sX),(158,Es),(170,ZT),(171,ZQ)]
def KJ (ρ:Type):List (Ý ρ):=[E7 ρ,E8 ρ,E6 ρ]
def tj (ρ:Type):Env ρ:=Ú adz (KJ ρ)
def Ab:Ù:=⟨[Å],[tI],fun(x:Val Å)=>iX x⟩
def Pg:Ê:={pin:=0,cs:=[tI,tI,ac,aa,af,ab,aa],vs:=[tI],head:=⟨170,[.any,.box 0 0,.any,.var tI],[bj]⟩,exits:=[(.ret,⟨170,[.any,.box 0 0,.var tI],[bj]⟩,[tI]),(.exit 0,⟨170,[.any,.box 0 0],[bj]⟩,[])]}
def yk (ρ:Type):Ý ρ:=⟨[],41,0,Pg,fun(p:Val ai) (v:Val tI) b a=>oN p.2.2.1 v (fun c=>b c) (a 0) (a 1)⟩
def Pe:Ê:={pin:=0,cs:=[tI,tI,tI,ac,aa,af,ab,aa],vs:=[tI],head:=⟨170,.any::.box 0 0::aN 4 [.con tI,.any,.var tI],[bj]⟩,exits:=[(.ret,⟨170,[.any,.box 0 0,.var tI,.any,.any,.any,.con tI],[bj]⟩,[tI]),(.exit 4,⟨170,.any::.box 0 0::aN 4 [.con tI],[bj]⟩,[])]}
def yi (ρ:Type):Ý ρ:=⟨[],41,4,Pe,fun(p:Val aD) (v:Val tI) b a=>oM p.1 p.2.2.2.2.2.2.1 v (fun c=>b c) (a 0) (a 1)⟩
def Pf:Ê:={pin:=0,cs:=[tI,tI,ac,aa,af,ab,aa],vs:=[tI],head:=⟨170,.any::.box 0 0::aN 4 [.var tI],[bj]⟩,exits:=[(.ret,⟨170,[.any,.box 0 0,.var tI],[bj]⟩,[tI]),(.exit 2,⟨170,[.any,.box 0 0],[bj]⟩,[])]}
def yj (ρ:Type):Ý ρ:=⟨[],41,2,Pf,fun(p:Val ai) (v:Val tI) b a=>let A:=p.2.2.2.2;jw p.1 p.2.1 p.2.2.1 p.2.2.2.1 A.1 A.2.1 A.2.2 v (fun c=>b c) (a 0) (a 1)⟩
def Pd:Ê:={pin:=0,cs:=[tI,tI,ac,aa,af,ab,aa],vs:=[tI],head:=⟨170,.any::.box 0 0::aN 7 [.var tI],[bj]⟩,exits:=[(.ret,⟨170,[.any,.box 0 0,.var tI],[bj]⟩,[tI]),(.exit 6,⟨170,[.any,.box 0 0],[bj]⟩,[])]}
def yh (ρ:Type):Ý ρ:=⟨[],41,6,Pd,fun(p:Val ai) (v:Val tI) b a=>let A:=p.2.2.2.2;jv p.1 p.2.1 p.2.2.1 p.2.2.2.1 A.1 A.2.1 A.2.2 v (fun c=>b c) (a 0) (a 1)⟩
def W0:List (Nat×Ù):=[(94,ng),(95,Up),(96,ZM),(97,Un),(98,Um),(99,Et),(100,Eu),(101,sW),(102,sX),(103,V2)]
def BT (ρ:Type):List (Ý ρ):=[yk ρ,yi ρ,yj ρ,yh ρ]
def kD (ρ:Type):Env ρ:=Ú W0 (BT ρ)
def uN:Ù:=⟨[Å],[Í],fun(x:Val Å)=>ο x⟩
def Sy:List (Nat×Ù):=[(102,sX),(103,V2)]
def xT (ρ:Type):List (Ý ρ):=[]
def E9 (ρ:Type):Env ρ:=Ú Sy (xT ρ)
def ZU:Ù:=⟨[Å,Ã],[Å,tI],fun(x:Val aC)=>uq x.1 x.2⟩
def aaE:List (Nat×Ù):=[(41,Ab)]
def Fk (ρ:Type):List (Ý ρ):=[]
def O2 (ρ:Type):Env ρ:=Ú aaE (Fk ρ)
def Iq:Ù:=⟨[Í],[am,.bool],fun(x:Val Í)=>pr x⟩
def yv:Ê:={pin:=1,cs:=[tI,tI,tI,ah,am],vs:=[tI,ae],head:=⟨33,[.con tI,.any,.any,.dp 1,.con tI,.own 2,.var tI],[bt,.deepc .i64,.rowv tI]⟩,exits:=[(.exit 2,⟨33,[.con tI,.any,.any,.dp 1,.con tI,.own 2],[bt,.deepc .i64,.rowv tI]⟩,[ae])]}
def yu (ρ:Type):Ý ρ:=⟨[1,2],115,2,yv,fun(p:Val (tyL yv.cs)) (v:Val ar) a b=>lu p.1 p.2.1 v.1 v.2 (fun c d=>a (c,d)) (b 0)⟩
def Pn:Ê:={pin:=1,cs:=[tI,tI,ah],vs:=[tI,am],head:=⟨33,[.con tI,.any,.any,.dp 1,.var tI],cM⟩,exits:=[(.exit 0,⟨33,[.con tI,.any,.any,.dp 1],cM⟩,[am])]}
def yw (ρ:Type):Ý ρ:=⟨[1,2],115,0,Pn,fun(p:Val aE) (v:Val aO) a b=>lv p.1 v.1 v.2 (fun c d=>a (c,d)) (b 0)⟩
def Pm:Ê:={pin:=0,cs:=[tI,ah],vs:=[tI,am],head:=⟨124,[.any,.box 0 0,.any,.any,.dp 1,.var tI],cM⟩,exits:=[(.exit 0,⟨124,[.any,.box 0 0,.any,.any,.dp 1],cM⟩,[am])]}
def yr (ρ:Type):Ý ρ:=⟨[],54,0,Pm,fun(p:Val Í) (v:Val aO) a b=>lr p.2 v.1 v.2 (fun c d=>a (c,d)) (b 0)⟩
def Pj:Ê:={pin:=0,cs:=[tI,tI,tI,ah],vs:=[tI,am],head:=⟨124,[.any,.box 0 0,.any,.any,.dp 1,.any,.any,.con tI,.con tI,.var tI],cM⟩,exits:=[(.exit 6,⟨124,[.any,.box 0 0,.any,.any,.dp 1,.any,.any,.con tI,.con tI],cM⟩,[am])]}
def yo (ρ:Type):Ý ρ:=⟨[],54,6,Pj,fun(p:Val (.pair tI aE)) (v:Val aO) a b=>lp p.1 p.2.1 p.2.2.1 v.1 v.2 (fun c d=>a (c,d)) (b 0)⟩
def Pk:Ê:={pin:=0,cs:=[tI,tI,ah],vs:=[tI,am],head:=⟨124,[.any,.box 0 0,.any,.any,.dp 1,.any,.any,.con tI,.var tI],cM⟩,exits:=[(.exit 4,⟨124,[.any,.box 0 0,.any,.any,.dp 1,.any,.any,.con tI],cM⟩,[am])]}
def yp (ρ:Type):Ý ρ:=⟨[],54,4,Pk,fun(p:Val aE) (v:Val aO) a b=>lq p.1 p.2.1 v.1 v.2 (fun c d=>a (c,d)) (b 0)⟩
def yn:Ê:={pin:=0,cs:=[tI,tI,ah,am],vs:=[tI],head:=⟨124,[.any,.box 0 0,.any,.any,.dp 1,.any,.any,.con tI,.any,.any,.var tI],[bt,.deepc .i64]⟩,exits:=[(.ret,⟨124,[.any,.box 0 0,.nils,.var .bool,.dp 1,.any,.any,.con tI],[bt,.deepc .i64]⟩,[.bool]),(.exit 8,⟨124,[.any,.box 0 0,.any,.any,.dp 1,.any,.any,.con tI],[bt,.deepc .i64]⟩,[])]}
def ym (ρ:Type):Ý ρ:=⟨[],54,8,yn,fun(p:Val (tyL yn.cs)) (v:Val tI) b a=>iE p.2.1 p.2.2.2 v (fun c=>b c) (a 0) (a 1)⟩
def Pl:Ê:={pin:=0,cs:=[tI,ah],vs:=[tI,am],head:=⟨124,[.any,.box 0 0,.any,.any,.dp 1,.any,.any,.var tI],cM⟩,exits:=[(.ret,⟨124,[.any,.box 0 0,.nils,.var .bool,.dp 1],cM⟩,[.bool,am]),(.exit 2,⟨124,[.any,.box 0 0,.any,.any,.dp 1],cM⟩,[am])]}
def yq (ρ:Type):Ý ρ:=⟨[],54,2,Pl,fun(p:Val Í) (v:Val aO) b a=>jx p.1 v.1 v.2 (fun c d=>b (c,d)) (a 0) (a 1)⟩
def W4:List (Nat×Ù):=[]
def BU (ρ:Type):List (Ý ρ):=[yu ρ,yw ρ,yr ρ,yo ρ,yp ρ,ym ρ,yq ρ]
def Χ (ρ:Type):Env ρ:=Ú W4 (BU ρ)
def ZL:Ù:=⟨[Å,aa],[pC],fun(x:Val (.pair Å aa))=>Hr x.1 x.2⟩
def Si:Ê:={pin:=0,cs:=[aa],vs:=[tI,tI,tI,ac,aa,af,ab,aa,tI,tI,tI,tI],head:=⟨59,[.any,.con aa,.box 0 0,.any,.box 1 0,.any,.var tI],[bC,bS]⟩,exits:=[(.ret,⟨59,[.any,.con aa,.box 0 0,.any,.box 1 0],[bC,bS]⟩,[tI,tI,ac,aa,af,ab,aa,tI,tI,tI,tI]),(.exit 0,⟨59,[.any,.con aa,.box 0 0,.any,.box 1 0],[bC,bS]⟩,[tI,tI,ac,aa,af,ab,aa,tI,tI,tI,tI])]}
def Bs (ρ:Type):Ý ρ:=⟨[],15,0,Si,fun(p:Val aa) (v:Val (.pair tI aw)) b a=>nq p v.1 v.2.1 v.2.2.1 v.2.2.2.1 v.2.2.2.2.1 v.2.2.2.2.2.1 v.2.2.2.2.2.2.1 v.2.2.2.2.2.2.2.1 v.2.2.2.2.2.2.2.2.1 v.2.2.2.2.2.2.2.2.2.1 v.2.2.2.2.2.2.2.2.2.2.1 v.2.2.2.2.2.2.2.2.2.2.2 (fun c d e f g h i j k l m n=>b (c,d,e,f,g,h,i,j,k,l,m,n)) (a 0) (a 1)⟩
def aas:List (Nat×Ù):=[(41,Ab),(43,uN),(52,sY),(53,ZU),(54,Iq)]
def ES (ρ:Type):List (Ý ρ):=[Bs ρ]
def Db (ρ:Type):Env ρ:=Ú aas (ES ρ)
def N0:Ù:=⟨[Å,É],[Å],fun(x:Val aA)=>uh x.1 x.2⟩
def aav:List (Nat×Ù):=[]
def EU (ρ:Type):List (Ý ρ):=[]
def OB (ρ:Type):Env ρ:=Ú aav (EU ρ)
def ZO:Ù:=⟨[Å,É],[Å,tI],fun(x:Val aA)=>uk x.1 x.2⟩
def aax:List (Nat×Ù):=[(41,Ab),(156,N0)]
def E4 (ρ:Type):List (Ý ρ):=[]
def OJ (ρ:Type):Env ρ:=Ú aax (E4 ρ)
def ZS:Ù:=⟨[Í],[.bool],fun(x:Val Í)=>Hv x⟩
def SC:Ê:={pin:=0,cs:=[tI,tI,ah],vs:=[.bool,tI,ae],head:=⟨60,[.any,.box 0 0,.any,.own 1,.var .bool,.con tI,.var tI],bZ⟩,exits:=[(.exit 2,⟨60,[.any,.box 0 0,.any,.own 1,.var .bool,.con tI],bZ⟩,[.bool,ae])]}
def BI (ρ:Type):Ý ρ:=⟨[],157,2,SC,fun(p:Val aE) (v:Val aZ) a b=>nu p.2.2 v.1 v.2.1 v.2.2 (fun c d e=>a (c,d,e)) (b 0)⟩
def SD:Ê:={pin:=0,cs:=[tI,ah],vs:=[.bool,tI,ae],head:=⟨60,[.any,.box 0 0,.any,.own 1,.var .bool,.var tI],bZ⟩,exits:=[(.exit 0,⟨60,[.any,.box 0 0,.any,.own 1,.var .bool],bZ⟩,[.bool,ae])]}
def BJ (ρ:Type):Ý ρ:=⟨[],157,0,SD,fun(p:Val Í) (v:Val aZ) a b=>nv p.1 p.2 v.1 v.2.1 v.2.2 (fun c d e=>a (c,d,e)) (b 0)⟩
def aaC:List (Nat×Ù):=[]
def Fg (ρ:Type):List (Ý ρ):=[BI ρ,BJ ρ]
def vc (ρ:Type):Env ρ:=Ú aaC (Fg ρ)
def Uq:Ù:=⟨[Å,É,tI],[Ã],fun(x:Val (.pair Å (.pair É tI)))=>kH x.1 x.2.1 x.2.2⟩
def WL:List (Nat×Ù):=[(205,CY),(206,Ip),(207,N4),(208,Ir)]
def BF (ρ:Type):List (Ý ρ):=[]
def KL (ρ:Type):Env ρ:=Ú WL (BF ρ)
def N3:Ù:=⟨[Í,tI],[ae],fun(x:Val (.pair Í tI))=>qn x.1 x.2⟩
def Mp:Ê:={pin:=0,cs:=[tI,tI,ah],vs:=[tI,ae],head:=⟨82,[.any,.con tI,.box 0 0,.any,.any,.own 1,.var tI],bZ⟩,exits:=[(.exit 0,⟨82,[.any,.con tI,.box 0 0,.any,.any,.own 1],bZ⟩,[ae])]}
def wK (ρ:Type):Ý ρ:=⟨[],160,0,Mp,fun(p:Val aE) (v:Val ar) a b=>mV p.2.1 v.1 v.2 (fun c d=>a (c,d)) (b 0)⟩
def Mn:Ê:={pin:=0,cs:=[tI,tI,ah],vs:=[.bool,tI,ae],head:=⟨82,[.any,.any,.box 0 0,.any,.any,.own 1,.any,.var .bool,.con tI,.var tI],bZ⟩,exits:=[(.exit 4,⟨82,[.any,.any,.box 0 0,.any,.any,.own 1,.any,.var .bool,.con tI],bZ⟩,[.bool,ae])]}
def wI (ρ:Type):Ý ρ:=⟨[],160,4,Mn,fun(p:Val aE) (v:Val aZ) a b=>jS p.2.2 v.1 v.2.1 v.2.2 (fun c d e=>a (c,d,e)) (b 0)⟩
def Mo:Ê:={pin:=0,cs:=[tI,ah],vs:=[.bool,tI,ae],head:=⟨82,[.any,.any,.box 0 0,.any,.any,.own 1,.any,.var .bool,.var tI],bZ⟩,exits:=[(.exit 2,⟨82,[.any,.any,.box 0 0,.any,.any,.own 1],bZ⟩,[ae])]}
def wJ (ρ:Type):Ý ρ:=⟨[],160,2,Mo,fun(p:Val Í) (v:Val aZ) a b=>jT p.1 p.2 v.1 v.2.1 v.2.2 (fun c d e=>a (c,d,e)) (b 0)⟩
def SN:List (Nat×Ù):=[]
def yl (ρ:Type):List (Ý ρ):=[wK ρ,wI ρ,wJ ρ]
def ln (ρ:Type):Env ρ:=Ú SN (yl ρ)
def Ky:Ù:=⟨[Å,É],[Ã,tI],fun(x:Val aA)=>kI x.1 x.2⟩
def OQ:List (Nat×Ù):=[(43,uN),(52,sY),(156,N0),(157,ZS),(158,Es),(159,Uq),(160,N3)]
def wH (ρ:Type):List (Ý ρ):=[]
def BG (ρ:Type):Env ρ:=Ú OQ (wH ρ)
def Kx:Ù:=⟨[pC,Ã,É],[sR],fun(x:Val (.pair pC aI))=>nP x.1 x.2.1 x.2.2⟩
def Ox:List (Nat×Ù):=[(43,uN),(52,sY),(54,Iq),(89,ZO),(90,Ky)]
def wF (ρ:Type):List (Ý ρ):=[]
def Bt (ρ:Type):Env ρ:=Ú Ox (wF ρ)
def wC:Ù:=⟨[kR,Ã],[.bool],fun(x:Val (.pair kR Ã))=>ť x.1 x.2⟩
def Da:List (Nat×Ù):=[]
def oq (ρ:Type):List (Ý ρ):=[]
def qP (ρ:Type):Env ρ:=Ú Da (oq ρ)
def jr:Ù:=⟨[Å,Ã,Ã,É],[.bool],fun(x:Val bc)=>mH x.1 x.2.1 x.2.2.1 x.2.2.2⟩
def A3:List (Nat×Ù):=[(10,aft),(11,NZ),(15,ZL),(30,Im),(35,C2),(36,Kx),(37,wC)]
def nj (ρ:Type):List (Ý ρ):=[]
def pL (ρ:Type):Env ρ:=Ú A3 (nj ρ)
end Go.Proofs.ZzM
end
