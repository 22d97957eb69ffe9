/- lemmas -/
import Derived.Test.YtmadligicacpkaaGreatAmF
import Derived.KernelRfl
import Derived.Test.YtmadligicacpkaaGreatMdTA
import Derived.Test.YtmadligicacpkaaGreatProg
set_option linter.all false
set_option linter.unusedSectionVars false
set_option linter.unusedVariables false
set_option linter.unusedSimpArgs false
noncomputable section
set_option maxRecDepth 100000
namespace Go.Proofs.ZzM
open Go Go.Am
def RX:Nat→Bool
  |116=>true
  |130=>true
  |253=>true
  |254=>true
  |255=>true
  |256=>true
  |257=>true
  |_=>false
def acZ:Nat→Bool
  |232=>true
  |_=>false
def Al:Nat→Bool
  |233=>true
  |_=>false
def isInl:Nat→Bool
  |2=>true
  |47=>true
  |79=>true
  |85=>true
  |87=>true
  |113=>true
  |115=>true
  |118=>true
  |119=>true
  |123=>true
  |124=>true
  |125=>true
  |126=>true
  |127=>true
  |128=>true
  |129=>true
  |134=>true
  |153=>true
  |155=>true
  |161=>true
  |172=>true
  |173=>true
  |174=>true
  |175=>true
  |176=>true
  |177=>true
  |178=>true
  |179=>true
  |180=>true
  |181=>true
  |182=>true
  |183=>true
  |184=>true
  |185=>true
  |186=>true
  |191=>true
  |195=>true
  |196=>true
  |201=>true
  |213=>true
  |214=>true
  |215=>true
  |217=>true
  |218=>true
  |220=>true
  |221=>true
  |223=>true
  |224=>true
  |225=>true
  |228=>true
  |229=>true
  |230=>true
  |234=>true
  |236=>true
  |237=>true
  |247=>true
  |249=>true
  |251=>true
  |260=>true
  |261=>true
  |272=>true
  |273=>true
  |274=>true
  |275=>true
  |276=>true
  |277=>true
  |279=>true
  |280=>true
  |286=>true
  |287=>true
  |289=>true
  |290=>true
  |292=>true
  |293=>true
  |296=>true
  |297=>true
  |299=>true
  |301=>true
  |302=>true
  |_=>false
def isFz:Nat→Bool
  |62=>true
  |81=>true
  |108=>true
  |_=>false
def isEat:Nat→Nat→Bool
  |24,4=>true
  |24,5=>true
  |47,67=>true
  |115,30=>true
  |147,8=>true
  |147,11=>true
  |153,25=>true
  |225,0=>true
  |_,_=>false
def Ý {ρ:Type} (pt:List (Nat×Ü)) (tab:List (ß ρ)):Env ρ :=
  {P:=Tryz.prog,eat:=isEat,clone:=RX,sort:=acZ,compact:=Al,inl:=isInl,fz:=isFz,pure:=aiM pt,loops:=pz tab}
def aoG {ρ:Type} (pt:List (Nat×Ü)) (tab:List (ß ρ)) (us:List amH):Env ρ :=
  {P:=Tryz.prog,eat:=isEat,clone:=RX,sort:=acZ,compact:=Al,inl:=isInl,fz:=isFz,pure:=aiM pt,loops:=acS (Ý pt tab) us}
abbrev bm:jr:=.cells [.con tI,.con tI,.con ac,.con aa,.con af,.con ab,.con aa]
abbrev bn:jr:=.cells [.con tI,.con tI,.con tI,.con tI,.con tI,.con tI,.con tI,.con tI]
abbrev bo:jr:=.cells [.con tI,.con tI,.con tI,.con tI]
abbrev bp:jr:=.cells [.con ae]
abbrev bq:jr:=.cells [.con tI]
abbrev br:jr:=.cells [.con tI,.con tI,.con ae,.con ae,.con tI,.con tI,.con tI,.con tI]
abbrev bt:jr:=.cells [.con tI,.con tI]
abbrev bu:jr:=.cells [.con tI,.con ah]
abbrev bv:jr:=.cells [.own 6]
abbrev bw:jr:=.cells [.con tI,.con tI,.con ac,.con aa,.con af,.con ab,.con aa,.con aa,.con tI,.own 3,.own 4]
abbrev bz:jr:=.cells [.con tI,.con tI,.con ac,.con aa,.con af,.con ab,.con aa,.con aa,.con tI,.own 2,.own 3]
abbrev bB:jr:=.cells [.con tI,.con tI,.nils,.nils,.nils,.nils,.nils]
abbrev bC:jr:=.cells [.con tI,.con tI,.own 9,.own 10,.own 11,.con ab,.own 12]
abbrev bD:jr:=.cells [.var tI,.var tI,.var ac,.var aa,.var af,.var ab,.var aa]
abbrev bE:jr:=.cells [.con tI,.con tI,.nils,.nils,.nils,.nils,.nils,.con tI,.con tI,.con .bool,.con tI,.nils]
abbrev bG:jr:=.cells [.con tI,.con tI,.own 11,.own 12,.own 13,.con ab,.own 14]
abbrev bH:jr:=.cells [.con tI,.con tI,.con ac,.con aa,.con af,.con ab,.con aa,.con tI,.own 6]
abbrev bI:jr:=.cells [.con tI,.con tI,.con tI]
abbrev bJ:jr:=.cells [.omp 3]
abbrev bK:jr:=.cells [.con ac]
abbrev bL:jr:=.cells [.fn 172 []]
abbrev bM:jr:=.cells [.con aa]
abbrev bN:jr:=.cells [.fn 173 [(2,0)]]
abbrev bO:jr:=.cells [.con af]
abbrev bP:jr:=.cells [.fn 174 [(2,0)]]
abbrev bQ:jr:=.cells [.var tI,.var tI,.var tI,.var tI]
abbrev bR:jr:=.cells [.nils,.nils]
abbrev bS:jr:=.cells [.own 3,.own 4]
abbrev bT:jr:=.cells [.var tI,.var tI,.nils,.nils,.nils,.nils,.nils,.var tI,.nils,.nils,.var tI]
abbrev bU:List jr:=[bn,.rowv tI]
abbrev bV:List jr:=[bm,bo]
abbrev bW:List jr:=[bm,br,.rowc tI]
abbrev bX:List jr:=[bu,.rowc tI,bu,bv,.rowv .bool,.rowc tI,.rowv tI]
abbrev bY:List jr:=[bu,.rowv tI,bu,bv,.rowv .bool,.rowc tI,.rowv tI]
abbrev bZ:List jr:=[bu,.rowv tI,bu,bv,.rowv .bool,.rowv tI,.rowv tI]
abbrev ca:List jr:=[bu,.rowv tI]
abbrev cd:List jr:=[bm,bz,.rowv ú,.rowv Ä]
abbrev ce:List jr:=[bm,bt,bB,bm,bB,.dead,bC,bB,.rowv Ê,.rowc Ó,.rowc Ä,.rowc ő,.rowc Ä]
abbrev cf:List jr:=[bm,bt,bt,.rowc Ä,bD]
abbrev cg:List jr:=[bm,bt,bt,bt,.rowc Ä,bD]
abbrev ci:List jr:=[.rowc ae,bu,.dead,.dead,.rowv tI]
abbrev cj:List jr:=[bu,bq,bq,bu,.rowv tI]
abbrev cm:List jr:=[bm,.dead,.dead,bE,.rowc Ä,bD]
abbrev cn:List jr:=[bm,.dead,.dead,bE,.rowc Ä,bm,bu,.dead,.rowf Ä 0,bm,bm]
abbrev cp:List jr:=[bm,br,bB,.dead,.dead,bm,bB,.dead,bG,bB,.rowv Ê,.rowc Ó,.rowc Ä,.rowc ő,.rowc Ä]
abbrev cq:List jr:=[bm,bt,br,.rowc Ä,bD]
abbrev cr:List jr:=[bm,bt,bt,br,.rowc Ä,bD]
abbrev cu:List jr:=[bm,bt,bt,br,.rowc Ä,bm,bu,.dead,bn,.rowf ae 0,.rowf ae 0,.rowf ae 0]
abbrev cw:List jr:=[bu,.rowc am,bI,bu,.rowv tI]
abbrev cz:List jr:=[bm,bm,bJ,.mapc tI .bool,br,br]
abbrev cA:List jr:=[bm,bm,bJ,.mapc tI .bool,br]
abbrev cB:List jr:=[bm,bm,bJ,.mapc tI .bool]
abbrev cD:List jr:=[bm,bm,bJ,.mapc tI .bool,bK,bL]
abbrev cE:List jr:=[bm,bm,bJ,.mapc tI .bool,bK,bL,bM,bN]
abbrev cF:List jr:=[bm,bm,bJ,.mapc tI .bool,bK,bL,bM,bN,bM,bN]
abbrev cG:List jr:=[bm,bm,bJ,.mapc tI .bool,bK,bL,bM,bN,bM,bN,bO,bP]
abbrev cH:List jr:=[bm,bm,bJ,.mapc tI .bool,bK,bL,bM,bN,bM,bN,bO,bP,bO,bP]
abbrev cI:List jr:=[bm,.rowv tI]
abbrev cJ:List jr:=[bm,.rowc tI,.rowv Ä]
abbrev cM:List jr:=[bm,bR,bS,.rowv ú,.rowv Ä]
abbrev cN:List jr:=[bu,.deepv .i64]
def Ũ:Ü:=⟨[am],[ae],fun(x:Val am)=>õ x⟩
def lK:Ë:={pin:=0,cs:=[am,am,tI],vs:=[tI,tI],head:=⟨36,.con am::aN 2 (.var tI::aN 5 [.con am,.con tI,.var tI]),[]⟩,exits:=[(.exit 0,⟨36,.con am::aN 2 (.var tI::aN 5 [.con am,.con tI]),[]⟩,[tI])]}
def lJ (ρ:Type):ß ρ:=⟨[],81,0,lK,fun(p:Val (tyL lK.cs)) (v:Val Ä) a b=>Ł p.2.1 p.2.2 v.1 v.2 (fun c d=>a (c,d)) (b 0)⟩
def vM:Ë:={pin:=0,cs:=[am,tI],vs:=[tI,ae],head:=⟨36,aN 6 (.own 0::aN 18 [.con am,.con tI,.var tI]),[.rowv tI]⟩,exits:=[(.exit 2,⟨36,aN 6 (.own 0::aN 18 [.con am,.con tI]),[.rowv tI]⟩,[ae])]}
def lI (ρ:Type):ß ρ:=⟨[],81,2,vM,fun(p:Val (.pair am tI)) (v:Val ar) a b=>û p.1 p.2 v.1 v.2 (fun c d=>a (c,d)) (b 0)⟩
def yC:List (Nat×Ü):=[]
def mu (ρ:Type):List (ß ρ):=[lJ ρ,lI ρ]
def iu (ρ:Type):Env ρ:=Ý yC (mu ρ)
def qr:Ü:=⟨[Å,aa,aa],[Å],fun(x:Val (.pair Å (.pair aa aa)))=>Ss x.1 x.2.1 x.2.2⟩
noncomputable def acd:Ë:={pin:=8,cs:=[ae,tI,tI,tI,ac,aa,af,ab,aa,tI,tI,ak,tI,tI],vs:=[tI,ak],head:=⟨34,.any::.any::.any::.box 2 0::aN 21 [.con ae,.con tI,.var tI],[.cells [.con tI,.con tI,.con ac,.con aa,.con af,.con ab,.con aa],.cells [.con tI,.con tI,.nils,.nils,.nils,.nils,.nils],.cells [.omp 5],.cells [.omp 6],.cells [.nilfn,.fn 127 [(2,0),(0,0)],.fn 127 [(2,0),(0,0)],.fn 128 [(3,0),(0,0),(2,0)]],.mapv tI .bool,.mapc tI .bool,.cells [.con tI,.con tI]]⟩,exits:=[(.exit 0,⟨34,.any::.any::.any::.box 2 0::aN 21 [.con ae,.con tI],[.cells [.con tI,.con tI,.con ac,.con aa,.con af,.con ab,.con aa],.cells [.con tI,.con tI,.nils,.nils,.nils,.nils,.nils],.cells [.omp 5],.cells [.omp 6],.cells [.nilfn,.fn 127 [(2,0),(0,0)],.fn 127 [(2,0),(0,0)],.fn 128 [(3,0),(0,0),(2,0)]],.mapv tI .bool,.mapc tI .bool,.cells [.con tI,.con tI]]⟩,[ak])]}
noncomputable def Mb (ρ:Type):ß ρ:=⟨[7,5],128,0,acd,fun(p:Val (.pair ae (.pair tI (.pair tI (.pair tI (.pair ac (.pair aa (.pair af (.pair ab (.pair aa (.pair tI (.pair tI (.pair ak Ä))))))))))))) (v:Val (.pair tI ak)) kn kx=>uz p.1 p.2.1 v.1 v.2 (fun u0 u1=>kn (u0,u1)) (kx 0)⟩
noncomputable def ace:Ë:={pin:=0,cs:=[aa,aa,tI,tI,tI,ac,aa,af,ab,aa,tI,tI],vs:=[tI,ak,ak],head:=⟨130,.any::.any::.con aa::.box 0 0::.any::.any::.box 1 0::.box 2 0::.box 3 0::.any::.box 4 0::aN 19 [.con aa,.con tI,.var tI],[.cells [.con tI,.con tI,.con ac,.con aa,.con af,.con ab,.con aa],.cells [.con tI,.con tI,.nils,.nils,.nils,.nils,.nils],.cells [.omp 5],.cells [.omp 6],.cells [.nilfn,.fn 127 [(2,0),(0,0)],.fn 127 [(2,0),(0,0)],.fn 128 [(3,0),(0,0),(2,0)]],.mapv tI .bool,.mapv tI .bool]⟩,exits:=[(.exit 0,⟨130,.any::.any::.con aa::.box 0 0::.any::.any::.box 1 0::.box 2 0::.box 3 0::.any::.box 4 0::aN 19 [.con aa,.con tI],[.cells [.con tI,.con tI,.con ac,.con aa,.con af,.con ab,.con aa],.cells [.con tI,.con tI,.nils,.nils,.nils,.nils,.nils],.cells [.omp 5],.cells [.omp 6],.cells [.nilfn,.fn 127 [(2,0),(0,0)],.fn 127 [(2,0),(0,0)],.fn 128 [(3,0),(0,0),(2,0)]],.mapv tI .bool,.mapv tI .bool]⟩,[ak,ak])]}
noncomputable def Mc (ρ:Type):ß ρ:=⟨[],62,0,ace,fun(p:Val (.pair aa (.pair aa (.pair tI (.pair tI (.pair tI (.pair ac (.pair aa (.pair af (.pair ab aV)))))))))) (v:Val (.pair tI (.pair ak ak))) kn kx=>A7 p.2.1 p.2.2.1 p.2.2.2.2.2.1 p.2.2.2.2.2.2.2.2.1 v.1 v.2.1 v.2.2 (fun u0 u1 u2=>kn (u0,u1,u2)) (kx 0)⟩
noncomputable def acb:Ë:={pin:=0,cs:=[aa,aa,tI,tI,tI,ac,aa,af,ab,aa,tI,tI,ak],vs:=[tI,ak],head:=⟨130,.any::.any::.con aa::.box 0 0::.any::.any::.box 1 0::.box 2 0::.box 3 0::aN 34 [.con aa,.con tI,.var tI],[.cells [.con tI,.con tI,.con ac,.con aa,.con af,.con ab,.con aa],.cells [.con tI,.con tI,.nils,.nils,.nils,.nils,.nils],.cells [.omp 4],.cells [.omp 5],.mapv tI .bool,.mapc tI .bool]⟩,exits:=[(.exit 2,⟨130,.any::.any::.con aa::.box 0 0::.any::.any::.box 1 0::.box 2 0::.box 3 0::aN 34 [.con aa,.con tI],[.cells [.con tI,.con tI,.con ac,.con aa,.con af,.con ab,.con aa],.cells [.con tI,.con tI,.nils,.nils,.nils,.nils,.nils],.cells [.omp 4],.cells [.omp 5],.mapv tI .bool,.mapc tI .bool]⟩,[ak])]}
noncomputable def Ma (ρ:Type):ß ρ:=⟨[],62,2,acb,fun(p:Val (.pair aa (.pair aa (.pair tI (.pair tI (.pair tI (.pair ac (.pair aa (.pair af (.pair ab (.pair aa (.pair tI (.pair tI ak))))))))))))) (v:Val (.pair tI ak)) kn kx=>uw p.2.1 p.2.2.1 v.1 v.2 (fun u0 u1=>kn (u0,u1)) (kx 0)⟩
noncomputable def aca:Ë:={pin:=0,cs:=[aa,tI,tI,tI,ac,aa,af,ab,aa,tI,tI,ac,aa,af,ab,aa,tI,tI,aa,ak,ak,ac],vs:=[tI,aa],head:=⟨130,.any::.any::.any::.box 0 0::.any::.any::.box 1 0::.box 2 0::.box 3 0::aN 6 (.box 4 0::aN 52 [.con aa,.con tI,.var tI]),[.cells [.con tI,.con tI,.con ac,.con aa,.con af,.con ab,.con aa],.cells [.con tI,.con tI,.con ac,.con aa,.con af,.con ab,.con aa],.cells [.omp 5],.cells [.omp 6],.cells [.con tI,.con tI,.own 7,.own 8,.nils,.nils,.con aa],.mapc tI .bool,.mapc tI .bool,.rowc Ó,.rowv Ä]⟩,exits:=[(.exit 6,⟨130,.any::.any::.any::.box 0 0::.any::.any::.box 1 0::.box 2 0::.box 3 0::aN 6 (.box 4 0::aN 52 [.con aa,.con tI]),[.cells [.con tI,.con tI,.con ac,.con aa,.con af,.con ab,.con aa],.cells [.con tI,.con tI,.con ac,.con aa,.con af,.con ab,.con aa],.cells [.omp 5],.cells [.omp 6],.cells [.con tI,.con tI,.own 7,.own 8,.nils,.nils,.con aa],.mapc tI .bool,.mapc tI .bool,.rowc Ó,.rowv Ä]⟩,[aa])]}
noncomputable def sf (ρ:Type):ß ρ:=⟨[],62,6,aca,fun(p:Val (.pair aa (.pair tI (.pair tI (.pair tI (.pair ac (.pair aa (.pair af (.pair ab (.pair aa (.pair tI (.pair tI (.pair ac (.pair aa (.pair af (.pair ab (.pair aa (.pair tI (.pair tI (.pair aa (.pair ak (.pair ak ac)))))))))))))))))))))) (v:Val aF) kn kx=>ut p.1 p.2.1 p.2.2.2.2.2.2.2.2.2.2.2.2.2.2.2.2.2.2.2.1 v.1 v.2 (fun u0 u1=>kn (u0,u1)) (kx 0)⟩
noncomputable def ab9:Ë:={pin:=0,cs:=[af,tI,tI,tI,ac,aa,af,ab,aa,tI,tI,ac,aa,af,ab,aa,tI,tI,aa,ak,ak,ac,aa],vs:=[tI,af],head:=⟨130,.any::.any::.any::.box 0 0::.any::.any::.box 1 0::.box 2 0::.box 3 0::aN 6 (.box 4 0::aN 70 [.con af,.con tI,.var tI]),[.cells [.con tI,.con tI,.con ac,.con aa,.con af,.con ab,.con aa],.cells [.con tI,.con tI,.con ac,.con aa,.con af,.con ab,.con aa],.cells [.omp 5],.cells [.omp 6],.cells [.con tI,.con tI,.own 7,.own 8,.own 9,.nils,.con aa],.mapc tI .bool,.mapc tI .bool,.rowc Ó,.rowc Ä,.rowv ő]⟩,exits:=[(.exit 8,⟨130,.any::.any::.any::.box 0 0::.any::.any::.box 1 0::.box 2 0::.box 3 0::aN 6 (.box 4 0::aN 70 [.con af,.con tI]),[.cells [.con tI,.con tI,.con ac,.con aa,.con af,.con ab,.con aa],.cells [.con tI,.con tI,.con ac,.con aa,.con af,.con ab,.con aa],.cells [.omp 5],.cells [.omp 6],.cells [.con tI,.con tI,.own 7,.own 8,.own 9,.nils,.con aa],.mapc tI .bool,.mapc tI .bool,.rowc Ó,.rowc Ä,.rowv ő]⟩,[af])]}
noncomputable def se (ρ:Type):ß ρ:=⟨[],62,8,ab9,fun(p:Val (.pair af (.pair tI (.pair tI (.pair tI (.pair ac (.pair aa (.pair af (.pair ab (.pair aa (.pair tI (.pair tI (.pair ac (.pair aa (.pair af (.pair ab (.pair aa (.pair tI (.pair tI (.pair aa (.pair ak (.pair ak (.pair ac aa))))))))))))))))))))))) (v:Val (.pair tI af)) kn kx=>ur p.1 p.2.1 p.2.2.2.2.2.2.2.2.2.2.2.2.2.2.2.2.2.2.2.1 v.1 v.2 (fun u0 u1=>kn (u0,u1)) (kx 0)⟩
noncomputable def ab8:Ë:={pin:=0,cs:=[ab,tI,tI,tI,ac,aa,af,ab,aa,tI,tI,aa,ak,ac,aa,af],vs:=[tI,ab],head:=⟨130,aN 6 (.box 0 0::.any::.box 1 0::aN 6 (.box 2 0::aN 88 [.con ab,.con tI,.var tI])),[.cells [.con tI,.con tI,.con ac,.con aa,.con af,.con ab,.con aa],.cells [.omp 3],.cells [.con tI,.con tI,.own 4,.own 5,.own 6,.own 7,.con aa],.mapc tI .bool,.rowc Ó,.rowc Ä,.rowc ő,.rowv Ê]⟩,exits:=[(.exit 10,⟨130,aN 6 (.box 0 0::.any::.box 1 0::aN 6 (.box 2 0::aN 88 [.con ab,.con tI])),[.cells [.con tI,.con tI,.con ac,.con aa,.con af,.con ab,.con aa],.cells [.omp 3],.cells [.con tI,.con tI,.own 4,.own 5,.own 6,.own 7,.con aa],.mapc tI .bool,.rowc Ó,.rowc Ä,.rowc ő,.rowv Ê]⟩,[ab])]}
noncomputable def sd (ρ:Type):ß ρ:=⟨[],62,10,ab8,fun(p:Val (.pair ab (.pair tI (.pair tI (.pair tI (.pair ac (.pair aa (.pair af (.pair ab (.pair aa (.pair tI (.pair tI (.pair aa (.pair ak (.pair ac (.pair aa af)))))))))))))))) (v:Val (.pair tI ab)) kn kx=>uq p.1 p.2.1 p.2.2.2.2.2.2.2.2.2.2.2.2.1 v.1 v.2 (fun u0 u1=>kn (u0,u1)) (kx 0)⟩
noncomputable def J9:List (Nat×Ü):=[(81,Ũ)]
noncomputable def Eo (ρ:Type):List (ß ρ):=[Mb ρ,Mc ρ,Ma ρ,sf ρ,se ρ,sd ρ]
noncomputable def Η (ρ:Type):Env ρ:=Ý J9 (Eo ρ)
noncomputable def un:Tpl:=⟨130,.any::.any::.any::.box 0 0::.any::.any::.box 1 0::.box 2 0::.box 3 0::aN 6 (.box 4 0::aN 43 [.fn 186 [(5,0),(6,0)]]),[.cells [.var tI,.var tI,.var ac,.var aa,.var af,.var ab,.var aa],.cells [.var tI,.var tI,.var ac,.var aa,.var af,.var ab,.var aa],.cells [.omp 7],.cells [.omp 8],.cells [.con tI,.con tI,.own 9,.nils,.nils,.nils,.con aa],.cells [.var tI,.var tI,.var ac,.var aa,.var af,.var ab,.var aa],.cells [.omp 7],.mapv tI .bool,.mapv tI .bool,.rowv Ó]⟩
noncomputable def QM:Tpl:=⟨130,.any::.any::.any::.box 0 0::.any::.any::.box 1 0::.box 2 0::.box 3 0::aN 6 (.box 4 0::.box 10 0::aN 42 [.fn 186 [(5,0),(6,0)]]),[.cells [.var tI,.var tI,.var ac,.var aa,.var af,.var ab,.var aa],.cells [.var tI,.var tI,.var ac,.var aa,.var af,.var ab,.var aa],.cells [.omp 7],.cells [.omp 8],.cells [.con tI,.con tI,.own 9,.nils,.nils,.nils,.con aa],.cells [.var tI,.var tI,.var ac,.var aa,.var af,.var ab,.var aa],.cells [.omp 7],.mapv tI .bool,.mapv tI .bool,.rowv Ó,.cells [.var tI,.var tI,.var tI,.var tI,.var tI,.var tI,.var tI,.var tI]]⟩
noncomputable def sa (ρ:Type):List (ß ρ):=[sf ρ,se ρ,sd ρ]
noncomputable def Ĥ (ρ:Type):Env ρ:={Ý J9 (sa ρ) with inl:=fun _=>false}
noncomputable def qF:Tpl:=⟨130,aN 6 [.box 0 0],[.cells [.var tI,.var tI,.var ac,.var aa,.var af,.var ab,.var aa]]⟩
abbrev jS:List Ty:=[tI,tI,ac,aa,af,ab,aa]
noncomputable def kY (y:Val Å):Val ai:=(y.1.1,y.1.2,y.2.1,y.2.2.1,y.2.2.2.1,y.2.2.2.2.1,y.2.2.2.2.2)
noncomputable def Ĩ:Code:=(sR Tryz.prog 62).getD .skip
abbrev jf:List Ty:=[tI,tI,aa]
abbrev mV:List Ty:=[tI,tI,ac,aa,af,ab,aa,tI,tI,ac,aa,af,ab,aa,tI,tI,ac,aa,af,ab,aa,ak,ak,ac]
abbrev A6:List Ty:=[tI,tI,ac,aa,af,ab,aa,tI,tI,ac,aa,af,ab,aa,tI,tI,ac,aa,af,ab,aa,ak,ak,ac,tI,tI,tI,tI,tI,tI,tI,tI]
abbrev ü (v:Val aj):List (Val Ó):=v.2.2.2.2.2.2.2.2.2.2.2.2.2.2.2.2.1
abbrev Ū (v:Val aj):List (Int×Bool):=v.2.2.2.2.2.2.2.2.2.2.2.2.2.2.2.2.2.2.2.2.2.1
abbrev vZ (v:Val aj):List (Val Ó):=v.2.2.2.2.2.2.2.2.2.2.2.2.2.2.2.2.2.2.2.2.2.2.2
noncomputable def ħ (v:Val aj) (z:List (Val Ó)):Val aj:=(v.1,v.2.1,v.2.2.1,v.2.2.2.1,v.2.2.2.2.1,v.2.2.2.2.2.1,v.2.2.2.2.2.2.1,v.2.2.2.2.2.2.2.1,v.2.2.2.2.2.2.2.2.1,v.2.2.2.2.2.2.2.2.2.1,v.2.2.2.2.2.2.2.2.2.2.1,v.2.2.2.2.2.2.2.2.2.2.2.1,v.2.2.2.2.2.2.2.2.2.2.2.2.1,v.2.2.2.2.2.2.2.2.2.2.2.2.2.1,v.2.2.2.2.2.2.2.2.2.2.2.2.2.2.1,v.2.2.2.2.2.2.2.2.2.2.2.2.2.2.2.1,v.2.2.2.2.2.2.2.2.2.2.2.2.2.2.2.2.1,v.2.2.2.2.2.2.2.2.2.2.2.2.2.2.2.2.2.1,v.2.2.2.2.2.2.2.2.2.2.2.2.2.2.2.2.2.2.1,v.2.2.2.2.2.2.2.2.2.2.2.2.2.2.2.2.2.2.2.1,v.2.2.2.2.2.2.2.2.2.2.2.2.2.2.2.2.2.2.2.2.1,v.2.2.2.2.2.2.2.2.2.2.2.2.2.2.2.2.2.2.2.2.2.1,v.2.2.2.2.2.2.2.2.2.2.2.2.2.2.2.2.2.2.2.2.2.2.1,z)
noncomputable def Ep (v:Val aj) (x:Val Ó):Val (.pair tI (.pair tI (.pair ac (.pair aa (.pair af (.pair ab (.pair aa (.pair tI (.pair tI (.pair ac (.pair aa (.pair af (.pair ab (.pair aa (.pair tI (.pair tI (.pair ac (.pair aa (.pair af (.pair ab (.pair aa (.pair ak (.pair ak (.pair ac ŧ)))))))))))))))))))))))):=(v.1,v.2.1,v.2.2.1,v.2.2.2.1,v.2.2.2.2.1,v.2.2.2.2.2.1,v.2.2.2.2.2.2.1,v.2.2.2.2.2.2.2.1,v.2.2.2.2.2.2.2.2.1,v.2.2.2.2.2.2.2.2.2.1,v.2.2.2.2.2.2.2.2.2.2.1,v.2.2.2.2.2.2.2.2.2.2.2.1,v.2.2.2.2.2.2.2.2.2.2.2.2.1,v.2.2.2.2.2.2.2.2.2.2.2.2.2.1,v.2.2.2.2.2.2.2.2.2.2.2.2.2.2.1,v.2.2.2.2.2.2.2.2.2.2.2.2.2.2.2.1,v.2.2.2.2.2.2.2.2.2.2.2.2.2.2.2.2.1,v.2.2.2.2.2.2.2.2.2.2.2.2.2.2.2.2.2.1,v.2.2.2.2.2.2.2.2.2.2.2.2.2.2.2.2.2.2.1,v.2.2.2.2.2.2.2.2.2.2.2.2.2.2.2.2.2.2.2.1,v.2.2.2.2.2.2.2.2.2.2.2.2.2.2.2.2.2.2.2.2.1,v.2.2.2.2.2.2.2.2.2.2.2.2.2.2.2.2.2.2.2.2.2.1,v.2.2.2.2.2.2.2.2.2.2.2.2.2.2.2.2.2.2.2.2.2.2.1,v.2.2.2.2.2.2.2.2.2.2.2.2.2.2.2.2.2.2.2.2.2.2.2,x.1,x.2.1,x.2.2.1,x.2.2.2.1.1,x.2.2.2.1.2,x.2.2.2.2.1.1,x.2.2.2.2.1.2,x.2.2.2.2.2)
def tX:Ü:=⟨[Ä,tI,tI],[.bool],fun(x:Val í)=>ε x.1 x.2.1 x.2.2⟩
def Ze:List (Nat×Ü):=[]
def Dt (ρ:Type):List (ß ρ):=[]
def MA (ρ:Type):Env ρ:=Ý Ze (Dt ρ)
def kS:Ü:=⟨[tI,tI,tI],[.bool],fun(x:Val ú)=>ĥ x.1 x.2.1 x.2.2⟩
def Y2:List (Nat×Ü):=[]
def Dm (ρ:Type):List (ß ρ):=[]
def Mv (ρ:Type):Env ρ:=Ý Y2 (Dm ρ)
def FH:Ü:=⟨[tI],[.bool],fun(x:Val tI)=>oy x⟩
def acK:List (Nat×Ü):=[(227,kS)]
def HY (ρ:Type):List (ß ρ):=[]
def RH (ρ:Type):Env ρ:=Ý acK (HY ρ)
def Xm:Ü:=⟨[tI],[(.int .u64)],fun(x:Val tI)=>sO x⟩
def aff:List (Nat×Ü):=[]
def Mp (ρ:Type):List (ß ρ):=[]
def V6 (ρ:Type):Env ρ:=Ý aff (Mp ρ)
def aeF:Ü:=⟨[(.int .u64),(.int .u64)],[(.int .u64)],fun(x:Val bg)=>Su x.1 x.2⟩
def acu:Ë:={pin:=0,cs:=[],vs:=[(.int .u64),(.int .u64)],head:=⟨12,[.var (.int .u64),.var (.int .u64)],[]⟩,exits:=[(.exit 0,⟨12,[.var (.int .u64)],[]⟩,[(.int .u64)])]}
def Mq (ρ:Type):ß ρ:=⟨[],259,0,acu,fun(p:Unit) (v:Val bg) a b=>Bb v.1 v.2 (fun c d=>a (c,d)) (b 0)⟩
def aix:List (Nat×Ü):=[]
def Rk (ρ:Type):List (ß ρ):=[Mq ρ]
def Rl (ρ:Type):Env ρ:=Ý aix (Rk ρ)
def FD:Ü:=⟨[Ä],[.bool],fun(x:Val Ä)=>vp x⟩
def acx:List (Nat×Ü):=[(258,Xm),(259,aeF)]
def HC (ρ:Type):List (ß ρ):=[]
def Ro (ρ:Type):Env ρ:=Ý acx (HC ρ)
def Po:Ü:=⟨[Ó],[.bool],fun(x:Val Ó)=>w9 x⟩
def UU:List (Nat×Ü):=[(131,tX),(189,FH),(226,FD),(227,kS)]
def Ad (ρ:Type):List (ß ρ):=[]
def HX (ρ:Type):Env ρ:=Ý UU (Ad ρ)
def yv:Ü:=⟨[Å],[tI],fun(x:Val Å)=>Κ x⟩
def B3:Ë:={pin:=0,cs:=[ac,tI,tI,tI,ac,aa,af,ab,aa],vs:=[tI],head:=⟨31,.any::.box 0 0::aN 4 [.con ac,.con tI,.var tI],[bm]⟩,exits:=[(.ret,⟨31,[.any,.box 0 0,.var tI,.any,.any,.any,.con ac,.con tI],[bm]⟩,[tI]),(.exit 0,⟨31,.any::.box 0 0::aN 4 [.con ac,.con tI],[bm]⟩,[])]}
def oY (ρ:Type):ß ρ:=⟨[],132,0,B3,fun(p:Val (.pair ac aD)) (v:Val tI) b a=>jo p.1 p.2.1 p.2.2.2.2.1 v (fun c=>b c) (a 0) (a 1)⟩
def H6:List (Nat×Ü):=[(187,Po)]
def qI (ρ:Type):List (ß ρ):=[oY ρ]
def mX (ρ:Type):Env ρ:=Ý H6 (qI ρ)
def DX:Ü:=⟨[Å],[aq],fun(x:Val Å)=>hO x⟩
def NW:Ë:={pin:=0,cs:=[ac,tI],vs:=[tI,aq],head:=⟨20,aN 3 (.omp 0::aN 4 [.con ac,.con tI,.var tI]),[.mapv tI Ó]⟩,exits:=[(.exit 0,⟨20,aN 3 (.omp 0::aN 4 [.con ac,.con tI]),[.mapv tI Ó]⟩,[aq])]}
def xR (ρ:Type):ß ρ:=⟨[],133,0,NW,fun(p:Val (.pair ac tI)) (v:Val (.pair tI aq)) a b=>nu p.1 p.2 v.1 v.2 (fun c d=>a (c,d)) (b 0)⟩
def UJ:List (Nat×Ü):=[]
def zW (ρ:Type):List (ß ρ):=[xR ρ]
def ww (ρ:Type):Env ρ:=Ý UJ (zW ρ)
def mE:Ü:=⟨[ae,tI],[tI],fun(x:Val aI)=>iE x.1 x.2⟩
def xZ:Ë:={pin:=0,cs:=[ae,tI,tI],vs:=[tI],head:=⟨19,.con ae::.con tI::aN 5 [.con tI,.var tI],[]⟩,exits:=[(.ret,⟨19,[.con ae,.con tI,.any,.any,.var tI,.any,.any,.con tI],[]⟩,[tI]),(.exit 0,⟨19,.con ae::.con tI::aN 5 [.con tI],[]⟩,[])]}
def mq (ρ:Type):ß ρ:=⟨[],78,0,xZ,fun(p:Val (.pair ae Ä)) (v:Val tI) b a=>ir p.1 p.2.1 p.2.2 v (fun c=>b c) (a 0) (a 1)⟩
def BP:List (Nat×Ü):=[]
def nN (ρ:Type):List (ß ρ):=[mq ρ]
def kH (ρ:Type):Env ρ:=Ý BP (nN ρ)
def jZ:Ü:=⟨[ae,tI],[.bool],fun(x:Val aI)=>ĵ x.1 x.2⟩
def vL:List (Nat×Ü):=[(78,mE)]
def kW (ρ:Type):List (ß ρ):=[]
def mr (ρ:Type):Env ρ:=Ý vL (kW ρ)
def Xq:Ü:=⟨[Å,Ó],[ae],fun(x:Val (.pair Å Ó))=>pF x.1 x.2⟩
def Zi:Ë:={pin:=0,cs:=[ab,tI,tI,tI,ac,aa,af,ab,aa,tI,tI,tI,tI,tI,tI,tI,tI],vs:=[tI,ae],head:=⟨59,aN 2 (.box 0 0::.box 1 0::.any::.own 2::aN 8 [.con ab,.con tI,.var tI]),[bm,bn,.rowv tI]⟩,exits:=[(.exit 0,⟨59,aN 2 (.box 0 0::.box 1 0::.any::.own 2::aN 8 [.con ab,.con tI]),[bm,bn,.rowv tI]⟩,[ae])]}
def H5 (ρ:Type):ß ρ:=⟨[],194,0,Zi,fun(p:Val (.pair ab aC)) (v:Val ar) a b=>wH p.1 p.2.1 p.2.2.2.2.2.2.2.2.2.1 v.1 v.2 (fun c d=>a (c,d)) (b 0)⟩
def Zh:Ë:={pin:=0,cs:=[aa,tI,tI,tI,tI,tI,tI,tI,tI,tI],vs:=[tI,ae],head:=⟨59,aN 3 (.box 0 0::.any::.own 1::aN 32 [.con aa,.con tI,.var tI]),bU⟩,exits:=[(.exit 2,⟨59,aN 3 (.box 0 0::.any::.own 1::aN 32 [.con aa,.con tI]),bU⟩,[ae])]}
def H4 (ρ:Type):ß ρ:=⟨[],194,2,Zh,fun(p:Val (.pair aa aY)) (v:Val ar) a b=>wG p.1 p.2.1 p.2.2.1 v.1 v.2 (fun c d=>a (c,d)) (b 0)⟩
def aft:List (Nat×Ü):=[(121,jZ)]
def MC (ρ:Type):List (ß ρ):=[H5 ρ,H4 ρ]
def Bf (ρ:Type):Env ρ:=Ý aft (MC ρ)
def FG:Ü:=⟨[Å],[aa],fun(x:Val Å)=>re x⟩
def Dp:Ë:={pin:=0,cs:=[ac,tI,tI,ae,tI,tI,tI,ac,aa,af,ab,aa,tI,tI,tI,tI,tI,tI,tI,tI],vs:=[tI,aa],head:=⟨33,.any::.box 0 0::.any::.own 1::.any::.box 2 0::aN 3 (.con ac::.con tI::.con tI::aN 5 [.con ae,.con tI,.var tI]),[bm,.rowv Ä,bn]⟩,exits:=[(.exit 2,⟨33,.any::.box 0 0::.any::.own 1::.any::.box 2 0::aN 3 (.con ac::.con tI::.con tI::aN 5 [.con ae,.con tI]),[bm,.rowv Ä,bn]⟩,[aa])]}
def Dn (ρ:Type):ß ρ:=⟨[],135,2,Dp,fun(p:Val (tyL Dp.cs)) (v:Val aF) a b=>sw p.2.2.2.1 p.2.2.2.2.1 p.2.2.2.2.2.2.2.2.2.2.2.2.1 v.1 v.2 (fun c d=>a (c,d)) (b 0)⟩
def UL:Ë:={pin:=0,cs:=[ac,tI,tI,tI,ac,aa,af,ab,aa],vs:=[tI,aa],head:=⟨33,.any::.box 0 0::.any::.own 1::aN 5 [.con ac,.con tI,.var tI],[bm,.rowv Ä]⟩,exits:=[(.exit 0,⟨33,.any::.box 0 0::.any::.own 1::aN 5 [.con ac,.con tI],[bm,.rowv Ä]⟩,[aa])]}
def Dq (ρ:Type):ß ρ:=⟨[],135,0,UL,fun(p:Val (.pair ac aD)) (v:Val aF) a b=>let A:=p.2.2.2.2;sF p.1 p.2.1 p.2.2.1 p.2.2.2.1 A.1 A.2.1 A.2.2.1 A.2.2.2.1 A.2.2.2.2 v.1 v.2 (fun c d=>a (c,d)) (b 0)⟩
def acG:List (Nat×Ü):=[(194,Xq)]
def HJ (ρ:Type):List (ß ρ):=[Dn ρ,Dq ρ]
def wz (ρ:Type):Env ρ:=Ý acG (HJ ρ)
def ni:Ü:=⟨[aq,tI,tI],[tI],fun(x:Val (.pair aq Ä))=>jh x.1 x.2.1 x.2.2⟩
def Kw:List (Nat×Ü):=[]
def sv (ρ:Type):List (ß ρ):=[]
def xS (ρ:Type):Env ρ:=Ý Kw (sv ρ)
def aeH:Ü:=⟨[tI,tI,(.ptr aq)],[tI],fun(x:Val (.pair tI (.pair tI (.ptr aq))))=>ŋ x.1 x.2.1 x.2.2⟩
def UK:List (Nat×Ü):=[(189,FH),(190,ni)]
def zZ (ρ:Type):List (ß ρ):=[]
def HI (ρ:Type):Env ρ:=Ý UK (zZ ρ)
def Xr:Ü:=⟨[Å,aq,tI],[tI],fun(x:Val bj)=>κ x.1 x.2.1 x.2.2⟩
def sJ:Ë:={pin:=2,cs:=[af,tI,tI,tI,ac,aa,af,ab,aa,tI,tI,tI,tI],vs:=[tI],head:=⟨19,.con af::.fn 228 [(1,0)]::aN 5 [.con tI,.var tI],bV⟩,exits:=[(.ret,⟨19,[.con af,.fn 228 [(1,0)],.any,.any,.var tI,.any,.any,.con tI],bV⟩,[tI]),(.exit 0,⟨19,.con af::.fn 228 [(1,0)]::aN 5 [.con tI],bV⟩,[])]}
def sI (ρ:Type):ß ρ:=⟨[9,5,1,2],251,0,sJ,fun(p:Val (tyL sJ.cs)) (v:Val tI) b a=>let A:=p.2.2.2.2.2.2.2.2.2;kz p.1 p.2.1 A.1 A.2.1 A.2.2.1 v (fun c=>b c) (a 0) (a 1)⟩
def sH:Ë:={pin:=2,cs:=[aa,tI,tI,tI,ac,aa,af,ab,aa,tI,tI,tI,tI],vs:=[tI],head:=⟨19,.con aa::.fn 229 [(1,0)]::aN 5 [.con tI,.var tI],bV⟩,exits:=[(.ret,⟨19,[.con aa,.fn 229 [(1,0)],.any,.any,.var tI,.any,.any,.con tI],bV⟩,[tI]),(.exit 0,⟨19,.con aa::.fn 229 [(1,0)]::aN 5 [.con tI],bV⟩,[])]}
def sG (ρ:Type):ß ρ:=⟨[9,10,1,2],249,0,sH,fun(p:Val (tyL sH.cs)) (v:Val tI) b a=>let A:=p.2.2.2.2.2.2.2.2.2;δ p.1 p.2.1 A.1 A.2.1 A.2.2.1 v (fun c=>b c) (a 0) (a 1)⟩
def N1:List (Nat×Ü):=[(131,tX),(190,ni),(227,kS)]
def uS (ρ:Type):List (ß ρ):=[sI ρ,sG ρ]
def lW (ρ:Type):Env ρ:=Ý N1 (uS ρ)
def A2:Ü:=⟨[ae,ae],[ae],fun(x:Val aZ)=>ź x.1 x.2⟩
def Za:Ë:={pin:=2,cs:=[tI,ae,ae],vs:=[tI],head:=⟨19,.own 1::.fn 237 [(0,0)]::aN 5 [.con tI,.var tI],[bp,.rowc tI]⟩,exits:=[(.ret,⟨19,[.own 1,.fn 237 [(0,0)],.any,.any,.var tI,.any,.any,.con tI],[bp,.rowc tI]⟩,[tI]),(.exit 0,⟨19,.own 1::.fn 237 [(0,0)]::aN 5 [.con tI],[bp,.rowc tI]⟩,[])]}
def HW (ρ:Type):ß ρ:=⟨[1,3,1,2],155,0,Za,fun(p:Val (.pair tI aZ)) (v:Val tI) b a=>wF p.1 p.2.1 p.2.2 v (fun c=>b c) (a 0) (a 1)⟩
def Y9:Ë:={pin:=2,cs:=[ae],vs:=[tI,tI,ae],head:=⟨42,[.own 1,.fn 237 [(0,0)],.any,.any,.any,.var tI,.var tI],[bp,.rowv tI]⟩,exits:=[(.exit 0,⟨42,[.own 1,.fn 237 [(0,0)],.any,.any,.any,.var tI],[bp,.rowv tI]⟩,[tI,ae])]}
def HV (ρ:Type):ß ρ:=⟨[1,3],236,0,Y9,fun(p:Val ae) (v:Val aK) a b=>kQ p v.1 v.2.1 v.2.2 (fun c d e=>a (c,d,e)) (b 0)⟩
def afs:List (Nat×Ü):=[(121,jZ)]
def Mz (ρ:Type):List (ß ρ):=[HW ρ,HV ρ]
def Be (ρ:Type):Env ρ:=Ý afs (Mz ρ)
def Jw:Ü:=⟨[ae],[.bool],fun(x:Val ae)=>m8 x⟩
def RF:Ë:={pin:=0,cs:=[ae,ae,tI],vs:=[tI],head:=⟨32,.con ae::aN 4 [.con ae,.con tI,.var tI],[]⟩,exits:=[(.ret,⟨32,[.con ae,.any,.var .bool,.any,.any,.con ae,.con tI],[]⟩,[.bool]),(.exit 0,⟨32,.con ae::aN 4 [.con ae,.con tI],[]⟩,[])]}
def Ab (ρ:Type):ß ρ:=⟨[],204,0,RF,fun(p:Val (.pair ae aI)) (v:Val tI) b a=>pw p.1 p.2.1 p.2.2 v (fun c=>b c) (a 0) (a 1)⟩
def Zc:List (Nat×Ü):=[(227,kS)]
def Ds (ρ:Type):List (ß ρ):=[Ab ρ]
def Ac (ρ:Type):Env ρ:=Ý Zc (Ds ρ)
def agY:Ü:=⟨[Å,tI,tI],[ő,.bool],fun(x:Val aE)=>Bv x.1 x.2.1 x.2.2⟩
def H8:Ë:={pin:=4,cs:=[af,tI,tI,tI,ac,aa,af,ab,aa,tI,tI,tI,tI,tI,tI],vs:=[tI],head:=⟨19,.con af::.fn 260 [(1,0),(2,0)]::aN 5 [.con tI,.var tI],[bm,bq,bq,bo]⟩,exits:=[(.ret,⟨19,[.con af,.fn 260 [(1,0),(2,0)],.any,.any,.var tI,.any,.any,.con tI],[bm,bq,bq,bo]⟩,[tI]),(.exit 0,⟨19,.con af::.fn 260 [(1,0),(2,0)]::aN 5 [.con tI],[bm,bq,bq,bo]⟩,[])]}
def H7 (ρ:Type):ß ρ:=⟨[1,3],251,0,H8,fun(p:Val (tyL H8.cs)) (v:Val tI) b a=>wJ p.1 p.2.1 p.2.2.2.2.2.2.2.2.2.1 p.2.2.2.2.2.2.2.2.2.2.1 v (fun c=>b c) (a 0) (a 1)⟩
def afu:List (Nat×Ü):=[(227,kS)]
def MD (ρ:Type):List (ß ρ):=[H7 ρ]
def KD (ρ:Type):Env ρ:=Ý afu (MD ρ)
def M6:Ü:=⟨[Å,aq,tI],[tI],fun(x:Val bj)=>ō x.1 x.2.1 x.2.2⟩
def oj:Ë:={pin:=2,cs:=[ab,tI,tI,tI,ac,aa,af,ab,aa,tI,tI,ae,ae,tI,tI,tI,tI],vs:=[tI],head:=⟨19,.con ab::.fn 230 [(1,0)]::aN 5 [.con tI,.var tI],[bm,br]⟩,exits:=[(.ret,⟨19,[.con ab,.fn 230 [(1,0)],.any,.any,.var tI,.any,.any,.con tI],[bm,br]⟩,[tI]),(.exit 0,⟨19,.con ab::.fn 230 [(1,0)]::aN 5 [.con tI],[bm,br]⟩,[])]}
def oi (ρ:Type):ß ρ:=⟨[4,5,1,2],213,0,oj,fun(p:Val (tyL oj.cs)) (v:Val tI) b a=>iU p.1 p.2.1 p.2.2.2.2.2.2.2.2.2.1 v (fun c=>b c) (a 0) (a 1)⟩
def oe:Ë:={pin:=0,cs:=[aq,ae,tI,tI,tI,ae,tI,tI,tI,ac,aa,af,ab,aa,tI,tI,ae,ae,tI,tI,tI,tI,ae],vs:=[tI],head:=⟨140,.any::.con aq::.any::.box 0 0::aN 3 (.box 1 0::.con ae::.any::.con tI::aN 65 [.own 2,.con tI,.con tI,.any,.any,.any,.con ae,.con tI,.var tI]),bW⟩,exits:=[(.ret,⟨140,.any::.con aq::.any::.box 0 0::aN 2 (.var tI::.box 1 0::.con ae::.any::.con tI::aN 65 [.own 2,.con tI,.con tI,.any,.any,.any,.con ae,.con tI]),bW⟩,[tI]),(.exit 2,⟨140,.any::.con aq::.any::.box 0 0::aN 3 (.box 1 0::.con ae::.any::.con tI::aN 65 [.own 2,.con tI,.con tI,.any,.any,.any,.con ae,.con tI]),bW⟩,[])]}
def od (ρ:Type):ß ρ:=⟨[],193,2,oe,fun(p:Val (tyL oe.cs)) (v:Val tI) b a=>let A:=p.2.2.2.2.2;iT p.1 p.2.2.1 A.1 A.2.1 A.2.2.2.2.2.2.2.2.2.2.1 v (fun c=>b c) (a 0) (a 1)⟩
def oh:Ë:={pin:=0,cs:=[aq,ae,tI,tI,tI,ac,aa,af,ab,aa,tI,tI,ae,ae,tI,tI,tI,tI,ae],vs:=[tI],head:=⟨140,.any::.con aq::.any::.box 0 0::aN 3 (.box 1 0::.con ae::aN 67 [.own 2,.con tI,.var tI]),bW⟩,exits:=[(.ret,⟨140,.any::.con aq::.any::.box 0 0::aN 2 (.var tI::.box 1 0::.con ae::aN 67 [.own 2,.con tI]),bW⟩,[tI]),(.exit 0,⟨140,.any::.con aq::.any::.box 0 0::aN 3 (.box 1 0::.con ae::aN 67 [.own 2,.con tI]),bW⟩,[])]}
def og (ρ:Type):ß ρ:=⟨[],193,0,oh,fun(p:Val (tyL oh.cs)) (v:Val tI) b a=>ř p.1 p.2.1 p.2.2.1 p.2.2.2.2.2.2.2.2.2.2.2.1 p.2.2.2.2.2.2.2.2.2.2.2.2.2.2.2.2.2.2 v (fun c=>b c) (a 0) (a 1)⟩
def oc:Ë:={pin:=0,cs:=[ae,tI,tI,tI,ac,aa,af,ab,aa,tI,tI,ae,ae,tI,tI,tI,tI],vs:=[tI],head:=⟨140,aN 3 (.box 0 0::aN 3 (.box 1 0::aN 90 [.con ae,.con tI,.var tI])),[bm,br]⟩,exits:=[(.ret,⟨140,aN 3 (.box 0 0::aN 2 (.var tI::.box 1 0::aN 90 [.con ae,.con tI])),[bm,br]⟩,[tI]),(.exit 4,⟨140,aN 3 (.box 0 0::aN 3 (.box 1 0::aN 90 [.con ae,.con tI])),[bm,br]⟩,[])]}
def ob (ρ:Type):ß ρ:=⟨[],193,4,oc,fun(p:Val (tyL oc.cs)) (v:Val tI) b a=>let A:=p.2.2.2.2;Ř p.1 p.2.1 p.2.2.1 p.2.2.2.1 A.1 A.2.1 A.2.2.1 A.2.2.2.1 A.2.2.2.2.1 A.2.2.2.2.2.2.1 v (fun c=>b c) (a 0) (a 1)⟩
def EL:List (Nat×Ü):=[(81,Ũ),(131,tX),(189,FH),(190,ni),(199,A2),(204,Jw),(227,kS),(231,agY)]
def oZ (ρ:Type):List (ß ρ):=[oi ρ,od ρ,og ρ,ob ρ]
def ū (ρ:Type):Env ρ:=Ý EL (oZ ρ)
def ş:Ü:=⟨[Å],[tI],fun(x:Val Å)=>Ą x⟩
def Jr:Ü:=⟨[Ê],[.bool],fun(x:Val Ê)=>pX x⟩
def XH:List (Nat×Ü):=[]
def Ci (ρ:Type):List (ß ρ):=[]
def LI (ρ:Type):Env ρ:=Ý XH (Ci ρ)
def agN:Ü:=⟨[Å],[.bool],fun(x:Val Å)=>OC x⟩
def XF:Ë:={pin:=0,cs:=[tI,tI,ac,aa,af,ab,aa],vs:=[tI],head:=⟨50,[.any,.box 0 0,.any,.var tI],[bm]⟩,exits:=[(.ret,⟨50,[.any,.box 0 0,.var .bool],[bm]⟩,[.bool]),(.exit 0,⟨50,[.any,.box 0 0],[bm]⟩,[])]}
def FT (ρ:Type):ß ρ:=⟨[],10,0,XF,fun(p:Val ai) (v:Val tI) b a=>vJ p.2.2.2.2.2.1 v (fun c=>b c) (a 0) (a 1)⟩
def aeN:List (Nat×Ü):=[(30,Jr)]
def LH (ρ:Type):List (ß ρ):=[FT ρ]
def JD (ρ:Type):Env ρ:=Ý aeN (LH ρ)
def Γ:Ü:=⟨[aa,Ä],[tI],fun(x:Val aV)=>ă x.1 x.2⟩
def mj:Ë:={pin:=0,cs:=[aa,tI,tI,tI],vs:=[tI],head:=⟨19,[.con aa,.any,.any,.box 0 0,.any,.any,.any,.con tI,.var tI],[bt]⟩,exits:=[(.ret,⟨19,[.con aa,.any,.any,.box 0 0,.var tI,.any,.any,.con tI],[bt]⟩,[tI]),(.exit 0,⟨19,[.con aa,.any,.any,.box 0 0,.any,.any,.any,.con tI],[bt]⟩,[])]}
def ii (ρ:Type):ß ρ:=⟨[],136,0,mj,fun(p:Val (.pair aa ú)) (v:Val tI) b a=>Ķ p.1 p.2.1 p.2.2.1 p.2.2.2 v (fun c=>b c) (a 0) (a 1)⟩
def nP:List (Nat×Ü):=[]
def iw (ρ:Type):List (ß ρ):=[ii ρ]
def ů (ρ:Type):Env ρ:=Ý nP (iw ρ)
def jv:Ü:=⟨[Å,Ä],[tI,tI],fun(x:Val aE)=>ţ x.1 x.2⟩
def acR:List (Nat×Ü):=[(66,ş),(135,FG),(136,Γ)]
def If (ρ:Type):List (ß ρ):=[]
def RM (ρ:Type):Env ρ:=Ý acR (If ρ)
def kG:Ü:=⟨[au,Ä],[tI],fun(x:Val aR)=>g9 x.1 x.2⟩
def Ub:List (Nat×Ü):=[(67,jv)]
def zt (ρ:Type):List (ß ρ):=[]
def Gv (ρ:Type):Env ρ:=Ý Ub (zt ρ)
def rA:Ü:=⟨[Ñ,ak],[ae,.bool],fun(x:Val (.pair Ñ ak))=>lh x.1 x.2⟩
def uO:Ë:={pin:=2,cs:=[ak,ah,tI,tI,ah,ae,tI,ah,az,ae],vs:=[tI,tI],head:=⟨140,.any::.con ak::.own 1::.box 2 0::aN 3 (.box 3 0::.own 4::.own 5::.var tI::aN 14 [.con ah,.con tI,.var tI]),[bu,.rowc tI,bu,.cells [.nils],.rowc .bool,.rowc tI]⟩,exits:=[(.exit 0,⟨140,.any::.con ak::.own 1::.box 2 0::aN 3 (.box 3 0::.own 4::.own 5::.var tI::aN 14 [.con ah,.con tI]),[bu,.rowc tI,bu,.cells [.nils],.rowc .bool,.rowc tI]⟩,[tI])]}
def uN (ρ:Type):ß ρ:=⟨[2,3],183,0,uO,fun(p:Val (tyL uO.cs)) (v:Val Ä) a b=>iz p.2.1 p.2.2.1 v.1 v.2 (fun c d=>a (c,d)) (b 0)⟩
def uM:Ë:={pin:=2,cs:=[ak,tI,tI,tI,ah,ae,tI,ah,ae],vs:=[tI,az,ae],head:=⟨140,.any::.con ak::.own 1::.box 2 0::aN 3 (.box 3 0::.own 4::.own 5::.con tI::aN 27 [.con tI,.var tI]),bX⟩,exits:=[(.exit 2,⟨140,.any::.con ak::.own 1::.box 2 0::aN 3 (.box 3 0::.own 4::.own 5::.con tI::aN 27 [.con tI]),bX⟩,[az,ae])]}
def uL (ρ:Type):ß ρ:=⟨[2,3],183,2,uM,fun(p:Val (tyL uM.cs)) (v:Val (.pair tI aL)) a b=>š p.2.2.1 p.2.2.2.2.2.1 v.1 v.2.1 v.2.2 (fun c d e=>a (c,d,e)) (b 0)⟩
def uI:Ë:={pin:=2,cs:=[ak,tI,tI,ah,tI,tI,ah,tI,ah,ae],vs:=[tI,ae,az,ae],head:=⟨140,.any::.con ak::.own 1::.box 2 0::aN 3 (.box 3 0::.own 4::.own 5::.con tI::aN 3 (.con tI::aN 62 [.con ah,.con tI,.var tI])),bY⟩,exits:=[(.ret,⟨140,.any::.con ak::.own 1::.box 2 0::aN 2 (.var .bool::.box 3 0::.own 4::.own 5::.con tI::aN 3 (.con tI::aN 62 [.con ah,.con tI])),bY⟩,[.bool,ae,az,ae]),(.exit 6,⟨140,.any::.con ak::.own 1::.box 2 0::aN 3 (.box 3 0::.own 4::.own 5::.con tI::aN 3 (.con tI::aN 62 [.con ah,.con tI])),bY⟩,[ae,az,ae])]}
def uH (ρ:Type):ß ρ:=⟨[2,3],183,6,uI,fun(p:Val (tyL uI.cs)) (v:Val (.pair tI (.pair ae aL))) b a=>jz p.1 p.2.1 p.2.2.1 p.2.2.2.1 p.2.2.2.2.1 v.1 v.2.1 v.2.2.1 v.2.2.2 (fun c d e f=>b (c,d,e,f)) (a 0) (a 1)⟩
def uK:Ë:={pin:=2,cs:=[ak,tI,tI,ah,tI,ah],vs:=[ae,az,ae,ae],head:=⟨140,[.any,.con ak,.own 1,.box 2 0,.any,.any,.any,.box 3 0,.own 4,.own 5,.con tI],bZ⟩,exits:=[(.ret,⟨140,[.any,.con ak,.own 1,.box 2 0,.any,.any,.var .bool,.box 3 0,.own 4,.own 5,.con tI],bZ⟩,[.bool,ae,az,ae,ae])]}
def uJ (ρ:Type):ß ρ:=⟨[2,3],183,4,uK,fun(p:Val (tyL uK.cs)) (v:Val aM) a b=>ĺ p.1 p.2.1 p.2.2.2.2.1 p.2.2.2.2.2 v.1 v.2.1 v.2.2.1 v.2.2.2 (fun c d e f=>a (c,d,e,f)) (b 0)⟩
def Kl:Ë:={pin:=0,cs:=[tI,tI],vs:=[tI,ae],head:=⟨34,aN 6 (.own 0::.con tI::aN 13 [.con tI,.var tI]),[.rowv tI]⟩,exits:=[(.exit 0,⟨34,aN 6 (.own 0::.con tI::aN 13 [.con tI]),[.rowv tI]⟩,[ae])]}
def uG (ρ:Type):ß ρ:=⟨[],117,0,Kl,fun(p:Val Ä) (v:Val ar) a b=>jy p.1 p.2 v.1 v.2 (fun c d=>a (c,d)) (b 0)⟩
def QX:List (Nat×Ü):=[]
def xL (ρ:Type):List (ß ρ):=[uN ρ,uL ρ,uH ρ,uJ ρ,uG ρ]
def χ (ρ:Type):Env ρ:=Ý QX (xL ρ)
def Oj:Ü:=⟨[Ñ,tI],[.bool],fun(x:Val (.pair Ñ tI))=>sN x.1 x.2⟩
def afa:List (Nat×Ü):=[]
def Mi (ρ:Type):List (ß ρ):=[]
def VY (ρ:Type):Env ρ:=Ý afa (Mi ρ)
def tV:Ü:=⟨[Ñ],[tI,tI],fun(x:Val Ñ)=>ox x⟩
def UF:Ë:={pin:=0,cs:=[ah,tI,tI,ah],vs:=[tI],head:=⟨57,.any::.box 0 0::aN 17 [.con ah,.con tI,.var tI],[bu]⟩,exits:=[(.ret,⟨57,.any::.box 0 0::.var tI::.var tI::aN 15 [.con ah,.con tI],[bu]⟩,[tI,tI]),(.exit 0,⟨57,.any::.box 0 0::aN 17 [.con ah,.con tI],[bu]⟩,[])]}
def De (ρ:Type):ß ρ:=⟨[],138,0,UF,fun(p:Val (.pair ah aG)) (v:Val tI) b a=>sj p.1 p.2.1 p.2.2.1 p.2.2.2 v (fun c=>b c) (a 0) (a 1)⟩
def acp:List (Nat×Ü):=[(139,Oj)]
def Ht (ρ:Type):List (ß ρ):=[De ρ]
def EA (ρ:Type):Env ρ:=Ý acp (Ht ρ)
def aa9:Ü:=⟨[Ñ,ae],[tI],fun(x:Val bh)=>IL x.1 x.2⟩
def UD:Ë:={pin:=0,cs:=[ae,tI,tI,ah],vs:=[tI],head:=⟨37,aN 2 (.box 0 0::aN 16 [.con ae,.con tI,.var tI]),[bu]⟩,exits:=[(.ret,⟨37,aN 2 (.box 0 0::.any::.var tI::aN 14 [.con ae,.con tI]),[bu]⟩,[tI]),(.exit 0,⟨37,aN 2 (.box 0 0::aN 16 [.con ae,.con tI]),[bu]⟩,[])]}
def C3 (ρ:Type):ß ρ:=⟨[],112,0,UD,fun(p:Val (.pair ae aG)) (v:Val tI) b a=>sh p.1 p.2.1 p.2.2.1 p.2.2.2 v (fun c=>b c) (a 0) (a 1)⟩
def acn:List (Nat×Ü):=[(117,rA),(138,tV),(139,Oj)]
def Hq (ρ:Type):List (ß ρ):=[C3 ρ]
def Ez (ρ:Type):Env ρ:=Ý acn (Hq ρ)
def VE:Ü:=⟨[Ñ,ak,tI],[ae],fun(x:Val (.pair Ñ (.pair ak tI)))=>Bt x.1 x.2.1 x.2.2⟩
def zU:Ë:={pin:=0,cs:=[ak,tI,tI,tI,ah],vs:=[tI,ae],head:=⟨29,.any::.con ak::.con tI::.box 0 0::aN 3 (.own 1::aN 5 [.con tI,.var tI]),ca⟩,exits:=[(.exit 0,⟨29,.any::.con ak::.con tI::.box 0 0::aN 3 (.own 1::aN 5 [.con tI]),ca⟩,[ae])]}
def zT (ρ:Type):ß ρ:=⟨[],120,0,zU,fun(p:Val (tyL zU.cs)) (v:Val ar) a b=>pv p.2.2.1 v.1 v.2 (fun c d=>a (c,d)) (b 0)⟩
def zS:Ë:={pin:=2,cs:=[ak,ah,tI,tI,ah,ae,tI,ah,az,ae],vs:=[tI,tI],head:=⟨140,.any::.con ak::.own 1::.box 2 0::aN 3 (.box 3 0::.own 4::.own 5::.var tI::aN 14 [.con ah,.con tI,.var tI]),[bu,.rowc tI,bu,.cells [.nils],.rowc .bool,.rowc tI]⟩,exits:=[(.exit 0,⟨140,.any::.con ak::.own 1::.box 2 0::aN 3 (.box 3 0::.own 4::.own 5::.var tI::aN 14 [.con ah,.con tI]),[bu,.rowc tI,bu,.cells [.nils],.rowc .bool,.rowc tI]⟩,[tI])]}
def zR (ρ:Type):ß ρ:=⟨[8,3],183,0,zS,fun(p:Val (tyL zS.cs)) (v:Val Ä) a b=>wt p.2.1 p.2.2.1 v.1 v.2 (fun c d=>a (c,d)) (b 0)⟩
def zQ:Ë:={pin:=2,cs:=[ak,tI,tI,tI,ah,ae,tI,ah,ae],vs:=[tI,az,ae],head:=⟨140,.any::.con ak::.own 1::.box 2 0::aN 3 (.box 3 0::.own 4::.own 5::.con tI::aN 27 [.con tI,.var tI]),bX⟩,exits:=[(.exit 2,⟨140,.any::.con ak::.own 1::.box 2 0::aN 3 (.box 3 0::.own 4::.own 5::.con tI::aN 27 [.con tI]),bX⟩,[az,ae])]}
def zP (ρ:Type):ß ρ:=⟨[8,3],183,2,zQ,fun(p:Val (tyL zQ.cs)) (v:Val (.pair tI aL)) a b=>wq p.2.2.1 p.2.2.2.2.2.1 v.1 v.2.1 v.2.2 (fun c d e=>a (c,d,e)) (b 0)⟩
def zM:Ë:={pin:=2,cs:=[ak,tI,tI,ah,tI,tI,ah,tI,ah,ae],vs:=[tI,ae,az,ae],head:=⟨140,.any::.con ak::.own 1::.box 2 0::aN 3 (.box 3 0::.own 4::.own 5::.con tI::aN 3 (.con tI::aN 62 [.con ah,.con tI,.var tI])),bY⟩,exits:=[(.ret,⟨140,.any::.con ak::.own 1::.box 2 0::aN 2 (.var .bool::.box 3 0::.own 4::.own 5::.con tI::aN 3 (.con tI::aN 62 [.con ah,.con tI])),bY⟩,[.bool,ae,az,ae]),(.exit 6,⟨140,.any::.con ak::.own 1::.box 2 0::aN 3 (.box 3 0::.own 4::.own 5::.con tI::aN 3 (.con tI::aN 62 [.con ah,.con tI])),bY⟩,[ae,az,ae])]}
def zL (ρ:Type):ß ρ:=⟨[8,3],183,6,zM,fun(p:Val (tyL zM.cs)) (v:Val (.pair tI (.pair ae aL))) b a=>Hp p.1 p.2.1 p.2.2.1 p.2.2.2.1 p.2.2.2.2.1 v.1 v.2.1 v.2.2.1 v.2.2.2 (fun c d e f=>b (c,d,e,f)) (a 0) (a 1)⟩
def zO:Ë:={pin:=2,cs:=[ak,tI,tI,ah,tI,ah],vs:=[ae,az,ae,ae],head:=⟨140,[.any,.con ak,.own 1,.box 2 0,.any,.any,.any,.box 3 0,.own 4,.own 5,.con tI],bZ⟩,exits:=[(.ret,⟨140,[.any,.con ak,.own 1,.box 2 0,.any,.any,.var .bool,.box 3 0,.own 4,.own 5,.con tI],bZ⟩,[.bool,ae,az,ae,ae])]}
def zN (ρ:Type):ß ρ:=⟨[8,3],183,4,zO,fun(p:Val (tyL zO.cs)) (v:Val aM) a b=>wp p.1 p.2.1 p.2.2.2.2.1 p.2.2.2.2.2 v.1 v.2.1 v.2.2.1 v.2.2.2 (fun c d e f=>a (c,d,e,f)) (b 0)⟩
def YO:List (Nat×Ü):=[]
def C2 (ρ:Type):List (ß ρ):=[zT ρ,zR ρ,zP ρ,zL ρ,zN ρ]
def jA (ρ:Type):Env ρ:=Ý YO (C2 ρ)
def FC:Ü:=⟨[Ñ,tI,tI],[tI,tI],fun(x:Val aX)=>qZ x.1 x.2.1 x.2.2⟩
def acr:List (Nat×Ü):=[(112,aa9),(120,VE)]
def Hx (ρ:Type):List (ß ρ):=[]
def Rf (ρ:Type):Env ρ:=Ý acr (Hx ρ)
def j9:Ü:=⟨[au,tI,tI],[tI],fun(x:Val aR)=>Ď x.1 x.2.1 x.2.2⟩
def J4:List (Nat×Ü):=[(114,FC)]
def rX (ρ:Type):List (ß ρ):=[]
def xA (ρ:Type):Env ρ:=Ý J4 (rX ρ)
def sV:Ü:=⟨[au,Ä],[tI],fun(x:Val aR)=>g8 x.1 x.2⟩
def J3:List (Nat×Ü):=[(50,kG),(51,j9)]
def rW (ρ:Type):List (ß ρ):=[]
def xz (ρ:Type):Env ρ:=Ý J3 (rW ρ)
def mF:Ü:=⟨[au,Ä],[tI],fun(x:Val aR)=>iF x.1 x.2⟩
def BZ:List (Nat×Ü):=[(50,kG),(51,j9)]
def n0 (ρ:Type):List (ß ρ):=[]
def qB (ρ:Type):Env ρ:=Ý BZ (n0 ρ)
def jM:Ü:=⟨[au,Ä],[Ä],fun(x:Val aR)=>Α x.1 x.2⟩
def BX:List (Nat×Ü):=[(64,sV),(65,mF)]
def nZ (ρ:Type):List (ß ρ):=[]
def kM (ρ:Type):Env ρ:={Ý BX (nZ ρ) with hint:=KT [(12,64),(16,65)]}
def yu:Ü:=⟨[aU,ae,tI],[tI],fun(x:Val (.pair aU aI))=>iN x.1 x.2.1 x.2.2⟩
def RE:List (Nat×Ü):=[(136,Γ)]
def xT (ρ:Type):List (ß ρ):=[]
def Dr (ρ:Type):Env ρ:=Ý RE (xT ρ)
def xo:Ü:=⟨[aq,ae],[Ä],fun(x:Val (.pair aq ae))=>jd x.1 x.2⟩
def EF:List (Nat×Ü):=[]
def oX (ρ:Type):List (ß ρ):=[]
def su (ρ:Type):Env ρ:=Ý EF (oX ρ)
def tW:Ü:=⟨[aa],[tI],fun(x:Val aa)=>kq x⟩
def UG:Ë:={pin:=0,cs:=[aa,tI],vs:=[tI],head:=⟨15,aN 5 [.con aa,.con tI,.var tI],[]⟩,exits:=[(.ret,⟨15,[.any,.any,.var tI,.any,.any,.con aa,.con tI],[]⟩,[tI]),(.exit 0,⟨15,aN 5 [.con aa,.con tI],[]⟩,[])]}
def Dl (ρ:Type):ß ρ:=⟨[],266,0,UG,fun(p:Val (.pair aa tI)) (v:Val tI) b a=>sq p.1 p.2 v (fun c=>b c) (a 0) (a 1)⟩
def acs:List (Nat×Ü):=[(226,FD)]
def Hy (ρ:Type):List (ß ρ):=[Dl ρ]
def EB (ρ:Type):Env ρ:=Ý acs (Hy ρ)
def DW:Ü:=⟨[tI,tI],[Ä,tI],fun(x:Val Ä)=>rc x.1 x.2⟩
def UH:List (Nat×Ü):=[(258,Xm),(259,aeF)]
def zV (ρ:Type):List (ß ρ):=[]
def Hz (ρ:Type):Env ρ:=Ý UH (zV ρ)
def aj2:Ü:=⟨[Ä,Ä],[Ä,tI],fun(x:Val í)=>ZJ x.1 x.2⟩
def aiz:List (Nat×Ü):=[(266,tW),(294,DW)]
def Rq (ρ:Type):List (ß ρ):=[]
def acy (ρ:Type):Env ρ:=Ý aiz (Rq ρ)
def FF:Ü:=⟨[Ä,Ä],[Ä],fun(x:Val í)=>w8 x.1 x.2⟩
def NY:List (Nat×Ü):=[(283,aj2)]
def uQ (ρ:Type):List (ß ρ):=[]
def zY (ρ:Type):Env ρ:=Ý NY (uQ ρ)
def aeG:Ü:=⟨[Ä,Ä],[tI],fun(x:Val í)=>Sv x.1 x.2⟩
def aiy:List (Nat×Ü):=[]
def Rn (ρ:Type):List (ß ρ):=[]
def acw (ρ:Type):Env ρ:=Ý aiy (Rn ρ)
def Cg:Ü:=⟨[í],[.bool],fun(x:Val í)=>tD x⟩
def Kt:List (Nat×Ü):=[(266,tW),(300,aeG)]
def sr (ρ:Type):List (ß ρ):=[]
def xQ (ρ:Type):Env ρ:=Ý Kt (sr ρ)
def aj3:Ü:=⟨[Ä,Ä],[Ä,tI],fun(x:Val í)=>Sx x.1 x.2⟩
def aiA:List (Nat×Ü):=[(266,tW),(294,DW)]
def Rs (ρ:Type):List (ß ρ):=[]
def acA (ρ:Type):Env ρ:=Ý aiA (Rs ρ)
def abc:Ü:=⟨[í,Ä],[í,tI],fun(x:Val (.pair í Ä))=>Sw x.1 x.2⟩
def Ms:List (Nat×Ü):=[(226,FD),(295,Cg),(298,aj3),(300,aeG)]
def wu (ρ:Type):List (ß ρ):=[]
def Mr:List amH:=[⟨[3,2],296,0,4⟩]
def acz (ρ:Type):Env ρ:=Ý Ms (wu ρ)
def ED (ρ:Type):Env ρ:=aoG Ms (wu ρ) Mr
def FE:Ü:=⟨[Ä,Ä],[í],fun(x:Val í)=>pE x.1 x.2⟩
def NX:List (Nat×Ü):=[(284,abc)]
def uP (ρ:Type):List (ß ρ):=[]
def zX (ρ:Type):Env ρ:=Ý NX (uP ρ)
def Jy:Ü:=⟨[Å,Ê],[í],fun(x:Val aB)=>qe x.1 x.2⟩
def Zf:List (Nat×Ü):=[(133,DX),(199,A2),(263,xo),(264,FF),(265,FE)]
def Du (ρ:Type):List (ß ρ):=[]
def MB (ρ:Type):Env ρ:=Ý Zf (Du ρ)
def Pp:Ü:=⟨[Å,Ê],[Ä],fun(x:Val aB)=>vr x.1 x.2⟩
def acL:List (Nat×Ü):=[]
def HZ (ρ:Type):List (ß ρ):=[]
def RJ (ρ:Type):Env ρ:=Ý acL (HZ ρ)
def Pm:Ü:=⟨[tI,tI],[tI],fun(x:Val Ä)=>vn x.1 x.2⟩
def acv:List (Nat×Ü):=[]
def HA (ρ:Type):List (ß ρ):=[]
def Rm (ρ:Type):Env ρ:=Ý acv (HA ρ)
def Xn:Ü:=⟨[Ä],[tI,tI],fun(x:Val Ä)=>IM x⟩
def afo:List (Nat×Ü):=[(266,tW),(267,Pm)]
def Mu (ρ:Type):List (ß ρ):=[]
def V7 (ρ:Type):Env ρ:=Ý afo (Mu ρ)
def Pn:Ü:=⟨[Ä],[tI,tI],fun(x:Val Ä)=>Ax x⟩
def acB:List (Nat×Ü):=[(266,tW),(267,Pm)]
def HE (ρ:Type):List (ß ρ):=[]
def Rt (ρ:Type):Env ρ:=Ý acB (HE ρ)
def Xo:Ü:=⟨[Å,Ê],[Ä],fun(x:Val aB)=>w7 x.1 x.2⟩
def afp:List (Nat×Ü):=[(238,Jy),(239,Pp),(240,Xn),(241,Pn)]
def Mw (ρ:Type):List (ß ρ):=[]
def V8 (ρ:Type):Env ρ:=Ý afp (Mw ρ)
def agX:Ü:=⟨[Å,Ó,tI,tI],[tI],fun(x:Val (.pair Å (.pair Ó Ä)))=>Bu x.1 x.2.1 x.2.2.1 x.2.2.2⟩
def HU:Ë:={pin:=0,cs:=[tI,tI,af,tI,tI,tI,ac,aa,af,ab,aa,tI,tI,tI,tI,tI,tI,tI,tI],vs:=[tI,tI],head:=⟨88,aN 2 (.con tI::.con tI::.box 0 0::.box 1 0::aN 3 (.var tI::aN 7 [.con af,.con tI,.var tI])),[bm,bn]⟩,exits:=[(.exit 0,⟨88,aN 2 (.con tI::.con tI::.box 0 0::.box 1 0::aN 3 (.var tI::aN 7 [.con af,.con tI])),[bm,bn]⟩,[tI])]}
def HT (ρ:Type):ß ρ:=⟨[],235,0,HU,fun(p:Val (tyL HU.cs)) (v:Val Ä) a b=>wE p.1 p.2.1 p.2.2.1 p.2.2.2.1 p.2.2.2.2.2.2.2.2.2.2.2.1 v.1 v.2 (fun c d=>a (c,d)) (b 0)⟩
def HS:Ë:={pin:=0,cs:=[tI,tI,tI,aa,tI,tI,tI,tI,tI,tI,tI,tI,tI],vs:=[tI,ae],head:=⟨88,aN 2 (.con tI::.con tI::.any::.box 0 0::aN 3 (.con tI::aN 3 (.own 1::aN 39 [.con aa,.con tI,.var tI]))),bU⟩,exits:=[(.exit 2,⟨88,aN 2 (.con tI::.con tI::.any::.box 0 0::aN 3 (.con tI::aN 3 (.own 1::aN 39 [.con aa,.con tI]))),bU⟩,[ae])]}
def HQ (ρ:Type):ß ρ:=⟨[],235,2,HS,fun(p:Val (tyL HS.cs)) (v:Val ar) a b=>wD p.1 p.2.1 p.2.2.2.1 p.2.2.2.2.1 p.2.2.2.2.2.1 v.1 v.2 (fun c d=>a (c,d)) (b 0)⟩
def afr:List (Nat×Ü):=[(227,kS)]
def My (ρ:Type):List (ß ρ):=[HT ρ,HQ ρ]
def Bc (ρ:Type):Env ρ:=Ý afr (My ρ)
def Xp:Ü:=⟨[Å],[aU],fun(x:Val Å)=>IQ x⟩
def HN:Ë:={pin:=2,cs:=[tI,ae,tI,ac,tI,tI,tI,tI,ac,aa,af,ab,aa,tI,tI,ac,aa,af,ab,aa,aa,tI,tI,tI,tI,tI,tI,tI,tI,tI],vs:=[tI,ah,aa],head:=⟨144,.box 1 0::.any::.con tI::.box 2 0::.con ae::.con tI::.var tI::aN 24 [.con ac,.con tI,.con tI],[bm,bw,bn,.rowv ú,.rowv Ä]⟩,exits:=[(.exit 2,⟨144,.box 1 0::.any::.con tI::.box 2 0::.con ae::.con tI::aN 25 [.con ac,.con tI,.con tI],[bm,bw,bn,.rowv ú,.rowv Ä]⟩,[ah,aa])]}
def HM (ρ:Type):ß ρ:=⟨[2,1],195,2,HN,fun(p:Val (tyL HN.cs)) (v:Val aO) a b=>let A:=p.2.2.2.2.2.2.2.2.2.2.2.2.2;let B:=A.2.2.2.2;let C:=B.2.2.2.2.2;let D:=C.2.2.2.2;wB p.1 p.2.1 p.2.2.1 A.1 A.2.1 A.2.2.1 A.2.2.2.1 B.1 B.2.1 B.2.2.1 C.1 C.2.1 C.2.2.1 C.2.2.2.1 D.1 D.2.1 D.2.2.1 D.2.2.2 v.1 v.2.1 v.2.2 (fun c d e=>a (c,d,e)) (b 0)⟩
def HP:Ë:={pin:=2,cs:=[ac,tI,tI,tI,ac,aa,af,ab,aa,tI,tI,ac,aa,af,ab,aa,aa,tI],vs:=[tI,ah,aa],head:=⟨144,.box 1 0::aN 30 [.con ac,.con tI,.var tI],cd⟩,exits:=[(.exit 0,⟨144,.box 1 0::aN 30 [.con ac,.con tI],cd⟩,[ah,aa])]}
def HO (ρ:Type):ß ρ:=⟨[2,1],195,0,HP,fun(p:Val (tyL HP.cs)) (v:Val aO) a b=>let A:=p.2.2.2.2.2.2.2.2.2;let B:=A.2.2.2.2;wC p.1 p.2.1 A.1 A.2.1 A.2.2.1 A.2.2.2.1 B.1 B.2.1 B.2.2.1 B.2.2.2.1 B.2.2.2.2 v.1 v.2.1 v.2.2 (fun c d e=>a (c,d,e)) (b 0)⟩
def HL:Ë:={pin:=2,cs:=[ab,tI,tI,tI,ac,aa,af,ab,aa,tI,tI,ac,aa,af,ab,aa,aa,tI],vs:=[tI,ah,aa],head:=⟨144,.box 1 0::aN 107 [.con ab,.con tI,.var tI],cd⟩,exits:=[(.exit 4,⟨144,.box 1 0::aN 107 [.con ab,.con tI],cd⟩,[ah,aa])]}
def HK (ρ:Type):ß ρ:=⟨[2,1],195,4,HL,fun(p:Val (tyL HL.cs)) (v:Val aO) a b=>let A:=p.2.2.2.2.2.2.2.2.2;let B:=A.2.2.2.2;wA p.1 p.2.1 A.1 A.2.1 A.2.2.1 A.2.2.2.1 B.1 B.2.1 B.2.2.1 B.2.2.2.1 B.2.2.2.2 v.1 v.2.1 v.2.2 (fun c d e=>a (c,d,e)) (b 0)⟩
def afq:List (Nat×Ü):=[(135,FG),(194,Xq),(198,yu),(199,A2),(203,Xo),(235,agX)]
def Mx (ρ:Type):List (ß ρ):=[HM ρ,HO ρ,HK ρ]
def uR (ρ:Type):Env ρ:=Ý afq (Mx ρ)
def ũ:Ü:=⟨[Å],[Ñ,aa,tI],fun(x:Val Å)=>ĭ x⟩
def Zm:List (Nat×Ü):=[(66,ş),(137,Xp)]
def Dv (ρ:Type):List (ß ρ):=[]
def MF (ρ:Type):Env ρ:=Ý Zm (Dv ρ)
def pf:Ü:=⟨[Å,Ä],[Å,tI],fun(x:Val aE)=>jW x.1 x.2⟩
def Ie:Ë:={pin:=6,cs:=[tI,tI,tI,ac,aa,af,ab,aa,tI,tI,tI,tI,tI,tI,ac,aa,af,ab,aa,tI,tI,tI,tI,ab,tI,tI,ac,aa,af,aa],vs:=[tI,ab],head:=⟨50,.any::.box 6 0::.box 7 0::.own 8::aN 21 [.own 8,.con tI,.var tI],ce⟩,exits:=[(.exit 0,⟨50,.any::.box 6 0::.box 7 0::.own 8::aN 21 [.own 8,.con tI],ce⟩,[ab])]}
def Ic (ρ:Type):ß ρ:=⟨[1,2,4,1],223,0,Ie,fun(p:Val (tyL Ie.cs)) (v:Val (.pair tI ab)) a b=>wL p.1 v.1 v.2 (fun c d=>a (c,d)) (b 0)⟩
def afx:List (Nat×Ü):=[(66,ş)]
def MH (ρ:Type):List (ß ρ):=[Ic ρ]
def KH (ρ:Type):Env ρ:=Ý afx (MH ρ)
def Ś:Ü:=⟨[Ñ],[.bool,tI],fun(x:Val Ñ)=>ę x⟩
def Kq:List (Nat×Ü):=[(117,rA),(138,tV)]
def si (ρ:Type):List (ß ρ):=[]
def xN (ρ:Type):Env ρ:=Ý Kq (si ρ)
def LG:Ü:=⟨[Å,Ä],[Ä,tI],fun(x:Val aE)=>ow x.1 x.2⟩
def uC:Ë:={pin:=4,cs:=[tI,tI,tI,ac,aa,af,ab,aa,tI,tI,tI,tI,aa],vs:=[tI,tI,tI,ac,aa,af,ab,aa],head:=⟨68,aN 2 (.box 4 0::aN 20 [.own 3,.con tI,.var tI]),cf⟩,exits:=[(.ret,⟨68,aN 2 (.box 4 0::.any::.nilp::.var tI::aN 17 [.own 3,.con tI]),cf⟩,[tI,tI,tI,ac,aa,af,ab,aa]),(.exit 0,⟨68,aN 2 (.box 4 0::aN 20 [.own 3,.con tI]),cf⟩,[tI,tI,ac,aa,af,ab,aa])]}
def uB (ρ:Type):ß ρ:=⟨[1,3],47,0,uC,fun(p:Val (tyL uC.cs)) (v:Val aD) b a=>Č p.1 p.2.2.2.2.2.2.2.2.2.2.2.2 v.1 v.2.1 v.2.2.1 v.2.2.2.1 v.2.2.2.2.1 v.2.2.2.2.2.1 v.2.2.2.2.2.2.1 v.2.2.2.2.2.2.2 (fun c d e f g h i j=>b (c,d,e,f,g,h,i,j)) (a 0) (a 1)⟩
def QS:List (Nat×Ü):=[(48,jM),(66,ş),(67,jv),(68,ũ),(110,pf),(111,Ś)]
def xD (ρ:Type):List (ß ρ):=[uB ρ]
def ta (ρ:Type):Env ρ:=Ý QS (xD ρ)
def Pk:Ü:=⟨[Å,Ä,Ä],[Ä,tI],fun(x:Val (.pair Å í))=>wZ x.1 x.2.1 x.2.2⟩
def xK:Ë:={pin:=5,cs:=[tI,tI,tI,ac,aa,af,ab,aa,tI,tI,tI,tI,tI,tI,aa],vs:=[tI,tI,tI,ac,aa,af,ab,aa],head:=⟨68,aN 2 (.box 5 0::aN 20 [.own 4,.con tI,.var tI]),cg⟩,exits:=[(.ret,⟨68,aN 2 (.box 5 0::.any::.nilp::.var tI::aN 17 [.own 4,.con tI]),cg⟩,[tI,tI,tI,ac,aa,af,ab,aa]),(.exit 0,⟨68,aN 2 (.box 5 0::aN 20 [.own 4,.con tI]),cg⟩,[tI,tI,ac,aa,af,ab,aa])]}
def xJ (ρ:Type):ß ρ:=⟨[1,4],47,0,xK,fun(p:Val (tyL xK.cs)) (v:Val aD) b a=>tg p.1 p.2.2.2.2.2.2.2.2.2.2.2.2.2.2 v.1 v.2.1 v.2.2.1 v.2.2.2.1 v.2.2.2.2.1 v.2.2.2.2.2.1 v.2.2.2.2.2.2.1 v.2.2.2.2.2.2.2 (fun c d e f g h i j=>b (c,d,e,f,g,h,i,j)) (a 0) (a 1)⟩
def Uw:List (Nat×Ü):=[(50,kG),(51,j9),(66,ş),(67,jv),(68,ũ),(110,pf),(111,Ś)]
def zI (ρ:Type):List (ß ρ):=[xJ ρ]
def wj (ρ:Type):Env ρ:=Ý Uw (zI ρ)
def DS:Ü:=⟨[Ä,Ä],[tI],fun(x:Val í)=>qV x.1 x.2⟩
def T9:List (Nat×Ü):=[]
def zo (ρ:Type):List (ß ρ):=[]
def Gs (ρ:Type):Env ρ:=Ý T9 (zo ρ)
def aa7:Ü:=⟨[Å,Ä,Ä],[tI,tI],fun(x:Val (.pair Å í))=>II x.1 x.2.1 x.2.2⟩
def C1:Ë:={pin:=4,cs:=[tI,tI,tI,ac,aa,af,ab,aa,tI,tI,tI,tI,aa],vs:=[tI,tI,tI,ac,aa,af,ab,aa],head:=⟨68,aN 2 (.box 4 0::aN 20 [.own 3,.con tI,.var tI]),cf⟩,exits:=[(.ret,⟨68,aN 2 (.box 4 0::.any::.nilp::.var tI::aN 17 [.own 3,.con tI]),cf⟩,[tI,tI,tI,ac,aa,af,ab,aa]),(.exit 0,⟨68,aN 2 (.box 4 0::aN 20 [.own 3,.con tI]),cf⟩,[tI,tI,ac,aa,af,ab,aa])]}
def C0 (ρ:Type):ß ρ:=⟨[1,3],47,0,C1,fun(p:Val (tyL C1.cs)) (v:Val aD) b a=>zD p.1 p.2.2.2.2.2.2.2.2.2.2.2.2 v.1 v.2.1 v.2.2.1 v.2.2.2.1 v.2.2.2.2.1 v.2.2.2.2.2.1 v.2.2.2.2.2.2.1 v.2.2.2.2.2.2.2 (fun c d e f g h i j=>b (c,d,e,f,g,h,i,j)) (a 0) (a 1)⟩
def ach:List (Nat×Ü):=[(48,jM),(57,DS),(66,ş),(67,jv),(68,ũ),(110,pf),(111,Ś)]
def G6 (ρ:Type):List (ß ρ):=[C0 ρ]
def Et (ρ:Type):Env ρ:=Ý ach (G6 ρ)
def Pl:Ü:=⟨[Ñ,tI,tI],[am],fun(x:Val aX)=>As x.1 x.2.1 x.2.2⟩
def V5:Ë:={pin:=0,cs:=[tI,tI,tI,tI,ah],vs:=[tI,ae],head:=⟨45,.any::.con tI::.con tI::.box 0 0::aN 3 (.own 1::aN 7 [.con tI,.var tI]),ca⟩,exits:=[(.exit 0,⟨45,.any::.con tI::.con tI::.box 0 0::aN 3 (.own 1::aN 7 [.con tI]),ca⟩,[ae])]}
def V4 (ρ:Type):ß ρ:=⟨[],122,0,V5,fun(p:Val (tyL V5.cs)) (v:Val ar) a b=>Ba p.2.2.1 v.1 v.2 (fun c d=>a (c,d)) (b 0)⟩
def V2:Ë:={pin:=4,cs:=[ae,tI,am,tI,ah],vs:=[tI,ae],head:=⟨53,.con ae::.box 1 0::aN 2 (.own 4::aN 7 [.con tI,.var tI]),ci⟩,exits:=[(.exit 0,⟨53,.con ae::.box 1 0::aN 2 (.own 4::aN 7 [.con tI]),ci⟩,[ae])]}
def V1 (ρ:Type):ß ρ:=⟨[12,8],185,0,V2,fun(p:Val (tyL V2.cs)) (v:Val ar) a b=>YN p.2.1 v.1 v.2 (fun c d=>a (c,d)) (b 0)⟩
def V0:Ë:={pin:=4,cs:=[ae,ah,tI,am,tI,ah],vs:=[tI,ae],head:=⟨53,.con ae::aN 3 (.own 4::aN 16 [.con ah,.con tI,.var tI]),ci⟩,exits:=[(.exit 2,⟨53,.con ae::aN 3 (.own 4::aN 16 [.con ah,.con tI]),ci⟩,[ae])]}
def VZ (ρ:Type):ß ρ:=⟨[12,8],185,2,V0,fun(p:Val (tyL V0.cs)) (v:Val ar) a b=>Ho p.1 p.2.1 p.2.2.1 v.1 v.2 (fun c d=>a (c,d)) (b 0)⟩
def aiw:Ë:={pin:=0,cs:=[tI,tI,ah],vs:=[tI,am],head:=⟨45,aN 9 (.own 0::.fn 185 [(1,0)]::aN 18 [.con tI,.var tI]),[.rowv ae,bu]⟩,exits:=[(.exit 2,⟨45,aN 9 (.own 0::.fn 185 [(1,0)]::aN 18 [.con tI]),[.rowv ae,bu]⟩,[am])]}
def V3 (ρ:Type):ß ρ:=⟨[],122,2,aiw,fun(p:Val aG) (v:Val aP) a b=>Ou p.1 p.2.1 p.2.2 v.1 v.2 (fun c d=>a (c,d)) (b 0)⟩
def ano:List (Nat×Ü):=[]
def acm (ρ:Type):List (ß ρ):=[V4 ρ,V1 ρ,VZ ρ,V3 ρ]
def Kn (ρ:Type):Env ρ:=Ý ano (acm ρ)
def abb:Ü:=⟨[Ñ,tI,tI],[ae,tI],fun(x:Val aX)=>Aw x.1 x.2.1 x.2.2⟩
def Dk:Ë:={pin:=3,cs:=[am,tI,tI,ah,tI,tI],vs:=[tI],head:=⟨19,.con am::.fn 124 [(1,0),(2,0)]::aN 5 [.con tI,.var tI],[bu,bq,bq]⟩,exits:=[(.ret,⟨19,[.con am,.fn 124 [(1,0),(2,0)],.any,.any,.var tI,.any,.any,.con tI],[bu,bq,bq]⟩,[tI]),(.exit 0,⟨19,.con am::.fn 124 [(1,0),(2,0)]::aN 5 [.con tI],[bu,bq,bq]⟩,[])]}
def Dj (ρ:Type):ß ρ:=⟨[5,2],123,0,Dk,fun(p:Val (tyL Dk.cs)) (v:Val tI) b a=>sn p.1 p.2.1 p.2.2.2.2.1 p.2.2.2.2.2 v (fun c=>b c) (a 0) (a 1)⟩
def Dg:Ë:={pin:=3,cs:=[tI,am,ah,tI,tI,ah,tI,tI,tI,ah],vs:=[tI,tI,tI,ae],head:=⟨73,.any::.var tI::.con tI::.con am::.fn 126 [(2,0)]::.box 3 0::aN 5 (.own 4::.var tI::aN 7 [.con ah,.con tI,.var tI]),cj⟩,exits:=[(.exit 2,⟨73,.any::.var tI::.con tI::.con am::.fn 126 [(2,0)]::.box 3 0::aN 5 (.own 4::.var tI::aN 7 [.con ah,.con tI]),cj⟩,[tI,tI,ae])]}
def Df (ρ:Type):ß ρ:=⟨[6,5],125,2,Dg,fun(p:Val (tyL Dg.cs)) (v:Val bf) a b=>Mo p.1 p.2.1 p.2.2.1 p.2.2.2.1 p.2.2.2.2.2.2.2.1 v.1 v.2.1 v.2.2.1 v.2.2.2 (fun c d e f=>a (c,d,e,f)) (b 0)⟩
def Di:Ë:={pin:=3,cs:=[am,tI,ah,tI,tI,tI,ah],vs:=[tI,tI,tI,ae],head:=⟨73,.any::.var tI::.var tI::.con am::.fn 126 [(2,0)]::.box 3 0::aN 5 [.own 4,.var tI],cj⟩,exits:=[(.exit 0,⟨73,aN 3 (.con am::.fn 126 [(2,0)]::.box 3 0::aN 5 [.own 4]),cj⟩,[ae])]}
def Dh (ρ:Type):ß ρ:=⟨[6,5],125,0,Di,fun(p:Val (tyL Di.cs)) (v:Val bf) a b=>sm p.1 p.2.2.2.2.1 p.2.2.2.2.2.2 v.1 v.2.1 v.2.2.1 v.2.2.2 (fun c d e f=>a (c,d,e,f)) (b 0)⟩
def acq:List (Nat×Ü):=[(114,FC),(122,Pl)]
def Hw (ρ:Type):List (ß ρ):=[Dj ρ,Df ρ,Dh ρ]
def qH (ρ:Type):Env ρ:=Ý acq (Hw ρ)
def FB:Ü:=⟨[au,aT,(.ptr .bool)],[ae],fun(x:Val (.pair au (.pair aT (.ptr .bool))))=>l9 x.1 x.2.1 x.2.2⟩
def NN:List (Nat×Ü):=[(50,kG),(61,abb)]
def uE (ρ:Type):List (ß ρ):=[]
def zH (ρ:Type):Env ρ:=Ý NN (uE ρ)
def DT:Ü:=⟨[Å,ae],[aa],fun(x:Val (.pair Å ae))=>qW x.1 x.2⟩
def NE:Ë:={pin:=0,cs:=[aa,ae,tI],vs:=[tI,aa],head:=⟨32,aN 6 (.con aa::.any::.own 0::aN 8 [.con ae,.con tI,.var tI]),[.rowv Ä]⟩,exits:=[(.exit 0,⟨32,aN 6 (.con aa::.any::.own 0::aN 8 [.con ae,.con tI]),[.rowv Ä]⟩,[aa])]}
def xy (ρ:Type):ß ρ:=⟨[],63,0,NE,fun(p:Val (.pair aa aI)) (v:Val aF) a b=>nq p.1 p.2.1 p.2.2 v.1 v.2 (fun c d=>a (c,d)) (b 0)⟩
def Ua:List (Nat×Ü):=[(68,ũ)]
def zp (ρ:Type):List (ß ρ):=[xy ρ]
def vU (ρ:Type):Env ρ:=Ý Ua (zp ρ)
def Pj:Ü:=⟨[Å,Ä,.bool],[hZ,tI],fun(x:Val (.pair Å (.pair Ä .bool)))=>wY x.1 x.2.1 x.2.2⟩
def xI:Ë:={pin:=5,cs:=[tI,tI,tI,ac,aa,af,ab,aa,tI,tI,tI,tI,.bool,tI,aa],vs:=[tI,tI,tI,ac,aa,af,ab,aa],head:=⟨68,aN 2 (.box 5 0::aN 20 [.own 4,.con tI,.var tI]),cm⟩,exits:=[(.ret,⟨68,aN 2 (.box 5 0::.any::.nilp::.var tI::aN 17 [.own 4,.con tI]),cm⟩,[tI,tI,tI,ac,aa,af,ab,aa]),(.exit 0,⟨68,aN 2 (.box 5 0::aN 20 [.own 4,.con tI]),cm⟩,[tI,tI,ac,aa,af,ab,aa])]}
def xH (ρ:Type):ß ρ:=⟨[1,3],47,0,xI,fun(p:Val (tyL xI.cs)) (v:Val aD) b a=>tf p.1 p.2.2.2.2.2.2.2.2.2.2.2.2.2.2 v.1 v.2.1 v.2.2.1 v.2.2.2.1 v.2.2.2.2.1 v.2.2.2.2.2.1 v.2.2.2.2.2.2.1 v.2.2.2.2.2.2.2 (fun c d e f g h i j=>b (c,d,e,f,g,h,i,j)) (a 0) (a 1)⟩
def xG:Ë:={pin:=10,cs:=[tI,tI,tI,ac,aa,af,ab,aa,tI,tI,tI,tI,.bool,tI,aa,tI,tI,ac,aa,af,ab,aa,tI,ah,aa,tI,tI,ac,aa,af,ab,aa,tI,tI,ac,aa,af,ab,aa],vs:=[tI],head:=⟨68,aN 2 (.box 10 0::aN 20 [.nils,.con tI,.var tI]),cn⟩,exits:=[(.exit 0,⟨68,aN 2 (.box 10 0::aN 20 [.nils,.con tI]),cn⟩,[])]}
def xF (ρ:Type):ß ρ:=⟨[6,1],47,0,xG,fun(p:Val (tyL xG.cs)) (v:Val tI) a b=>td p.1 v (fun c=>a c) (b 0)⟩
def Uv:List (Nat×Ü):=[(60,FB),(62,qr),(63,DT),(64,sV),(65,mF),(66,ş),(67,jv),(68,ũ),(110,pf),(111,Ś)]
def zG (ρ:Type):List (ß ρ):=[xH ρ,xF ρ]
def lV (ρ:Type):Env ρ:={Ý Uv (zG ρ) with hint:=KT [(34,60),(56,60)]}
def DU:Ü:=⟨[Ñ,ae],[tI],fun(x:Val bh)=>qY x.1 x.2⟩
def NQ:Ë:={pin:=1,cs:=[ae,tI,tI,ah],vs:=[tI],head:=⟨19,.con ae::.fn 196 [(0,0)]::aN 5 [.con tI,.var tI],[bu]⟩,exits:=[(.ret,⟨19,[.con ae,.fn 196 [(0,0)],.any,.any,.var tI,.any,.any,.con tI],[bu]⟩,[tI]),(.exit 0,⟨19,.con ae::.fn 196 [(0,0)]::aN 5 [.con tI],[bu]⟩,[])]}
def xM (ρ:Type):ß ρ:=⟨[3,2,1,2],155,0,NQ,fun(p:Val (.pair ae aG)) (v:Val tI) b a=>nt p.1 p.2.1 p.2.2.2 v (fun c=>b c) (a 0) (a 1)⟩
def UB:List (Nat×Ü):=[]
def zK (ρ:Type):List (ß ρ):=[xM ρ]
def wo (ρ:Type):Env ρ:=Ý UB (zK ρ)
def Xl:Ü:=⟨[Ñ,tI,ae],[tI,tI,.bool],fun(x:Val (.pair Ñ ar))=>IK x.1 x.2.1 x.2.2⟩
def YK:Ë:={pin:=0,cs:=[ae,tI,tI,ah],vs:=[tI,tI,tI],head:=⟨37,.any::.var tI::.any::.box 0 0::aN 5 [.var tI,.any,.any,.any,.con ae,.con tI,.var tI],[bu]⟩,exits:=[(.ret,⟨37,aN 3 (.box 0 0::aN 2 (.var tI::.var tI::.var .bool::aN 4 [.con ae,.con tI])),[bu]⟩,[tI,tI,.bool]),(.exit 0,⟨37,.any::.var tI::.any::.box 0 0::aN 5 [.var tI,.any,.any,.any,.con ae,.con tI],[bu]⟩,[tI,tI])]}
def Hg (ρ:Type):ß ρ:=⟨[],141,0,YK,fun(p:Val (.pair ae aG)) (v:Val ú) b a=>wn p.1 p.2.1 p.2.2.2 v.1 v.2.1 v.2.2 (fun c d e=>b (c,d,e)) (a 0) (a 1)⟩
def ae9:List (Nat×Ü):=[]
def Mh (ρ:Type):List (ß ρ):=[Hg ρ]
def Kk (ρ:Type):Env ρ:=Ý ae9 (Mh ρ)
def Cf:Ü:=⟨[Ñ,tI,tI,ae],[tI,tI],fun(x:Val (.pair Ñ aK))=>kp x.1 x.2.1 x.2.2.1 x.2.2.2⟩
def Ks:List (Nat×Ü):=[(138,tV),(139,Oj),(140,DU),(141,Xl)]
def sl (ρ:Type):List (ß ρ):=[]
def xP (ρ:Type):Env ρ:=Ý Ks (sl ρ)
def vG:Ü:=⟨[hZ],[tI],fun(x:Val hZ)=>l8 x⟩
def NM:List (Nat×Ü):=[(66,ş),(67,jv),(68,ũ),(69,Cf)]
def uD (ρ:Type):List (ß ρ):=[]
def zF (ρ:Type):Env ρ:=Ý NM (uD ρ)
def Xs:Ü:=⟨[Å,Ê],[Å,tI],fun(x:Val aB)=>pG x.1 x.2⟩
def Ia:Ë:={pin:=8,cs:=[tI,tI,tI,ac,aa,af,ab,aa,tI,tI,ae,ae,tI,tI,tI,tI,tI,tI,tI,tI,ac,aa,af,ab,aa,tI,tI,tI,tI,ab,tI,tI,ac,aa,af,aa],vs:=[tI,ab],head:=⟨50,.any::.box 8 0::.box 9 0::.own 10::aN 21 [.own 10,.con tI,.var tI],cp⟩,exits:=[(.exit 0,⟨50,.any::.box 8 0::.box 9 0::.own 10::aN 21 [.own 10,.con tI],cp⟩,[ab])]}
def H9 (ρ:Type):ß ρ:=⟨[2,2,4,1],223,0,Ia,fun(p:Val (tyL Ia.cs)) (v:Val (.pair tI ab)) a b=>wK p.1 v.1 v.2 (fun c d=>a (c,d)) (b 0)⟩
def afv:List (Nat×Ü):=[(66,ş)]
def ME (ρ:Type):List (ß ρ):=[H9 ρ]
def KE (ρ:Type):Env ρ:=Ý afv (ME ρ)
def abe:Ü:=⟨[Å,Ê,Ä],[Ä,tI],fun(x:Val (.pair Å (.pair Ê Ä)))=>vq x.1 x.2.1 x.2.2⟩
def acE:List (Nat×Ü):=[(238,Jy),(239,Pp),(240,Xn),(241,Pn)]
def HG (ρ:Type):List (ß ρ):=[]
def Rx (ρ:Type):Env ρ:=Ý acE (HG ρ)
def Pq:Ü:=⟨[Å,Ê],[Ä,tI],fun(x:Val aB)=>xa x.1 x.2⟩
def U2:List (Nat×Ü):=[(114,FC),(137,Xp),(147,Xs),(198,yu),(199,A2),(200,abe)]
def Af (ρ:Type):List (ß ρ):=[]
def Ib (ρ:Type):Env ρ:=Ý U2 (Af ρ)
def abd:Ü:=⟨[Å,tI],[Ê,tI],fun(x:Val aH)=>IP x.1 x.2⟩
def acD:List (Nat×Ü):=[(66,ş)]
def HF (ρ:Type):List (ß ρ):=[]
def Rv (ρ:Type):Env ρ:=Ý acD (HF ρ)
def agZ:Ü:=⟨[Å,tI],[Ä,tI],fun(x:Val aH)=>OI x.1 x.2⟩
def afw:List (Nat×Ü):=[(202,abd),(203,Xo)]
def MG (ρ:Type):List (ß ρ):=[]
def V9 (ρ:Type):Env ρ:=Ý afw (MG ρ)
def Jz:Ü:=⟨[ae,ae],[ae,ae,tI],fun(x:Val aZ)=>vt x.1 x.2⟩
def Zq:List (Nat×Ü):=[(199,A2),(204,Jw)]
def Dw (ρ:Type):List (ß ρ):=[]
def MI (ρ:Type):Env ρ:=Ý Zq (Dw ρ)
def LF:Ü:=⟨[ae,au,(.ptr Ê)],[tI],fun(x:Val (.pair ae (.pair au (.ptr Ê))))=>ou x.1 x.2.1 x.2.2⟩
def QI:List (Nat×Ü):=[(50,kG)]
def xC (ρ:Type):List (ß ρ):=[]
def CU (ρ:Type):Env ρ:=Ý QI (xC ρ)
def LD:Ü:=⟨[tI,tI,au,(.ptr tI),aT,(.ptr tI)],[ú],fun(x:Val (.pair tI (.pair tI (.pair au (.pair (.ptr tI) (.pair aT (.ptr tI)))))))=>ot x.1 x.2.1 x.2.2.1 x.2.2.2.1 x.2.2.2.2.1 x.2.2.2.2.2⟩
def QH:List (Nat×Ü):=[(51,j9)]
def xB (ρ:Type):List (ß ρ):=[]
def CT (ρ:Type):Env ρ:=Ý QH (xB ρ)
def A1:Ü:=⟨[au,Ä,Ê],[Β,tI],fun(x:Val (.pair au aJ))=>qd x.1 x.2.1 x.2.2⟩
def zw:Ë:={pin:=0,cs:=[tI,ae,ae,aa,ah,tI,tI,tI,tI,tI,ae,ae,tI,tI,tI,tI,tI,tI,tI,tI,tI,tI,tI,tI,tI,tI,tI,tI,tI,tI,ac,aa,af,ab,aa,tI],vs:=[tI,ah],head:=⟨127,aN 4 (.box 0 0::.box 1 0::.box 2 0::.any::.box 3 0::aN 2 (.con tI::.box 4 0::.any::.con ae::.con ae::aN 2 (.con aa::.any::.box 5 0::aN 65 [.con ah,.con tI,.var tI]))),[bt,br,bn,bt,bt,bH,.rowv ú]⟩,exits:=[(.exit 0,⟨127,aN 4 (.box 0 0::.box 1 0::.box 2 0::.any::.box 3 0::aN 2 (.con tI::.box 4 0::.any::.con ae::.con ae::aN 2 (.con aa::.any::.box 5 0::aN 65 [.con ah,.con tI]))),[bt,br,bn,bt,bt,bH,.rowv ú]⟩,[ah])]}
def zu (ρ:Type):ß ρ:=⟨[],76,0,zw,fun(p:Val (tyL zw.cs)) (v:Val Ñ) a b=>lU p.1 p.2.2.2.1 p.2.2.2.2.1 p.2.2.2.2.2.1 v.1 v.2 (fun c d=>a (c,d)) (b 0)⟩
def Yv:List (Nat×Ü):=[(50,kG),(68,ũ),(146,Pq),(147,Xs),(148,agZ),(149,Jz),(150,LF),(151,LD)]
def CS (ρ:Type):List (ß ρ):=[zu ρ]
def rZ (ρ:Type):Env ρ:={Ý Yv (CS ρ) with hint:=KT [(110,150),(113,150),(120,151),(123,151)]}
def vF:Ü:=⟨[ú],[ae],fun(x:Val ú)=>iY x⟩
def NI:List (Nat×Ü):=[]
def uj (ρ:Type):List (ß ρ):=[]
def zz (ρ:Type):Env ρ:=Ý NI (uj ρ)
def VC:Ü:=⟨[ú,tI],[tI],fun(x:Val (.pair ú tI))=>vm x.1 x.2⟩
def Yx:List (Nat×Ü):=[]
def CV (ρ:Type):List (ß ρ):=[]
def L8 (ρ:Type):Env ρ:=Ý Yx (CV ρ)
def sT:Ü:=⟨[Β,tI],[Ä],fun(x:Val (.pair Β tI))=>Ŝ x.1 x.2⟩
def J0:List (Nat×Ü):=[(154,VC)]
def rU (ρ:Type):List (ß ρ):=[]
def xx (ρ:Type):Env ρ:=Ý J0 (rU ρ)
def sU:Ü:=⟨[Β,ae],[ae],fun(x:Val (.pair Β ae))=>km x.1 x.2⟩
def qz:Ë:={pin:=0,cs:=[tI,ae,tI,tI,tI,tI,tI,tI,tI,tI,tI,tI],vs:=[tI,ae],head:=⟨48,aN 2 (.box 0 0::aN 2 (.own 1::.any::.con tI::.var tI::aN 7 [.con ae,.con tI,.con tI])),bU⟩,exits:=[(.exit 2,⟨48,aN 2 (.box 0 0::aN 2 (.own 1::.any::.con tI::aN 8 [.con ae,.con tI,.con tI])),bU⟩,[ae])]}
def qy (ρ:Type):ß ρ:=⟨[],88,2,qz,fun(p:Val (tyL qz.cs)) (v:Val ar) a b=>iy p.1 p.2.2.2.2.1 p.2.2.2.2.2.1 v.1 v.2 (fun c d=>a (c,d)) (b 0)⟩
def Ej:Ë:={pin:=0,cs:=[ae,tI,tI,tI,tI,tI,tI,tI,tI,tI],vs:=[tI,ae],head:=⟨48,aN 2 (.box 0 0::aN 2 (.own 1::aN 10 [.con ae,.con tI,.var tI])),bU⟩,exits:=[(.exit 0,⟨48,aN 2 (.box 0 0::aN 2 (.own 1::aN 10 [.con ae,.con tI])),bU⟩,[ae])]}
def qA (ρ:Type):ß ρ:=⟨[],88,0,Ej,fun(p:Val (.pair ae aY)) (v:Val ar) a b=>jR p.1 p.2.1 p.2.2.1 p.2.2.2.1 v.1 v.2 (fun c d=>a (c,d)) (b 0)⟩
def J1:List (Nat×Ü):=[]
def rV (ρ:Type):List (ß ρ):=[qy ρ,qA ρ]
def ky (ρ:Type):Env ρ:=Ý J1 (rV ρ)
def qq:Ü:=⟨[Β],[tI],fun(x:Val Β)=>jH x⟩
def BU:Ë:={pin:=0,cs:=[ae,tI,tI,tI,tI,tI,tI,tI,tI,tI],vs:=[tI,tI],head:=⟨34,.any::.box 0 0::.any::.var tI::aN 12 [.con ae,.con tI,.var tI],[bn]⟩,exits:=[(.exit 0,⟨34,.any::.box 0 0::.any::.var tI::aN 12 [.con ae,.con tI],[bn]⟩,[tI])]}
def oW (ρ:Type):ß ρ:=⟨[],77,0,BU,fun(p:Val (.pair ae aY)) (v:Val Ä) a b=>let A:=p.2.2.2.2;jn p.1 p.2.1 p.2.2.1 p.2.2.2.1 A.1 A.2.1 A.2.2.1 A.2.2.2.1 A.2.2.2.2.1 A.2.2.2.2.2 v.1 v.2 (fun c d=>a (c,d)) (b 0)⟩
def Gp:List (Nat×Ü):=[(81,Ũ),(82,vF),(86,sT),(88,sU)]
def qw (ρ:Type):List (ß ρ):=[oW ρ]
def mQ (ρ:Type):Env ρ:=Ý Gp (qw ρ)
def Pg:Ü:=⟨[Å,Ä,Ê],[tI,tI],fun(x:Val (.pair Å aJ))=>ov x.1 x.2.1 x.2.2⟩
def CX:Ë:={pin:=4,cs:=[tI,tI,tI,ac,aa,af,ab,aa,tI,tI,tI,tI,ae,ae,tI,tI,tI,tI,aa],vs:=[tI,tI,tI,ac,aa,af,ab,aa],head:=⟨68,aN 2 (.box 4 0::aN 20 [.own 3,.con tI,.var tI]),cq⟩,exits:=[(.ret,⟨68,aN 2 (.box 4 0::.any::.nilp::.var tI::aN 17 [.own 3,.con tI]),cq⟩,[tI,tI,tI,ac,aa,af,ab,aa]),(.exit 0,⟨68,aN 2 (.box 4 0::aN 20 [.own 3,.con tI]),cq⟩,[tI,tI,ac,aa,af,ab,aa])]}
def CW (ρ:Type):ß ρ:=⟨[1,3],47,0,CX,fun(p:Val (tyL CX.cs)) (v:Val aD) b a=>zB p.1 p.2.2.2.2.2.2.2.2.2.2.2.2.2.2.2.2.2.2 v.1 v.2.1 v.2.2.1 v.2.2.2.1 v.2.2.2.2.1 v.2.2.2.2.2.1 v.2.2.2.2.2.2.1 v.2.2.2.2.2.2.2 (fun c d e f g h i j=>b (c,d,e,f,g,h,i,j)) (a 0) (a 1)⟩
def acf:List (Nat×Ü):=[(66,ş),(67,jv),(68,ũ),(76,A1),(77,qq),(110,pf),(111,Ś)]
def GX (ρ:Type):List (ß ρ):=[CW ρ]
def Er (ρ:Type):Env ρ:=Ý acf (GX ρ)
def FA:Ü:=⟨[tI],[tI],fun(x:Val tI)=>l7 x⟩
def NK:List (Nat×Ü):=[]
def uA (ρ:Type):List (ß ρ):=[]
def zC (ρ:Type):Env ρ:=Ý NK (uA ρ)
def Fz:Ü:=⟨[ú,tI],[ae],fun(x:Val (.pair ú tI))=>iZ x.1 x.2⟩
def NJ:List (Nat×Ü):=[]
def uk (ρ:Type):List (ß ρ):=[]
def zA (ρ:Type):Env ρ:=Ý NJ (uk ρ)
def Ph:Ü:=⟨[Å,Ä,Ä,Ê],[.bool,tI],fun(x:Val (.pair Å (.pair Ä aJ)))=>qX x.1 x.2.1 x.2.2.1 x.2.2.2⟩
def Ω:Ë:={pin:=5,cs:=[tI,tI,tI,ac,aa,af,ab,aa,tI,tI,tI,tI,tI,tI,ae,ae,tI,tI,tI,tI,aa],vs:=[tI,tI,tI,ac,aa,af,ab,aa],head:=⟨68,aN 2 (.box 5 0::aN 20 [.own 4,.con tI,.var tI]),cr⟩,exits:=[(.ret,⟨68,aN 2 (.box 5 0::.any::.nilp::.var tI::aN 17 [.own 4,.con tI]),cr⟩,[tI,tI,tI,ac,aa,af,ab,aa]),(.exit 0,⟨68,aN 2 (.box 5 0::aN 20 [.own 4,.con tI]),cr⟩,[tI,tI,ac,aa,af,ab,aa])]}
def oM (ρ:Type):ß ρ:=⟨[1,3],47,0,Ω,fun(p:Val ax) (v:Val aD) b a=>s9 p.1 p.2.2.2.2.2.2.2.2.2.2.2.2.2.2.2.2.2.2.2.2 v.1 v.2.1 v.2.2.1 v.2.2.2.1 v.2.2.2.2.1 v.2.2.2.2.2.1 v.2.2.2.2.2.2.1 v.2.2.2.2.2.2.2 (fun c d e f g h i j=>b (c,d,e,f,g,h,i,j)) (a 0) (a 1)⟩
def Ψ:Ë:={pin:=12,cs:=[ae,tI,tI,tI,ac,aa,af,ab,aa,tI,tI,tI,tI,tI,tI,ae,ae,tI,tI,tI,tI,aa,tI,tI,ac,aa,af,ab,aa,tI,ah,tI,tI,tI,tI,tI,tI,tI,tI,am,am,am],vs:=[tI],head:=⟨19,.con ae::.fn 85 [(8,0),(2,0)]::aN 5 [.con tI,.var tI],cu⟩,exits:=[(.ret,⟨19,[.con ae,.fn 85 [(8,0),(2,0)],.any,.any,.var tI,.any,.any,.con tI],cu⟩,[tI]),(.exit 0,⟨19,.con ae::.fn 85 [(8,0),(2,0)]::aN 5 [.con tI],cu⟩,[])]}
def oL (ρ:Type):ß ρ:=⟨[18,4,1,2],155,0,Ψ,fun(p:Val ao) (v:Val tI) b a=>let A:=p.2.2.2.2.2.2.2.2.2.2.2;let B:=A.2.2.2.2.2.2.2.2.2.2.2.2.2.2.2.2.2.2.2.2;let C:=B.2.2.2.2;nr p.1 p.2.1 A.1 A.2.1 B.1 B.2.1 B.2.2.1 B.2.2.2.1 C.1 C.2.1 C.2.2.1 C.2.2.2.1 v (fun c=>b c) (a 0) (a 1)⟩
def CZ:List (Nat×Ü):=[(57,DS),(66,ş),(67,jv),(68,ũ),(76,A1),(81,Ũ),(82,vF),(83,FA),(84,Fz),(86,sT),(88,sU),(110,pf),(111,Ś)]
def qG (ρ:Type):List (ß ρ):=[oM ρ,oL ρ]
def s8:List amH:=[⟨[],35,0,4⟩]
def Ę (ρ:Type):Env ρ:={Ý CZ (qG ρ) with hint:=KT [(51,83),(55,83)]}
def wa (ρ:Type):Env ρ:={{aoG CZ (qG ρ) s8 with loops:=acS (Ę ρ) s8} with hint:=KT [(51,83),(55,83)]}
def aba:Ü:=⟨[Ñ],[ae,tI],fun(x:Val Ñ)=>Au x⟩
def UE:Ë:={pin:=0,cs:=[tI,tI,ah],vs:=[tI,aQ],head:=⟨93,.any::.box 0 0::aN 6 (.own 1::aN 24 [.con tI,.var tI]),[bu,.rowv am]⟩,exits:=[(.exit 0,⟨93,.any::.box 0 0::aN 6 (.own 1::aN 24 [.con tI]),[bu,.rowv am]⟩,[aQ])]}
def Dc (ρ:Type):ß ρ:=⟨[],91,0,UE,fun(p:Val aG) (v:Val (.pair tI aQ)) a b=>Mn p.1 p.2.1 p.2.2 v.1 v.2 (fun c d=>a (c,d)) (b 0)⟩
def C5:Ë:={pin:=3,cs:=[tI,am,ah,tI,tI,ah,aQ,tI,tI,tI,tI,ah],vs:=[tI,tI,tI,ae],head:=⟨73,.any::.var tI::.con tI::.con am::.fn 161 []::.box 3 0::aN 5 (.own 4::.var tI::aN 7 [.con ah,.con tI,.var tI]),cw⟩,exits:=[(.exit 2,⟨73,.any::.var tI::.con tI::.con am::.fn 161 []::.box 3 0::aN 5 (.own 4::.var tI::aN 7 [.con ah,.con tI]),cw⟩,[tI,tI,ae])]}
def C4 (ρ:Type):ß ρ:=⟨[22,10],125,2,C5,fun(p:Val (tyL C5.cs)) (v:Val bf) a b=>Mj p.1 p.2.1 p.2.2.1 p.2.2.2.1 v.1 v.2.1 v.2.2.1 v.2.2.2 (fun c d e f=>a (c,d,e,f)) (b 0)⟩
def C7:Ë:={pin:=3,cs:=[am,tI,ah,aQ,tI,tI,tI,tI,ah],vs:=[tI,tI,tI,ae],head:=⟨73,.any::.var tI::.var tI::.con am::.fn 161 []::.box 3 0::aN 5 [.own 4,.var tI],cw⟩,exits:=[(.exit 0,⟨73,aN 3 (.con am::.fn 161 []::.box 3 0::aN 5 [.own 4]),cw⟩,[ae])]}
def C6 (ρ:Type):ß ρ:=⟨[22,10],125,0,C7,fun(p:Val (tyL C7.cs)) (v:Val bf) a b=>Mk p.1 p.2.2.2.2.2.2.2.2 v.1 v.2.1 v.2.2.1 v.2.2.2 (fun c d e f=>a (c,d,e,f)) (b 0)⟩
def C9:Ë:={pin:=0,cs:=[tI,ah,tI,tI,ah,aQ],vs:=[tI],head:=⟨93,.any::.box 0 0::aN 6 (.own 1::.any::.fn 161 []::.con tI::aN 37 [.con ah,.con tI,.var tI]),[bu,.rowc am]⟩,exits:=[(.exit 2,⟨93,.any::.box 0 0::aN 6 (.own 1::.any::.fn 161 []::.con tI::aN 37 [.con ah,.con tI]),[bu,.rowc am]⟩,[]),(.ret,⟨93,.any::.box 0 0::.own 2::.var tI::aN 4 (.own 1::.any::.fn 161 []::.con tI::aN 37 [.con ah,.con tI]),[bu,.rowc am,.rowv tI]⟩,[tI,ae]),(.exit 4,⟨93,.any::.box 0 0::aN 6 (.own 1::.any::.fn 161 []::.con tI::aN 37 [.con ah,.con tI]),[bu,.rowc am]⟩,[])]}
def C8 (ρ:Type):ß ρ:=⟨[],91,4,C9,fun(p:Val (tyL C9.cs)) (v:Val tI) b a=>Ml p.1 p.2.1 p.2.2.1 p.2.2.2.1 p.2.2.2.2.1 p.2.2.2.2.2 v (fun c=>b c) (a 0) (a 1) (a 2)⟩
def Db:Ë:={pin:=0,cs:=[tI,ah,aQ],vs:=[tI],head:=⟨93,.any::.box 0 0::aN 6 [.own 1,.any,.fn 161 [],.var tI],[bu,.rowc am]⟩,exits:=[(.exit 2,⟨93,.any::.box 0 0::aN 6 [.own 1,.any,.fn 161 []],[bu,.rowc am]⟩,[]),(.ret,⟨93,.any::.box 0 0::.own 2::.var tI::aN 4 [.own 1,.any,.fn 161 []],[bu,.rowc am,.rowv tI]⟩,[tI,ae])]}
def Da (ρ:Type):ß ρ:=⟨[],91,2,Db,fun(p:Val (tyL Db.cs)) (v:Val tI) b a=>Mm p.1 p.2.1 p.2.2 v (fun c=>b c) (a 0) (a 1)⟩
def aco:List (Nat×Ü):=[(117,rA),(122,Pl),(138,tV)]
def Hs (ρ:Type):List (ß ρ):=[Dc ρ,C4 ρ,C6 ρ,C8 ρ,Da ρ]
def kP (ρ:Type):Env ρ:=Ý aco (Hs ρ)
def aa8:Ü:=⟨[Å],[hZ,tI],fun(x:Val Å)=>IJ x⟩
def aci:List (Nat×Ü):=[(62,qr),(63,DT),(68,ũ),(91,aba)]
def G8 (ρ:Type):List (ß ρ):=[]
def QT (ρ:Type):Env ρ:=Ý aci (G8 ρ)
def LA:Ü:=⟨[],[Å],fun(_:Unit)=>Ao⟩
def PE:List (Nat×Ü):=[]
def xp (ρ:Type):List (ß ρ):=[]
def Ch (ρ:Type):Env ρ:=Ý PE (xp ρ)
def agT:Ü:=⟨[ae,tI],[.bool],fun(x:Val aI)=>OG x.1 x.2⟩
def ae2:List (Nat×Ü):=[(149,Jz)]
def L6 (ρ:Type):List (ß ρ):=[]
def VX (ρ:Type):Env ρ:=Ý ae2 (L6 ρ)
def aa6:Ü:=⟨[tI],[.bool],fun(x:Val tI)=>IH x⟩
def ab6:List (Nat×Ü):=[]
def GU (ρ:Type):List (ß ρ):=[]
def QJ (ρ:Type):Env ρ:=Ý ab6 (GU ρ)
def aa5:Ü:=⟨[tI,am],[aa],fun(x:Val aP)=>IG x.1 x.2⟩
def Um:Ë:={pin:=0,cs:=[tI,ae,tI],vs:=[tI,aa],head:=⟨23,.con tI::aN 4 [.own 0,.any,.any,.any,.con ae,.con tI,.var tI],[.rowv Ä]⟩,exits:=[(.exit 0,⟨23,.con tI::aN 4 [.own 0,.any,.any,.any,.con ae,.con tI],[.rowv Ä]⟩,[aa])]}
def CQ (ρ:Type):ß ρ:=⟨[],108,0,Um,fun(p:Val (.pair tI aI)) (v:Val aF) a b=>rY p.1 p.2.1 p.2.2 v.1 v.2 (fun c d=>a (c,d)) (b 0)⟩
def ab5:List (Nat×Ü):=[(81,Ũ)]
def GS (ρ:Type):List (ß ρ):=[CQ ρ]
def En (ρ:Type):Env ρ:=Ý ab5 (GS ρ)
def agV:Ü:=⟨[Å,tI,ae],[Ä,tI],fun(x:Val (.pair Å ar))=>OH x.1 x.2.1 x.2.2⟩
def G5:Ë:={pin:=3,cs:=[aa,tI,tI,tI,ac,aa,af,ab,aa,tI,tI,am],vs:=[tI,tI,tI,ac,aa,af,ab,aa],head:=⟨68,aN 2 (.box 3 0::aN 20 [.con aa,.con tI,.var tI]),[bm,bt,.rowf ae 0,bD]⟩,exits:=[(.ret,⟨68,aN 2 (.box 3 0::.any::.nilp::.var tI::aN 17 [.con aa,.con tI]),[bm,bt,.rowf ae 0,bD]⟩,[tI,tI,tI,ac,aa,af,ab,aa]),(.exit 0,⟨68,aN 2 (.box 3 0::aN 20 [.con aa,.con tI]),[bm,bt,.rowf ae 0,bD]⟩,[tI,tI,ac,aa,af,ab,aa])]}
def G4 (ρ:Type):ß ρ:=⟨[7,2],47,0,G5,fun(p:Val (tyL G5.cs)) (v:Val aD) b a=>we p.1 p.2.1 v.1 v.2.1 v.2.2.1 v.2.2.2.1 v.2.2.2.2.1 v.2.2.2.2.2.1 v.2.2.2.2.2.2.1 v.2.2.2.2.2.2.2 (fun c d e f g h i j=>b (c,d,e,f,g,h,i,j)) (a 0) (a 1)⟩
def G3:Ë:={pin:=0,cs:=[au,aa,tI,tI,tI],vs:=[tI,tI,tI],head:=⟨87,aN 6 (.box 0 0::aN 3 (.con au::aN 2 (.box 1 0::aN 51 [.con aa,.con tI,.var tI]))),[bt,.cells [.var tI,.var tI]]⟩,exits:=[(.exit 0,⟨87,aN 6 (.box 0 0::aN 3 (.con au::aN 2 (.box 1 0::aN 51 [.con aa,.con tI]))),[bt,.cells [.var tI,.var tI]]⟩,[tI,tI])]}
def G2 (ρ:Type):ß ρ:=⟨[],45,0,G3,fun(p:Val (tyL G3.cs)) (v:Val ú) a b=>wd p.1 p.2.1 p.2.2.1 v.1 v.2.1 v.2.2 (fun c d e=>a (c,d,e)) (b 0)⟩
def ae7:List (Nat×Ü):=[(48,jM),(66,ş),(67,jv),(68,ũ),(106,agT),(107,aa6),(108,aa5),(110,pf),(111,Ś)]
def Me (ρ:Type):List (ß ρ):=[G4 ρ,G2 ρ]
def A8 (ρ:Type):Env ρ:=Ý ae7 (Me ρ)
def Ce:Ü:=⟨[Ñ,ae],[tI],fun(x:Val bh)=>ny x.1 x.2⟩
def Kr:List (Nat×Ü):=[(138,tV),(140,DU),(141,Xl)]
def sk (ρ:Type):List (ß ρ):=[]
def xO (ρ:Type):Env ρ:=Ý Kr (sk ρ)
def Cd:Ü:=⟨[hZ],[tI],fun(x:Val hZ)=>nv x⟩
def Ke:List (Nat×Ü):=[(66,ş),(68,ũ),(92,Ce)]
def sg (ρ:Type):List (ß ρ):=[]
def xE (ρ:Type):Env ρ:=Ý Ke (sg ρ)
def i9:Ü:=⟨[ac,Ó],[tI],fun(x:Val (.pair ac Ó))=>Ų x.1 x.2⟩
def lq:Ë:={pin:=0,cs:=[ac,tI,tI,tI,tI,tI,tI,tI,tI,tI],vs:=[tI],head:=⟨19,[.con ac,.any,.any,.box 0 0,.any,.any,.any,.con tI,.var tI],[bn]⟩,exits:=[(.ret,⟨19,[.con ac,.any,.any,.box 0 0,.var tI,.any,.any,.con tI],[bn]⟩,[tI]),(.exit 0,⟨19,[.con ac,.any,.any,.box 0 0,.any,.any,.any,.con tI],[bn]⟩,[])]}
def Ξ (ρ:Type):ß ρ:=⟨[],248,0,lq,fun(p:Val (.pair ac aY)) (v:Val tI) b a=>let A:=p.2.2.2.2;Ĉ p.1 p.2.1 p.2.2.1 p.2.2.2.1 A.1 A.2.1 A.2.2.1 A.2.2.2.1 A.2.2.2.2.1 A.2.2.2.2.2 v (fun c=>b c) (a 0) (a 1)⟩
def ml:List (Nat×Ü):=[]
def η (ρ:Type):List (ß ρ):=[Ξ ρ]
def ŗ (ρ:Type):Env ρ:=Ý ml (η ρ)
def ig:Ü:=⟨[ac,Ó],[.bool],fun(x:Val (.pair ac Ó))=>Ħ x.1 x.2⟩
def kJ:List (Nat×Ü):=[(248,i9)]
def ż (ρ:Type):List (ß ρ):=[]
def Ρ (ρ:Type):Env ρ:=Ý kJ (ż ρ)
def j8:Ü:=⟨[aa,Ä],[tI],fun(x:Val aV)=>gY x.1 x.2⟩
def nO:Ë:={pin:=0,cs:=[aa,tI,tI,tI],vs:=[tI],head:=⟨19,[.con aa,.any,.any,.box 0 0,.any,.any,.any,.con tI,.var tI],[bt]⟩,exits:=[(.ret,⟨19,[.con aa,.any,.any,.box 0 0,.var tI,.any,.any,.con tI],[bt]⟩,[tI]),(.exit 0,⟨19,[.con aa,.any,.any,.box 0 0,.any,.any,.any,.con tI],[bt]⟩,[])]}
def iI (ρ:Type):ß ρ:=⟨[],250,0,nO,fun(p:Val (.pair aa ú)) (v:Val tI) b a=>ğ p.1 p.2.1 p.2.2.1 p.2.2.2 v (fun c=>b c) (a 0) (a 1)⟩
def pj:List (Nat×Ü):=[]
def ja (ρ:Type):List (ß ρ):=[iI ρ]
def Δ (ρ:Type):Env ρ:=Ý pj (ja ρ)
def jj:Ü:=⟨[aa,Ä],[.bool],fun(x:Val aV)=>ġ x.1 x.2⟩
def mL:List (Nat×Ü):=[(250,j8)]
def il (ρ:Type):List (ß ρ):=[]
def iJ (ρ:Type):Env ρ:=Ý mL (il ρ)
def ju:Ü:=⟨[af,ő],[tI],fun(x:Val (.pair af ő))=>Ι x.1 x.2⟩
def ik:Ë:={pin:=0,cs:=[af,tI,tI,tI,tI,tI],vs:=[tI],head:=⟨19,[.con af,.any,.any,.box 0 0,.any,.any,.any,.con tI,.var tI],[bo]⟩,exits:=[(.ret,⟨19,[.con af,.any,.any,.box 0 0,.var tI,.any,.any,.con tI],[bo]⟩,[tI]),(.exit 0,⟨19,[.con af,.any,.any,.box 0 0,.any,.any,.any,.con tI],[bo]⟩,[])]}
def ij (ρ:Type):ß ρ:=⟨[],252,0,ik,fun(p:Val (tyL ik.cs)) (v:Val tI) b a=>Đ p.1 p.2.1 p.2.2.1 p.2.2.2.1 p.2.2.2.2.1 p.2.2.2.2.2 v (fun c=>b c) (a 0) (a 1)⟩
def nQ:List (Nat×Ü):=[]
def ix (ρ:Type):List (ß ρ):=[ij ρ]
def Ű (ρ:Type):Env ρ:=Ý nQ (ix ρ)
def iH:Ü:=⟨[af,ő],[.bool],fun(x:Val (.pair af ő))=>đ x.1 x.2⟩
def lH:List (Nat×Ü):=[(252,ju)]
def Ο (ρ:Type):List (ß ρ):=[]
def ip (ρ:Type):Env ρ:=Ý lH (Ο ρ)
def agU:Ü:=⟨[Å,Å],[.bool],fun(x:Val (.pair Å Å))=>IF x.1 x.2⟩
def GR:Ë:={pin:=0,cs:=[ac,tI,tI,tI,ac,aa,af,ab,aa,tI,tI,ac,aa,af,ab,aa],vs:=[tI,ak],head:=⟨87,aN 2 (.box 0 0::.box 1 0::.any::.box 2 0::aN 10 [.con ac,.con tI,.var tI]),[bm,bm,bJ,.mapv tI .bool]⟩,exits:=[(.exit 0,⟨87,aN 2 (.box 0 0::.box 1 0::.any::.box 2 0::aN 10 [.con ac,.con tI]),[bm,bm,bJ,.mapv tI .bool]⟩,[ak])]}
def GQ (ρ:Type):ß ρ:=⟨[],109,0,GR,fun(p:Val (tyL GR.cs)) (v:Val (.pair tI ak)) a b=>vW p.1 p.2.1 v.1 v.2 (fun c d=>a (c,d)) (b 0)⟩
def GK:Ë:={pin:=6,cs:=[ae,ae,tI,tI,tI,ac,aa,af,ab,aa,tI,tI,ac,aa,af,ab,aa,ak,tI,tI,ae,ae,tI,tI,tI,tI,tI,tI,ae,ae,tI,tI,tI,tI],vs:=[tI],head:=⟨26,.con ae::.con ae::aN 10 [.con tI,.var tI],cz⟩,exits:=[(.ret,⟨26,.con ae::.con ae::aN 2 (.var .bool::aN 7 [.con tI]),cz⟩,[.bool]),(.exit 0,⟨26,.con ae::.con ae::aN 10 [.con tI],cz⟩,[])]}
def GJ (ρ:Type):ß ρ:=⟨[14,3,1,2,4,5,1,38],176,0,GK,fun(p:Val (tyL GK.cs)) (v:Val tI) b a=>mU p.1 p.2.1 p.2.2.1 v (fun c=>b c) (a 0) (a 1)⟩
def GI:Ë:={pin:=6,cs:=[ae,ae,tI,tI,tI,ac,aa,af,ab,aa,tI,tI,ac,aa,af,ab,aa,ak,tI,tI,ae,ae,tI,tI,tI,tI,tI,tI,ae,ae,tI,tI,tI,tI],vs:=[tI],head:=⟨26,.con ae::.con ae::aN 10 [.con tI,.var tI],cz⟩,exits:=[(.ret,⟨26,.con ae::.con ae::aN 2 (.var .bool::aN 7 [.con tI]),cz⟩,[.bool]),(.exit 0,⟨26,.con ae::.con ae::aN 10 [.con tI],cz⟩,[])]}
def GH (ρ:Type):ß ρ:=⟨[14,3,1,2,4,5,1,45],176,0,GI,fun(p:Val (tyL GI.cs)) (v:Val tI) b a=>vV p.1 p.2.1 p.2.2.1 v (fun c=>b c) (a 0) (a 1)⟩
def GN:Ë:={pin:=5,cs:=[ab,tI,tI,tI,ac,aa,af,ab,aa,tI,tI,ac,aa,af,ab,aa,ak,tI,tI,ae,ae,tI,tI,tI,tI],vs:=[tI],head:=⟨19,.con ab::.fn 175 [(4,0)]::aN 5 [.con tI,.var tI],cA⟩,exits:=[(.ret,⟨19,[.con ab,.fn 175 [(4,0)],.any,.any,.var tI,.any,.any,.con tI],cA⟩,[tI]),(.exit 0,⟨19,.con ab::.fn 175 [(4,0)]::aN 5 [.con tI],cA⟩,[])]}
def GM (ρ:Type):ß ρ:=⟨[14,3,1,2],213,0,GN,fun(p:Val (tyL GN.cs)) (v:Val tI) b a=>let A:=p.2.2.2.2.2.2.2.2.2.2.2.2.2.2.2.2.2;let B:=A.2.2.2.2;qD p.1 p.2.1 A.1 A.2.1 A.2.2.1 A.2.2.2.1 B.1 B.2.1 B.2.2.1 B.2.2.2 v (fun c=>b c) (a 0) (a 1)⟩
def GP:Ë:={pin:=0,cs:=[ab,tI,tI,tI,ac,aa,af,ab,aa,tI,tI,ac,aa,af,ab,aa,ak],vs:=[tI],head:=⟨87,aN 2 (.box 0 0::.box 1 0::aN 4 (.fn 172 []::.fn 173 [(2,0)]::.fn 174 [(2,0)]::aN 18 [.con ab,.con tI,.var tI])),cB⟩,exits:=[(.ret,⟨87,aN 2 (.box 0 0::.box 1 0::.var .bool::aN 3 (.fn 172 []::.fn 173 [(2,0)]::.fn 174 [(2,0)]::aN 18 [.con ab,.con tI])),cB⟩,[.bool]),(.exit 2,⟨87,aN 2 (.box 0 0::.box 1 0::aN 4 (.fn 172 []::.fn 173 [(2,0)]::.fn 174 [(2,0)]::aN 18 [.con ab,.con tI])),cB⟩,[])]}
def GO (ρ:Type):ß ρ:=⟨[],109,2,GP,fun(p:Val (tyL GP.cs)) (v:Val tI) b a=>qE p.1 p.2.1 p.2.2.2.2.2.2.2.2.2.2.2.2.2.2.1 v (fun c=>b c) (a 0) (a 1)⟩
def GG:Ë:={pin:=6,cs:=[ac,tI,tI,tI,ac,aa,af,ab,aa,tI,tI,ac,aa,af,ab,aa,ak,ac],vs:=[tI],head:=⟨19,.con ac::.fn 215 [(5,0),(4,0)]::aN 5 [.con tI,.var tI],cD⟩,exits:=[(.ret,⟨19,[.con ac,.fn 215 [(5,0),(4,0)],.any,.any,.var tI,.any,.any,.con tI],cD⟩,[tI]),(.exit 0,⟨19,.con ac::.fn 215 [(5,0),(4,0)]::aN 5 [.con tI],cD⟩,[])]}
def GF (ρ:Type):ß ρ:=⟨[17,11,1,2,1,2],247,0,GG,fun(p:Val (tyL GG.cs)) (v:Val tI) b a=>qC p.1 p.2.1 p.2.2.2.2.2.2.2.2.2.2.2.2.2.2.2.2.2 v (fun c=>b c) (a 0) (a 1)⟩
def GD:Ë:={pin:=8,cs:=[aa,tI,tI,tI,ac,aa,af,ab,aa,tI,tI,ac,aa,af,ab,aa,ak,ac,aa],vs:=[tI],head:=⟨19,.con aa::.fn 218 [(7,0),(6,0)]::aN 5 [.con tI,.var tI],cE⟩,exits:=[(.ret,⟨19,[.con aa,.fn 218 [(7,0),(6,0)],.any,.any,.var tI,.any,.any,.con tI],cE⟩,[tI]),(.exit 0,⟨19,.con aa::.fn 218 [(7,0),(6,0)]::aN 5 [.con tI],cE⟩,[])]}
def GC (ρ:Type):ß ρ:=⟨[17,19,1,2,1,2],249,0,GD,fun(p:Val (tyL GD.cs)) (v:Val tI) b a=>kO p.1 p.2.1 p.2.2.2.2.2.2.2.2.2.2.2.2.2.2.2.2.1 p.2.2.2.2.2.2.2.2.2.2.2.2.2.2.2.2.2.2 v (fun c=>b c) (a 0) (a 1)⟩
def GB:Ë:={pin:=10,cs:=[aa,tI,tI,tI,ac,aa,af,ab,aa,tI,tI,ac,aa,af,ab,aa,ak,ac,aa,aa],vs:=[tI],head:=⟨19,.con aa::.fn 218 [(9,0),(8,0)]::aN 5 [.con tI,.var tI],cF⟩,exits:=[(.ret,⟨19,[.con aa,.fn 218 [(9,0),(8,0)],.any,.any,.var tI,.any,.any,.con tI],cF⟩,[tI]),(.exit 0,⟨19,.con aa::.fn 218 [(9,0),(8,0)]::aN 5 [.con tI],cF⟩,[])]}
def GA (ρ:Type):ß ρ:=⟨[17,27,1,2,1,2],249,0,GB,fun(p:Val (tyL GB.cs)) (v:Val tI) b a=>mT p.1 p.2.1 p.2.2.2.2.2.2.2.2.2.2.2.2.2.2.2.2.1 p.2.2.2.2.2.2.2.2.2.2.2.2.2.2.2.2.2.2.2 v (fun c=>b c) (a 0) (a 1)⟩
def Gz:Ë:={pin:=12,cs:=[af,tI,tI,tI,ac,aa,af,ab,aa,tI,tI,ac,aa,af,ab,aa,ak,ac,aa,aa,af],vs:=[tI],head:=⟨19,.con af::.fn 221 [(11,0),(10,0)]::aN 5 [.con tI,.var tI],cG⟩,exits:=[(.ret,⟨19,[.con af,.fn 221 [(11,0),(10,0)],.any,.any,.var tI,.any,.any,.con tI],cG⟩,[tI]),(.exit 0,⟨19,.con af::.fn 221 [(11,0),(10,0)]::aN 5 [.con tI],cG⟩,[])]}
def Gy (ρ:Type):ß ρ:=⟨[17,35,1,2,1,2],251,0,Gz,fun(p:Val (tyL Gz.cs)) (v:Val tI) b a=>ň p.1 p.2.1 p.2.2.2.2.2.2.2.2.2.2.2.2.2.2.2.2.1 p.2.2.2.2.2.2.2.2.2.2.2.2.2.2.2.2.2.2.2.2 v (fun c=>b c) (a 0) (a 1)⟩
def Gx:Ë:={pin:=14,cs:=[af,tI,tI,tI,ac,aa,af,ab,aa,tI,tI,ac,aa,af,ab,aa,ak,ac,aa,aa,af,af],vs:=[tI],head:=⟨19,.con af::.fn 221 [(13,0),(12,0)]::aN 5 [.con tI,.var tI],cH⟩,exits:=[(.ret,⟨19,[.con af,.fn 221 [(13,0),(12,0)],.any,.any,.var tI,.any,.any,.con tI],cH⟩,[tI]),(.exit 0,⟨19,.con af::.fn 221 [(13,0),(12,0)]::aN 5 [.con tI],cH⟩,[])]}
def Gw (ρ:Type):ß ρ:=⟨[17,43,1,2,1,2],251,0,Gx,fun(p:Val (tyL Gx.cs)) (v:Val tI) b a=>ě p.1 p.2.1 p.2.2.2.2.2.2.2.2.2.2.2.2.2.2.2.2.1 p.2.2.2.2.2.2.2.2.2.2.2.2.2.2.2.2.2.2.2.2.2 v (fun c=>b c) (a 0) (a 1)⟩
def ae3:List (Nat×Ü):=[(216,ig),(219,jj),(222,iH)]
def L7 (ρ:Type):List (ß ρ):=[GQ ρ,GJ ρ,GH ρ,GM ρ,GO ρ,GF ρ,GC ρ,GA ρ,Gy ρ,Gw ρ]
def Χ (ρ:Type):Env ρ:=Ý ae3 (L7 ρ)
def VD:Ü:=⟨[Å,hZ],[.bool,tI],fun(x:Val (.pair Å hZ))=>Bs x.1 x.2⟩
def YF:List (Nat×Ü):=[(25,vG),(39,Cd),(66,ş),(109,agU)]
def CY (ρ:Type):List (ß ρ):=[]
def Md (ρ:Type):Env ρ:=Ý YF (CY ρ)
def O9:Ü:=⟨[],[.bool],fun(_:Unit)=>Ð⟩
def Tw:List (Nat×Ü):=[(12,LG),(14,Pk),(21,aa7),(24,Pj),(25,vG),(31,Pg),(35,Ph),(38,aa8),(44,LA),(45,agV),(46,VD)]
def yz (ρ:Type):List (ß ρ):=[]
def FS (ρ:Type):Env ρ:=Ý Tw (yz ρ)
def nD:Ü:=⟨[Ä,tI,tI],[.bool],fun(x:Val í)=>jF x.1 x.2.1 x.2.2⟩
def PK:List (Nat×Ü):=[]
def xr (ρ:Type):List (ß ρ):=[]
def Cn (ρ:Type):Env ρ:=Ý PK (xr ρ)
def Js:Ü:=⟨[tI,tI,tI],[.bool],fun(x:Val ú)=>l6 x.1 x.2.1 x.2.2⟩
def air:List (Nat×Ü):=[]
def Qg (ρ:Type):List (ß ρ):=[]
def abP (ρ:Type):Env ρ:=Ý air (Qg ρ)
def Fy:Ü:=⟨[tI],[.bool],fun(x:Val tI)=>wW x⟩
def aeT:List (Nat×Ü):=[(164,Js)]
def LV (ρ:Type):List (ß ρ):=[]
def VQ (ρ:Type):Env ρ:=Ý aeT (LV ρ)
def Xj:Ü:=⟨[tI,tI],[tI],fun(x:Val Ä)=>Br x.1 x.2⟩
def Ym:Ë:={pin:=0,cs:=[],vs:=[tI,tI],head:=⟨14,[.var tI,.var tI],[]⟩,exits:=[(.exit 0,⟨14,[.var tI],[]⟩,[tI])]}
def Gm (ρ:Type):ß ρ:=⟨[],209,0,Ym,fun(p:Unit) (v:Val Ä) a b=>vT v.1 v.2 (fun c d=>a (c,d)) (b 0)⟩
def aeZ:List (Nat×Ü):=[]
def L2 (ρ:Type):List (ß ρ):=[Gm ρ]
def JY (ρ:Type):Env ρ:=Ý aeZ (L2 ρ)
def Xk:Ü:=⟨[tI],[tI],fun(x:Val tI)=>IE x⟩
def ae1:List (Nat×Ü):=[]
def L5 (ρ:Type):List (ß ρ):=[]
def VW (ρ:Type):Env ρ:=Ý ae1 (L5 ρ)
def VA:Ü:=⟨[Ä],[.bool],fun(x:Val Ä)=>Bp x⟩
def Yh:List (Nat×Ü):=[(209,Xj),(210,Xk)]
def CN (ρ:Type):List (ß ρ):=[]
def LW (ρ:Type):Env ρ:=Ý Yh (CN ρ)
def Vy:Ü:=⟨[Ó],[.bool],fun(x:Val Ó)=>Bo x⟩
def XQ:List (Nat×Ü):=[(94,nD),(100,Fy),(163,VA),(164,Js)]
def Cr (ρ:Type):List (ß ρ):=[]
def LO (ρ:Type):Env ρ:=Ý XQ (Cr ρ)
def yr:Ü:=⟨[Å,tI],[tI],fun(x:Val aH)=>qS x.1 x.2⟩
def TZ:Ë:={pin:=0,cs:=[tI,tI,tI,ac,aa,af,ab,aa],vs:=[tI],head:=⟨22,[.any,.con tI,.box 0 0,.any,.any,.var tI],[bm]⟩,exits:=[(.ret,⟨22,[.any,.con tI,.box 0 0,.any,.var tI],[bm]⟩,[tI]),(.exit 0,⟨22,[.any,.con tI,.box 0 0],[bm]⟩,[])]}
def CH (ρ:Type):ß ρ:=⟨[],166,0,TZ,fun(p:Val aD) (v:Val tI) b a=>rS p.1 p.2.2.2.1 v (fun c=>b c) (a 0) (a 1)⟩
def abR:List (Nat×Ü):=[]
def Gi (ρ:Type):List (ß ρ):=[CH ρ]
def Ef (ρ:Type):Env ρ:=Ý abR (Gi ρ)
def tS:Ü:=⟨[Å,tI,tI],[tI],fun(x:Val aE)=>m6 x.1 x.2.1 x.2.2⟩
def XX:List (Nat×Ü):=[(166,yr)]
def Cv (ρ:Type):List (ß ρ):=[]
def LQ (ρ:Type):Env ρ:=Ý XX (Cv ρ)
def aaU:Ü:=⟨[Å],[tI],fun(x:Val Å)=>Iy x⟩
def TC:Ë:={pin:=0,cs:=[tI,tI,ac,aa,af,ab,aa],vs:=[tI],head:=⟨37,[.any,.box 0 0,.any,.var tI],[bm]⟩,exits:=[(.ret,⟨37,[.any,.box 0 0,.var tI],[bm]⟩,[tI]),(.exit 0,⟨37,[.any,.box 0 0],[bm]⟩,[])]}
def Cm (ρ:Type):ß ρ:=⟨[],96,0,TC,fun(p:Val ai) (v:Val tI) b a=>let A:=p.2.2.2.2;rI p.1 p.2.1 p.2.2.1 p.2.2.2.1 A.1 A.2.1 A.2.2 v (fun c=>b c) (a 0) (a 1)⟩
def abB:List (Nat×Ü):=[(100,Fy),(101,tS)]
def FV (ρ:Type):List (ß ρ):=[Cm ρ]
def D5 (ρ:Type):Env ρ:=Ý abB (FV ρ)
def Vw:Ü:=⟨[Å],[tI],fun(x:Val Å)=>Bn x⟩
def PN:Ë:={pin:=0,cs:=[tI,tI,tI,ac,aa,af,ab,aa,tI,tI,tI,tI],vs:=[tI],head:=⟨111,[.any,.box 0 0,.any,.con tI,.box 1 0,.any,.var tI],bV⟩,exits:=[(.ret,⟨111,[.any,.box 0 0,.var tI,.con tI,.box 1 0],bV⟩,[tI]),(.exit 2,⟨111,[.any,.box 0 0,.any,.con tI,.box 1 0],bV⟩,[])]}
def yI (ρ:Type):ß ρ:=⟨[],97,2,PN,fun(p:Val (.pair tI aA)) (v:Val tI) b a=>let A:=p.2.2.2.2.2;pk p.1 A.1 A.2.2.2.1 A.2.2.2.2.1 A.2.2.2.2.2.1 v (fun c=>b c) (a 0) (a 1)⟩
def PM:Ë:={pin:=0,cs:=[tI,tI,tI,ac,aa,af,ab,aa,tI,tI,tI,tI],vs:=[tI],head:=⟨111,[.any,.box 0 0,.any,.con tI,.box 1 0,.any,.any,.var tI],bV⟩,exits:=[(.ret,⟨111,[.any,.box 0 0,.var tI,.con tI,.box 1 0],bV⟩,[tI]),(.exit 4,⟨111,[.any,.box 0 0,.any,.con tI,.box 1 0],bV⟩,[])]}
def yH (ρ:Type):ß ρ:=⟨[],97,4,PM,fun(p:Val (.pair tI aA)) (v:Val tI) b a=>let A:=p.2.2.2.2;let B:=A.2.2.2.2;lL A.1 B.1 B.2.1 B.2.2.1 v (fun c=>b c) (a 0) (a 1)⟩
def PO:Ë:={pin:=0,cs:=[tI,tI,ac,aa,af,ab,aa],vs:=[tI],head:=⟨111,[.any,.box 0 0,.any,.var tI],[bm]⟩,exits:=[(.ret,⟨111,[.any,.box 0 0,.var tI],[bm]⟩,[tI]),(.exit 0,⟨111,[.any,.box 0 0],[bm]⟩,[])]}
def yJ (ρ:Type):ß ρ:=⟨[],97,0,PO,fun(p:Val ai) (v:Val tI) b a=>let A:=p.2.2.2.2;pl p.1 p.2.1 p.2.2.1 p.2.2.2.1 A.1 A.2.1 A.2.2 v (fun c=>b c) (a 0) (a 1)⟩
def XO:List (Nat×Ü):=[(94,nD),(101,tS),(164,Js)]
def Cp (ρ:Type):List (ß ρ):=[yI ρ,yH ρ,yJ ρ]
def nV (ρ:Type):Env ρ:=Ý XO (Cp ρ)
def aaZ:Ü:=⟨[ae],[.bool],fun(x:Val ae)=>Ap x⟩
def TQ:Ë:={pin:=0,cs:=[ae],vs:=[tI],head:=⟨35,[.con ae,.any,.any,.var tI],[]⟩,exits:=[(.ret,⟨35,[.con ae,.any,.var .bool],[]⟩,[.bool]),(.exit 0,⟨35,[.con ae],[]⟩,[])]}
def Cy (ρ:Type):ß ρ:=⟨[],165,0,TQ,fun(p:Val ae) (v:Val tI) b a=>rO p v (fun c=>b c) (a 0) (a 1)⟩
def abJ:List (Nat×Ü):=[(164,Js)]
def Ga (ρ:Type):List (ß ρ):=[Cy ρ]
def Ea (ρ:Type):Env ρ:=Ý abJ (Ga ρ)
def Vv:Ü:=⟨[Ê],[.bool],fun(x:Val Ê)=>Bm x⟩
def XL:List (Nat×Ü):=[(94,nD),(100,Fy),(164,Js),(165,aaZ)]
def Co (ρ:Type):List (ß ρ):=[]
def LK (ρ:Type):Env ρ:=Ý XL (Co ρ)
def Pc:Ü:=⟨[Å,tI,tI],[ő,.bool],fun(x:Val aE)=>Aq x.1 x.2.1 x.2.2⟩
def TU:Ë:={pin:=0,cs:=[tI,tI,tI,tI,ac,aa,af,ab,aa],vs:=[tI,tI,tI,tI,tI],head:=⟨42,[.any,.con tI,.con tI,.box 0 0,.any,.any,.box 1 0,.any,.var tI],[bm,bQ]⟩,exits:=[(.ret,⟨42,[.any,.con tI,.con tI,.box 0 0,.any,.any,.box 1 0,.var .bool],[bm,bQ]⟩,[.bool,tI,tI,tI,tI]),(.exit 0,⟨42,[.any,.con tI,.con tI,.box 0 0,.any,.any,.box 1 0],[bm,bQ]⟩,[tI,tI,tI,tI])]}
def CE (ρ:Type):ß ρ:=⟨[],167,0,TU,fun(p:Val (.pair tI aD)) (v:Val (.pair tI aw)) b a=>rQ p.1 p.2.1 p.2.2.2.2.2.2.1 v.1 v.2.1 v.2.2.1 v.2.2.2.1 v.2.2.2.2 (fun c d e f g=>b (c,d,e,f,g)) (a 0) (a 1)⟩
def abN:List (Nat×Ü):=[]
def Ge (ρ:Type):List (ß ρ):=[CE ρ]
def Ec (ρ:Type):Env ρ:=Ý abN (Ge ρ)
def agO:Ü:=⟨[ae,tI],[.bool],fun(x:Val aI)=>OD x.1 x.2⟩
def X8:Ë:={pin:=0,cs:=[ae,tI],vs:=[tI],head:=⟨18,[.con ae,.con tI,.any,.any,.any,.var tI],[]⟩,exits:=[(.ret,⟨18,[.con ae,.con tI,.any,.any,.var .bool],[]⟩,[.bool]),(.exit 0,⟨18,[.con ae,.con tI],[]⟩,[])]}
def Gg (ρ:Type):ß ρ:=⟨[],211,0,X8,fun(p:Val aI) (v:Val tI) b a=>vS p.1 p.2 v (fun c=>b c) (a 0) (a 1)⟩
def aeS:List (Nat×Ü):=[]
def LS (ρ:Type):List (ß ρ):=[Gg ρ]
def JP (ρ:Type):Env ρ:=Ý aeS (LS ρ)
def Pd:Ü:=⟨[ae,ae],[ae],fun(x:Val aZ)=>kj x.1 x.2⟩
def TV:Ë:={pin:=0,cs:=[ae,ae],vs:=[tI,ae],head:=⟨28,[.con ae,.con ae,.any,.any,.any,.own 0,.var tI],[.rowv tI]⟩,exits:=[(.exit 0,⟨28,[.con ae,.con ae,.any,.any,.any,.own 0],[.rowv tI]⟩,[ae])]}
def CF (ρ:Type):ß ρ:=⟨[],168,0,TV,fun(p:Val aZ) (v:Val ar) a b=>rR p.1 p.2 v.1 v.2 (fun c d=>a (c,d)) (b 0)⟩
def abO:List (Nat×Ü):=[(211,agO)]
def Gf (ρ:Type):List (ß ρ):=[CF ρ]
def Ed (ρ:Type):Env ρ:=Ý abO (Gf ρ)
def Fx:Ü:=⟨[Å,Ê],[tI],fun(x:Val aB)=>jU x.1 x.2⟩
def F0:Ë:={pin:=0,cs:=[tI,tI,ac,aa,af,ab,aa,tI,tI,ae,ae,tI,tI,tI,tI,ae],vs:=[tI],head:=⟨90,[.any,.any,.box 0 0,.box 1 0,.any,.own 2,.var tI],bW⟩,exits:=[(.ret,⟨90,[.any,.any,.box 0 0,.box 1 0,.var tI,.own 2],bW⟩,[tI]),(.exit 0,⟨90,[.any,.any,.box 0 0,.box 1 0,.any,.own 2],bW⟩,[])]}
def rL (ρ:Type):ß ρ:=⟨[],99,0,F0,fun(p:Val ay) (v:Val tI) b a=>let A:=p.2.2.2.2;kw p.1 p.2.1 p.2.2.1 p.2.2.2.1 A.1 A.2.1 A.2.2.1 A.2.2.2.2.2.2.2.2.2.2.2 v (fun c=>b c) (a 0) (a 1)⟩
def FZ:Ë:={pin:=0,cs:=[tI,tI,ac,aa,af,ab,aa,tI,tI,ae,ae,tI,tI,tI,tI,ae],vs:=[tI],head:=⟨90,[.any,.any,.box 0 0,.box 1 0,.any,.own 2,.any,.var tI],bW⟩,exits:=[(.ret,⟨90,[.any,.any,.box 0 0,.box 1 0,.var tI,.own 2],bW⟩,[tI]),(.exit 2,⟨90,[.any,.any,.box 0 0,.box 1 0,.any,.own 2],bW⟩,[])]}
def rK (ρ:Type):ß ρ:=⟨[],99,2,FZ,fun(p:Val ay) (v:Val tI) b a=>let A:=p.2.2.2.2;jb p.1 p.2.1 p.2.2.1 p.2.2.2.1 A.1 A.2.1 A.2.2.1 A.2.2.2.2.1 A.2.2.2.2.2.2.2.2.2.2.2 v (fun c=>b c) (a 0) (a 1)⟩
def FY:Ë:={pin:=0,cs:=[tI,tI,ac,aa,af,ab,aa,tI,tI,ae,ae,tI,tI,tI,tI,ae],vs:=[tI],head:=⟨90,[.any,.any,.box 0 0,.box 1 0,.any,.own 2,.any,.any,.var tI],bW⟩,exits:=[(.ret,⟨90,[.any,.any,.box 0 0,.box 1 0,.var tI,.own 2],bW⟩,[tI]),(.exit 4,⟨90,[.any,.any,.box 0 0,.box 1 0,.any,.own 2],bW⟩,[])]}
def rJ (ρ:Type):ß ρ:=⟨[],99,4,FY,fun(p:Val ay) (v:Val tI) b a=>let A:=p.2.2.2.2;Φ p.1 p.2.1 p.2.2.1 p.2.2.2.1 A.1 A.2.1 A.2.2.1 A.2.2.2.2.1 A.2.2.2.2.2.2.2.2.2.2.2 v (fun c=>b c) (a 0) (a 1)⟩
def Ng:List (Nat×Ü):=[(101,tS),(166,yr),(167,Pc),(168,Pd)]
def ug (ρ:Type):List (ß ρ):=[rL ρ,rK ρ,rJ ρ]
def jx (ρ:Type):Env ρ:=Ý Ng (ug ρ)
def Fw:Ü:=⟨[ae,ae],[tI],fun(x:Val aZ)=>lZ x.1 x.2⟩
def aeO:List (Nat×Ü):=[(168,Pd)]
def LM (ρ:Type):List (ß ρ):=[]
def VP (ρ:Type):Env ρ:=Ý aeO (LM ρ)
def aaV:Ü:=⟨[Å,Ó,tI],[.bool],fun(x:Val (.pair Å (.pair Ó tI)))=>Iz x.1 x.2.1 x.2.2⟩
def TI:Ë:={pin:=0,cs:=[tI,tI,tI,ac,aa,af,ab,aa,tI,tI,tI,tI,tI,tI,tI,tI],vs:=[tI],head:=⟨76,[.any,.any,.con tI,.box 0 0,.box 1 0,.any,.any,.var tI],[bm,bn]⟩,exits:=[(.ret,⟨76,[.any,.any,.con tI,.box 0 0,.box 1 0,.any,.var .bool],[bm,bn]⟩,[.bool]),(.exit 0,⟨76,[.any,.any,.con tI,.box 0 0,.box 1 0],[bm,bn]⟩,[])]}
def Ct (ρ:Type):ß ρ:=⟨[],169,0,TI,fun(p:Val aC) (v:Val tI) b a=>rM p.1 p.2.2.2.2.2.2.1 p.2.2.2.2.2.2.2.2.1 v (fun c=>b c) (a 0) (a 1)⟩
def TH:Ë:={pin:=0,cs:=[tI,tI,tI,ac,aa,af,ab,aa,tI,tI,tI,tI,tI,tI,tI,tI],vs:=[tI],head:=⟨76,aN 2 (.con tI::.box 0 0::.box 1 0::aN 4 [.var tI]),[bm,bn]⟩,exits:=[(.ret,⟨76,[.any,.any,.con tI,.box 0 0,.box 1 0,.any,.var .bool],[bm,bn]⟩,[.bool]),(.exit 2,⟨76,[.any,.any,.con tI,.box 0 0,.box 1 0],[bm,bn]⟩,[])]}
def Cs (ρ:Type):ß ρ:=⟨[],169,2,TH,fun(p:Val aC) (v:Val tI) b a=>nW p.1 p.2.2.2.2.2.2.2.1 p.2.2.2.2.2.2.2.2.1 v (fun c=>b c) (a 0) (a 1)⟩
def abE:List (Nat×Ü):=[(158,Fw)]
def F1 (ρ:Type):List (ß ρ):=[Ct ρ,Cs ρ]
def vP (ρ:Type):Env ρ:=Ý abE (F1 ρ)
def tT:Ü:=⟨[Å],[aa],fun(x:Val Å)=>jV x⟩
def P6:Ë:={pin:=0,cs:=[tI,tI,ac,aa,af,ab,aa],vs:=[tI,ae],head:=⟨114,[.any,.box 0 0,.any,.own 1,.var tI],cI⟩,exits:=[(.exit 0,⟨114,[.any,.box 0 0,.any,.own 1],cI⟩,[ae])]}
def yU (ρ:Type):ß ρ:=⟨[],102,0,P6,fun(p:Val ai) (v:Val ar) a b=>pp p.2.2.1 v.1 v.2 (fun c d=>a (c,d)) (b 0)⟩
def P5:Ë:={pin:=0,cs:=[tI,tI,ac,aa,af,ab,aa],vs:=[tI,ae],head:=⟨114,[.any,.box 0 0,.any,.own 1,.any,.var tI],cI⟩,exits:=[(.exit 2,⟨114,[.any,.box 0 0,.any,.own 1],cI⟩,[ae])]}
def yT (ρ:Type):ß ρ:=⟨[],102,2,P5,fun(p:Val ai) (v:Val ar) a b=>po p.2.2.2.2.2.1 v.1 v.2 (fun c d=>a (c,d)) (b 0)⟩
def P4:Ë:={pin:=0,cs:=[tI,tI,ac,aa,af,ab,aa],vs:=[tI,ae],head:=⟨114,[.any,.box 0 0,.any,.own 1,.any,.any,.var tI],cI⟩,exits:=[(.exit 4,⟨114,[.any,.box 0 0,.any,.own 1],cI⟩,[ae])]}
def yS (ρ:Type):ß ρ:=⟨[],102,4,P4,fun(p:Val ai) (v:Val ar) a b=>pn p.2.2.2.2.2.2 v.1 v.2 (fun c d=>a (c,d)) (b 0)⟩
def yN:Ë:={pin:=0,cs:=[tI,tI,tI,tI,ac,aa,af,ab,aa,ae,aa],vs:=[tI,tI],head:=⟨114,[.any,.box 0 0,.any,.own 1,.any,.any,.any,.own 2,.con tI,.con tI,.var tI,.var tI],[bm,.rowc tI,.rowc Ä]⟩,exits:=[(.exit 10,⟨114,[.any,.box 0 0,.any,.own 1,.any,.any,.any,.own 2,.con tI,.con tI,.var tI],[bm,.rowc tI,.rowc Ä]⟩,[tI])]}
def yM (ρ:Type):ß ρ:=⟨[],102,10,yN,fun(p:Val (tyL yN.cs)) (v:Val Ä) a b=>lM p.2.1 p.2.2.2.2.2.2.2.2.2.1 v.1 v.2 (fun c d=>a (c,d)) (b 0)⟩
def yP:Ë:={pin:=0,cs:=[tI,tI,tI,ac,aa,af,ab,aa,ae],vs:=[tI,aa],head:=⟨114,[.any,.box 0 0,.any,.own 1,.any,.any,.any,.own 2,.con tI,.var tI],cJ⟩,exits:=[(.exit 8,⟨114,[.any,.box 0 0,.any,.own 1,.any,.any,.any,.own 2,.con tI],cJ⟩,[aa])]}
def yO (ρ:Type):ß ρ:=⟨[],102,8,yP,fun(p:Val (tyL yP.cs)) (v:Val aF) a b=>let A:=p.2.2.2.2;lN p.1 p.2.1 p.2.2.1 p.2.2.2.1 A.1 A.2.1 A.2.2.1 A.2.2.2.1 A.2.2.2.2 v.1 v.2 (fun c d=>a (c,d)) (b 0)⟩
def yR:Ë:={pin:=0,cs:=[tI,tI,ac,aa,af,ab,aa,ae],vs:=[tI,aa],head:=⟨114,[.any,.box 0 0,.any,.own 1,.any,.any,.any,.own 2,.var tI],cJ⟩,exits:=[(.exit 6,⟨114,[.any,.box 0 0,.any,.own 1,.any,.any,.any,.own 2],cJ⟩,[aa])]}
def yQ (ρ:Type):ß ρ:=⟨[],102,6,yR,fun(p:Val (tyL yR.cs)) (v:Val aF) a b=>let A:=p.2.2.2.2;pm p.1 p.2.1 p.2.2.1 p.2.2.2.1 A.1 A.2.1 A.2.2.1 A.2.2.2 v.1 v.2 (fun c d=>a (c,d)) (b 0)⟩
def X2:List (Nat×Ü):=[(169,aaV)]
def CB (ρ:Type):List (ß ρ):=[yU ρ,yT ρ,yS ρ,yM ρ,yO ρ,yQ ρ]
def iK (ρ:Type):Env ρ:=Ý X2 (CB ρ)
def tU:Ü:=⟨[Å,Ä],[tI],fun(x:Val aE)=>Ĭ x.1 x.2⟩
def Qf:Ë:={pin:=0,cs:=[aa,tI,tI],vs:=[tI],head:=⟨23,[.any,.any,.any,.box 0 0,.any,.con aa,.var tI],[bt]⟩,exits:=[(.ret,⟨23,[.any,.any,.any,.box 0 0,.var tI,.con aa],[bt]⟩,[tI]),(.exit 0,⟨23,[.any,.any,.any,.box 0 0,.any,.con aa],[bt]⟩,[])]}
def yV (ρ:Type):ß ρ:=⟨[],52,0,Qf,fun(p:Val aV) (v:Val tI) b a=>pq p.1 p.2.1 p.2.2 v (fun c=>b c) (a 0) (a 1)⟩
def X7:List (Nat×Ü):=[(102,tT)]
def CG (ρ:Type):List (ß ρ):=[yV ρ]
def yW (ρ:Type):Env ρ:=Ý X7 (CG ρ)
def aaX:Ü:=⟨[Å,tI,tI],[.bool],fun(x:Val aE)=>IA x.1 x.2.1 x.2.2⟩
def TJ:Ë:={pin:=0,cs:=[tI,tI,tI,tI,ac,aa,af,ab,aa],vs:=[tI],head:=⟨33,[.any,.con tI,.con tI,.box 0 0,.any,.any,.any,.var tI],[bm]⟩,exits:=[(.ret,⟨33,[.any,.con tI,.con tI,.box 0 0,.any,.any,.var .bool],[bm]⟩,[.bool]),(.exit 0,⟨33,[.any,.con tI,.con tI,.box 0 0],[bm]⟩,[])]}
def Cu (ρ:Type):ß ρ:=⟨[],212,0,TJ,fun(p:Val (.pair tI aD)) (v:Val tI) b a=>rN p.1 p.2.1 p.2.2.2.2.2.1 v (fun c=>b c) (a 0) (a 1)⟩
def abG:List (Nat×Ü):=[]
def F3 (ρ:Type):List (ß ρ):=[Cu ρ]
def D9 (ρ:Type):Env ρ:=Ý abG (F3 ρ)
def aa1:Ü:=⟨[Å,tI,tI,tI],[tI],fun(x:Val (.pair Å ú))=>vh x.1 x.2.1 x.2.2.1 x.2.2.2⟩
def CD:Ë:={pin:=0,cs:=[tI,tI,tI,tI,tI,ac,aa,af,ab,aa],vs:=[tI,tI],head:=⟨48,.any::.con tI::.any::.con tI::.box 0 0::aN 4 [.con tI,.var tI,.var tI],[bm]⟩,exits:=[(.exit 0,⟨48,.any::.con tI::.any::.con tI::.box 0 0::aN 4 [.con tI,.var tI],[bm]⟩,[tI])]}
def CC (ρ:Type):ß ρ:=⟨[],170,0,CD,fun(p:Val (tyL CD.cs)) (v:Val Ä) a b=>let A:=p.2.2.2.2;rP p.1 p.2.1 p.2.2.1 p.2.2.2.1 A.1 A.2.1 A.2.2.1 A.2.2.2.1 A.2.2.2.2.1 A.2.2.2.2.2 v.1 v.2 (fun c d=>a (c,d)) (b 0)⟩
def abL:List (Nat×Ü):=[(166,yr),(167,Pc),(212,aaX)]
def Gc (ρ:Type):List (ß ρ):=[CC ρ]
def Eb (ρ:Type):Env ρ:=Ý abL (Gc ρ)
def DR:Ü:=⟨[tI,tI],[Ļ],fun(x:Val Ä)=>qU x.1 x.2⟩
def T4:List (Nat×Ü):=[(209,Xj),(210,Xk)]
def zm (ρ:Type):List (ß ρ):=[]
def Gj (ρ:Type):Env ρ:=Ý T4 (zm ρ)
def agS:Ü:=⟨[Ä,Ä],[Ļ],fun(x:Val í)=>ZI x.1 x.2⟩
def ae0:List (Nat×Ü):=[(285,DR)]
def L4 (ρ:Type):List (ß ρ):=[]
def VV (ρ:Type):Env ρ:=Ý ae0 (L4 ρ)
def agQ:Ü:=⟨[Ä],[Ä],fun(x:Val Ä)=>ZH x⟩
def aeX:List (Nat×Ü):=[]
def LZ (ρ:Type):List (ß ρ):=[]
def VT (ρ:Type):Env ρ:=Ý aeX (LZ ρ)
def agP:Ü:=⟨[Ä,Ä],[Ļ],fun(x:Val í)=>OE x.1 x.2⟩
def aeW:List (Nat×Ü):=[(268,agS),(269,agQ)]
def LX (ρ:Type):List (ß ρ):=[]
def VS (ρ:Type):Env ρ:=Ý aeW (LX ρ)
def Vx:Ü:=⟨[Å,tI],[Ä],fun(x:Val aH)=>vf x.1 x.2⟩
def XP:List (Nat×Ü):=[(166,yr)]
def Cq (ρ:Type):List (ß ρ):=[]
def LN (ρ:Type):Env ρ:=Ý XP (Cq ρ)
def aa4:Ü:=⟨[Ļ,Ļ],[tN],fun(x:Val (.pair Ļ Ļ))=>IC x.1 x.2⟩
def abV:List (Nat×Ü):=[]
def Gl (ρ:Type):List (ß ρ):=[]
def Qy (ρ:Type):Env ρ:=Ý abV (Gl ρ)
def agR:Ü:=⟨[Ä,Ä],[Ļ],fun(x:Val í)=>wX x.1 x.2⟩
def aeY:List (Nat×Ü):=[(285,DR)]
def L1 (ρ:Type):List (ß ρ):=[]
def VU (ρ:Type):Env ρ:=Ý aeY (L1 ρ)
def VB:Ü:=⟨[í,Ä],[tN],fun(x:Val (.pair í Ä))=>Bq x.1 x.2⟩
def Yj:List (Nat×Ü):=[(270,aa4),(271,agR)]
def CO (ρ:Type):List (ß ρ):=[]
def LY (ρ:Type):Env ρ:=Ý Yj (CO ρ)
def DQ:Ü:=⟨[Å,Ê],[í],fun(x:Val aB)=>m7 x.1 x.2⟩
def TY:List (Nat×Ü):=[(158,Fw),(242,agP),(243,Vx),(244,VB)]
def yX (ρ:Type):List (ß ρ):=[]
def Gh (ρ:Type):Env ρ:=Ý TY (yX ρ)
def Jt:Ü:=⟨[Å,Ê],[Ä],fun(x:Val aB)=>pY x.1 x.2⟩
def Yb:List (Nat×Ü):=[]
def CJ (ρ:Type):List (ß ρ):=[]
def LU (ρ:Type):Env ρ:=Ý Yb (CJ ρ)
def aj1:Ü:=⟨[tI,tI],[tI],fun(x:Val Ä)=>afG x.1 x.2⟩
def ais:List (Nat×Ü):=[]
def Qu (ρ:Type):List (ß ρ):=[]
def abT (ρ:Type):Env ρ:=Ý ais (Qu ρ)
def Pf:Ü:=⟨[Ä],[tI],fun(x:Val Ä)=>Ar x⟩
def ab0:List (Nat×Ü):=[(245,aj1)]
def Gn (ρ:Type):List (ß ρ):=[]
def QA (ρ:Type):Env ρ:=Ý ab0 (Gn ρ)
def aa3:Ü:=⟨[tI,tI],[tI],fun(x:Val Ä)=>Sr x.1 x.2⟩
def abU:List (Nat×Ü):=[]
def Gk (ρ:Type):List (ß ρ):=[]
def Qw (ρ:Type):Env ρ:=Ý abU (Gk ρ)
def Jv:Ü:=⟨[Ä],[tI],fun(x:Val Ä)=>vl x⟩
def Yo:List (Nat×Ü):=[(246,aa3)]
def CP (ρ:Type):List (ß ρ):=[]
def L3 (ρ:Type):Env ρ:=Ý Yo (CP ρ)
def aaY:Ü:=⟨[Å,Ê],[Ä],fun(x:Val aB)=>jG x.1 x.2⟩
def abI:List (Nat×Ü):=[(205,DQ),(206,Jt),(207,Pf),(208,Jv)]
def F8 (ρ:Type):List (ß ρ):=[]
def PX (ρ:Type):Env ρ:=Ý abI (F8 ρ)
def Xi:Ü:=⟨[Å],[xl],fun(x:Val Å)=>pD x⟩
def XV:Ë:={pin:=0,cs:=[aa,tI,tI,tI,ac,aa,af,ab,aa,tI,tI,tI,tI,tI,tI,tI,tI],vs:=[tI,ah,aa],head:=⟨182,[.any,.box 0 0,.box 1 0,.box 2 0,.con aa,.con tI,.box 3 0,.var tI],[bm,bR,.cells [.own 4,.own 5],bn,.rowv ú,.rowv Ä]⟩,exits:=[(.exit 2,⟨182,[.any,.box 0 0,.box 1 0,.box 2 0,.con aa,.con tI,.box 3 0],[bm,bR,.cells [.own 4,.own 5],bn,.rowv ú,.rowv Ä]⟩,[ah,aa])]}
def F5 (ρ:Type):ß ρ:=⟨[],103,2,XV,fun(p:Val (.pair aa aC)) (v:Val aO) a b=>let A:=p.2.2.2.2;let B:=A.2.2.2.2;kL p.1 p.2.1 p.2.2.1 p.2.2.2.1 A.1 A.2.1 A.2.2.1 A.2.2.2.1 B.1 B.2.1 B.2.2.1 B.2.2.2.1 B.2.2.2.2.1 B.2.2.2.2.2.1 v.1 v.2.1 v.2.2 (fun c d e=>a (c,d,e)) (b 0)⟩
def XW:Ë:={pin:=0,cs:=[aa,tI,tI,ac,aa,af,ab,aa],vs:=[tI,ah,aa],head:=⟨182,[.any,.box 0 0,.box 1 0,.box 2 0,.con aa,.var tI],cM⟩,exits:=[(.exit 0,⟨182,[.any,.box 0 0,.box 1 0,.box 2 0,.con aa],cM⟩,[ah,aa])]}
def F6 (ρ:Type):ß ρ:=⟨[],103,0,XW,fun(p:Val (.pair aa ai)) (v:Val aO) a b=>let A:=p.2.2.2.2;mP p.1 p.2.1 p.2.2.1 p.2.2.2.1 A.1 A.2.1 A.2.2.1 A.2.2.2 v.1 v.2.1 v.2.2 (fun c d e=>a (c,d,e)) (b 0)⟩
def XU:Ë:={pin:=0,cs:=[tI,tI,ac,aa,af,ab,aa],vs:=[tI,ah,aa],head:=⟨182,.any::.box 0 0::.box 1 0::.box 2 0::aN 5 [.var tI],cM⟩,exits:=[(.exit 4,⟨182,[.any,.box 0 0,.box 1 0,.box 2 0],cM⟩,[ah,aa])]}
def F4 (ρ:Type):ß ρ:=⟨[],103,4,XU,fun(p:Val ai) (v:Val aO) a b=>let A:=p.2.2.2.2;mO p.1 p.2.1 p.2.2.1 p.2.2.2.1 A.1 A.2.1 A.2.2 v.1 v.2.1 v.2.2 (fun c d e=>a (c,d,e)) (b 0)⟩
def aeP:List (Nat×Ü):=[(52,tU),(102,tT),(158,Fw),(170,aa1),(171,aaY)]
def LP (ρ:Type):List (ß ρ):=[F5 ρ,F6 ρ,F4 ρ]
def uh (ρ:Type):Env ρ:=Ý aeP (LP ρ)
def A0:Ü:=⟨[Å],[tI],fun(x:Val Å)=>jg x⟩
def Qn:Ë:={pin:=0,cs:=[tI,tI,ac,aa,af,ab,aa],vs:=[tI],head:=⟨170,[.any,.box 0 0,.any,.var tI],[bm]⟩,exits:=[(.ret,⟨170,[.any,.box 0 0,.var tI],[bm]⟩,[tI]),(.exit 0,⟨170,[.any,.box 0 0],[bm]⟩,[])]}
def za (ρ:Type):ß ρ:=⟨[],41,0,Qn,fun(p:Val ai) (v:Val tI) b a=>pu p.2.2.1 v (fun c=>b c) (a 0) (a 1)⟩
def Ql:Ë:={pin:=0,cs:=[tI,tI,tI,ac,aa,af,ab,aa],vs:=[tI],head:=⟨170,.any::.box 0 0::aN 4 [.con tI,.any,.var tI],[bm]⟩,exits:=[(.ret,⟨170,[.any,.box 0 0,.var tI,.any,.any,.any,.con tI],[bm]⟩,[tI]),(.exit 4,⟨170,.any::.box 0 0::aN 4 [.con tI],[bm]⟩,[])]}
def yZ (ρ:Type):ß ρ:=⟨[],41,4,Ql,fun(p:Val aD) (v:Val tI) b a=>pr p.1 p.2.2.2.2.2.2.1 v (fun c=>b c) (a 0) (a 1)⟩
def Qm:Ë:={pin:=0,cs:=[tI,tI,ac,aa,af,ab,aa],vs:=[tI],head:=⟨170,.any::.box 0 0::aN 4 [.var tI],[bm]⟩,exits:=[(.ret,⟨170,[.any,.box 0 0,.var tI],[bm]⟩,[tI]),(.exit 2,⟨170,[.any,.box 0 0],[bm]⟩,[])]}
def y0 (ρ:Type):ß ρ:=⟨[],41,2,Qm,fun(p:Val ai) (v:Val tI) b a=>let A:=p.2.2.2.2;jP p.1 p.2.1 p.2.2.1 p.2.2.2.1 A.1 A.2.1 A.2.2 v (fun c=>b c) (a 0) (a 1)⟩
def Qk:Ë:={pin:=0,cs:=[tI,tI,ac,aa,af,ab,aa],vs:=[tI],head:=⟨170,.any::.box 0 0::aN 7 [.var tI],[bm]⟩,exits:=[(.ret,⟨170,[.any,.box 0 0,.var tI],[bm]⟩,[tI]),(.exit 6,⟨170,[.any,.box 0 0],[bm]⟩,[])]}
def yY (ρ:Type):ß ρ:=⟨[],41,6,Qk,fun(p:Val ai) (v:Val tI) b a=>let A:=p.2.2.2.2;jO p.1 p.2.1 p.2.2.1 p.2.2.2.1 A.1 A.2.1 A.2.2 v (fun c=>b c) (a 0) (a 1)⟩
def Yd:List (Nat×Ü):=[(94,nD),(95,Vy),(96,aaU),(97,Vw),(98,Vv),(99,Fx),(100,Fy),(101,tS),(102,tT),(103,Xi)]
def CL (ρ:Type):List (ß ρ):=[za ρ,yZ ρ,y0 ρ,yY ρ]
def kX (ρ:Type):Env ρ:=Ý Yd (CL ρ)
def vE:Ü:=⟨[Å],[Ñ],fun(x:Val Å)=>gZ x⟩
def TN:List (Nat×Ü):=[(102,tT),(103,Xi)]
def yK (ρ:Type):List (ß ρ):=[]
def F7 (ρ:Type):Env ρ:=Ý TN (yK ρ)
def aa2:Ü:=⟨[Å,Ä],[Å,tI],fun(x:Val aE)=>vk x.1 x.2⟩
def abM:List (Nat×Ü):=[(41,A0)]
def Gd (ρ:Type):List (ß ρ):=[]
def P9 (ρ:Type):Env ρ:=Ý abM (Gd ρ)
def Ju:Ü:=⟨[Ñ],[am,.bool],fun(x:Val Ñ)=>pZ x⟩
def zk:Ë:={pin:=1,cs:=[tI,tI,tI,ah,am],vs:=[tI,ae],head:=⟨33,[.con tI,.any,.any,.dp 1,.con tI,.own 2,.var tI],[bu,.deepc .i64,.rowv tI]⟩,exits:=[(.exit 2,⟨33,[.con tI,.any,.any,.dp 1,.con tI,.own 2],[bu,.deepc .i64,.rowv tI]⟩,[ae])]}
def zj (ρ:Type):ß ρ:=⟨[1,2],115,2,zk,fun(p:Val (tyL zk.cs)) (v:Val ar) a b=>lS p.1 p.2.1 v.1 v.2 (fun c d=>a (c,d)) (b 0)⟩
def Qt:Ë:={pin:=1,cs:=[tI,tI,ah],vs:=[tI,am],head:=⟨33,[.con tI,.any,.any,.dp 1,.var tI],cN⟩,exits:=[(.exit 0,⟨33,[.con tI,.any,.any,.dp 1],cN⟩,[am])]}
def zl (ρ:Type):ß ρ:=⟨[1,2],115,0,Qt,fun(p:Val aG) (v:Val aP) a b=>lT p.1 v.1 v.2 (fun c d=>a (c,d)) (b 0)⟩
def Qs:Ë:={pin:=0,cs:=[tI,ah],vs:=[tI,am],head:=⟨124,[.any,.box 0 0,.any,.any,.dp 1,.var tI],cN⟩,exits:=[(.exit 0,⟨124,[.any,.box 0 0,.any,.any,.dp 1],cN⟩,[am])]}
def zi (ρ:Type):ß ρ:=⟨[],54,0,Qs,fun(p:Val Ñ) (v:Val aP) a b=>lR p.2 v.1 v.2 (fun c d=>a (c,d)) (b 0)⟩
def Qp:Ë:={pin:=0,cs:=[tI,tI,tI,ah],vs:=[tI,am],head:=⟨124,[.any,.box 0 0,.any,.any,.dp 1,.any,.any,.con tI,.con tI,.var tI],cN⟩,exits:=[(.exit 6,⟨124,[.any,.box 0 0,.any,.any,.dp 1,.any,.any,.con tI,.con tI],cN⟩,[am])]}
def ze (ρ:Type):ß ρ:=⟨[],54,6,Qp,fun(p:Val (.pair tI aG)) (v:Val aP) a b=>lP p.1 p.2.1 p.2.2.1 v.1 v.2 (fun c d=>a (c,d)) (b 0)⟩
def Qq:Ë:={pin:=0,cs:=[tI,tI,ah],vs:=[tI,am],head:=⟨124,[.any,.box 0 0,.any,.any,.dp 1,.any,.any,.con tI,.var tI],cN⟩,exits:=[(.exit 4,⟨124,[.any,.box 0 0,.any,.any,.dp 1,.any,.any,.con tI],cN⟩,[am])]}
def zf (ρ:Type):ß ρ:=⟨[],54,4,Qq,fun(p:Val aG) (v:Val aP) a b=>lQ p.1 p.2.1 v.1 v.2 (fun c d=>a (c,d)) (b 0)⟩
def zd:Ë:={pin:=0,cs:=[tI,tI,ah,am],vs:=[tI],head:=⟨124,[.any,.box 0 0,.any,.any,.dp 1,.any,.any,.con tI,.any,.any,.var tI],[bu,.deepc .i64]⟩,exits:=[(.ret,⟨124,[.any,.box 0 0,.nils,.var .bool,.dp 1,.any,.any,.con tI],[bu,.deepc .i64]⟩,[.bool]),(.exit 8,⟨124,[.any,.box 0 0,.any,.any,.dp 1,.any,.any,.con tI],[bu,.deepc .i64]⟩,[])]}
def zc (ρ:Type):ß ρ:=⟨[],54,8,zd,fun(p:Val (tyL zd.cs)) (v:Val tI) b a=>iS p.2.1 p.2.2.2 v (fun c=>b c) (a 0) (a 1)⟩
def Qr:Ë:={pin:=0,cs:=[tI,ah],vs:=[tI,am],head:=⟨124,[.any,.box 0 0,.any,.any,.dp 1,.any,.any,.var tI],cN⟩,exits:=[(.ret,⟨124,[.any,.box 0 0,.nils,.var .bool,.dp 1],cN⟩,[.bool,am]),(.exit 2,⟨124,[.any,.box 0 0,.any,.any,.dp 1],cN⟩,[am])]}
def zh (ρ:Type):ß ρ:=⟨[],54,2,Qr,fun(p:Val Ñ) (v:Val aP) b a=>jQ p.1 v.1 v.2 (fun c d=>b (c,d)) (a 0) (a 1)⟩
def Ye:List (Nat×Ü):=[]
def CM (ρ:Type):List (ß ρ):=[zj ρ,zl ρ,zi ρ,ze ρ,zf ρ,zc ρ,zh ρ]
def θ (ρ:Type):Env ρ:=Ý Ye (CM ρ)
def Pa:Ü:=⟨[Å,aa],[qk],fun(x:Val (.pair Å aa))=>Ţ x.1 x.2⟩
def TB:Ë:={pin:=0,cs:=[aa],vs:=[tI,tI,tI,ac,aa,af,ab,aa,tI,tI,tI,tI],head:=⟨59,[.any,.con aa,.box 0 0,.any,.box 1 0,.any,.var tI],[bD,bT]⟩,exits:=[(.ret,⟨59,[.any,.con aa,.box 0 0,.any,.box 1 0],[bD,bT]⟩,[tI,tI,ac,aa,af,ab,aa,tI,tI,tI,tI]),(.exit 0,⟨59,[.any,.con aa,.box 0 0,.any,.box 1 0],[bD,bT]⟩,[tI,tI,ac,aa,af,ab,aa,tI,tI,tI,tI])]}
def Ck (ρ:Type):ß ρ:=⟨[],15,0,TB,fun(p:Val aa) (v:Val (.pair tI aA)) b a=>nT p v.1 v.2.1 v.2.2.1 v.2.2.2.1 v.2.2.2.2.1 v.2.2.2.2.2.1 v.2.2.2.2.2.2.1 v.2.2.2.2.2.2.2.1 v.2.2.2.2.2.2.2.2.1 v.2.2.2.2.2.2.2.2.2.1 v.2.2.2.2.2.2.2.2.2.2.1 v.2.2.2.2.2.2.2.2.2.2.2 (fun c d e f g h i j k l m n=>b (c,d,e,f,g,h,i,j,k,l,m,n)) (a 0) (a 1)⟩
def abA:List (Nat×Ü):=[(41,A0),(43,vE),(52,tU),(53,aa2),(54,Ju)]
def FU (ρ:Type):List (ß ρ):=[Ck ρ]
def D4 (ρ:Type):Env ρ:=Ý abA (FU ρ)
def agW:Ü:=⟨[Å,Ä,ab],[tI,tI],fun(x:Val (.pair Å (.pair Ä ab)))=>nw x.1 x.2.1 x.2.2⟩
def Hf:Ë:={pin:=3,cs:=[tI,tI,tI,ac,aa,af,ab,aa,tI,tI,aa],vs:=[tI,tI,tI,ac,aa,af,ab,aa],head:=⟨68,aN 2 (.box 3 0::aN 20 [.own 2,.con tI,.var tI]),[bm,bt,.rowc Ä,bD]⟩,exits:=[(.ret,⟨68,aN 2 (.box 3 0::.any::.nilp::.var tI::aN 17 [.own 2,.con tI]),[bm,bt,.rowc Ä,bD]⟩,[tI,tI,tI,ac,aa,af,ab,aa]),(.exit 0,⟨68,aN 2 (.box 3 0::aN 20 [.own 2,.con tI]),[bm,bt,.rowc Ä,bD]⟩,[tI,tI,ac,aa,af,ab,aa])]}
def He (ρ:Type):ß ρ:=⟨[1,3],47,0,Hf,fun(p:Val (tyL Hf.cs)) (v:Val aD) b a=>Ex p.1 p.2.2.2.2.2.2.2.2.2.2 v.1 v.2.1 v.2.2.1 v.2.2.2.1 v.2.2.2.2.1 v.2.2.2.2.2.1 v.2.2.2.2.2.2.1 v.2.2.2.2.2.2.2 (fun c d e f g h i j=>b (c,d,e,f,g,h,i,j)) (a 0) (a 1)⟩
def Hc:Ë:={pin:=0,cs:=[au,ab,tI,tI,tI],vs:=[tI,ae],head:=⟨57,aN 4 (.box 0 0::aN 3 (.con au::.any::.own 1::aN 20 [.con ab,.con tI,.var tI])),[bt,.rowv tI]⟩,exits:=[(.ret,⟨57,aN 4 (.box 0 0::.any::.var tI::.var tI::.con au::.any::.own 1::aN 20 [.con ab,.con tI]),[bt,.rowv tI]⟩,[tI,tI,ae]),(.exit 0,⟨57,aN 4 (.box 0 0::aN 3 (.con au::.any::.own 1::aN 20 [.con ab,.con tI])),[bt,.rowv tI]⟩,[ae])]}
def Hb (ρ:Type):ß ρ:=⟨[],32,0,Hc,fun(p:Val (tyL Hc.cs)) (v:Val ar) b a=>mW p.1 p.2.1 p.2.2.1 p.2.2.2.1 p.2.2.2.2 v.1 v.2 (fun c d=>b (c,d)) (a 0) (a 1)⟩
def YJ:Ë:={pin:=2,cs:=[tI,tI,ae],vs:=[tI,tI],head:=⟨25,[.own 1,.any,.any,.var tI,.var tI],[bt,.rowc tI]⟩,exits:=[(.exit 0,⟨25,[.own 1,.any,.any,.var tI],[bt,.rowc tI]⟩,[tI])]}
def Ha (ρ:Type):ß ρ:=⟨[17,2],79,0,YJ,fun(p:Val aK) (v:Val Ä) a b=>wm p.2.2 v.1 v.2 (fun c d=>a (c,d)) (b 0)⟩
def ae8:List (Nat×Ü):=[(66,ş),(67,jv),(68,ũ),(76,A1),(77,qq),(78,mE),(110,pf),(111,Ś)]
def Mg (ρ:Type):List (ß ρ):=[He ρ,Hb ρ,Ha ρ]
def uF (ρ:Type):Env ρ:=Ý ae8 (Mg ρ)
def Pb:Ü:=⟨[Å,Ê],[Å],fun(x:Val aB)=>ve x.1 x.2⟩
def abD:List (Nat×Ü):=[]
def FW (ρ:Type):List (ß ρ):=[]
def PL (ρ:Type):Env ρ:=Ý abD (FW ρ)
def aaW:Ü:=⟨[Å,Ê],[Å,tI],fun(x:Val aB)=>vg x.1 x.2⟩
def abF:List (Nat×Ü):=[(41,A0),(156,Pb)]
def F2 (ρ:Type):List (ß ρ):=[]
def PS (ρ:Type):Env ρ:=Ý abF (F2 ρ)
def aa0:Ü:=⟨[Ñ],[.bool],fun(x:Val Ñ)=>IB x⟩
def TR:Ë:={pin:=0,cs:=[tI,tI,ah],vs:=[.bool,tI,ae],head:=⟨60,[.any,.box 0 0,.any,.own 1,.var .bool,.con tI,.var tI],ca⟩,exits:=[(.exit 2,⟨60,[.any,.box 0 0,.any,.own 1,.var .bool,.con tI],ca⟩,[.bool,ae])]}
def Cz (ρ:Type):ß ρ:=⟨[],157,2,TR,fun(p:Val aG) (v:Val ba) a b=>nX p.2.2 v.1 v.2.1 v.2.2 (fun c d e=>a (c,d,e)) (b 0)⟩
def TS:Ë:={pin:=0,cs:=[tI,ah],vs:=[.bool,tI,ae],head:=⟨60,[.any,.box 0 0,.any,.own 1,.var .bool,.var tI],ca⟩,exits:=[(.exit 0,⟨60,[.any,.box 0 0,.any,.own 1,.var .bool],ca⟩,[.bool,ae])]}
def CA (ρ:Type):ß ρ:=⟨[],157,0,TS,fun(p:Val Ñ) (v:Val ba) a b=>nY p.1 p.2 v.1 v.2.1 v.2.2 (fun c d e=>a (c,d,e)) (b 0)⟩
def abK:List (Nat×Ü):=[]
def Gb (ρ:Type):List (ß ρ):=[Cz ρ,CA ρ]
def vR (ρ:Type):Env ρ:=Ý abK (Gb ρ)
def Vz:Ü:=⟨[Å,Ê,tI],[Ä],fun(x:Val (.pair Å (.pair Ê tI)))=>lf x.1 x.2.1 x.2.2⟩
def XY:List (Nat×Ü):=[(205,DQ),(206,Jt),(207,Pf),(208,Jv)]
def Cw (ρ:Type):List (ß ρ):=[]
def LR (ρ:Type):Env ρ:=Ý XY (Cw ρ)
def Pe:Ü:=⟨[Ñ,tI],[ae],fun(x:Val (.pair Ñ tI))=>qT x.1 x.2⟩
def Nw:Ë:={pin:=0,cs:=[tI,tI,ah],vs:=[tI,ae],head:=⟨82,[.any,.con tI,.box 0 0,.any,.any,.own 1,.var tI],ca⟩,exits:=[(.exit 0,⟨82,[.any,.con tI,.box 0 0,.any,.any,.own 1],ca⟩,[ae])]}
def xw (ρ:Type):ß ρ:=⟨[],160,0,Nw,fun(p:Val aG) (v:Val ar) a b=>np p.2.1 v.1 v.2 (fun c d=>a (c,d)) (b 0)⟩
def Nu:Ë:={pin:=0,cs:=[tI,tI,ah],vs:=[.bool,tI,ae],head:=⟨82,[.any,.any,.box 0 0,.any,.any,.own 1,.any,.var .bool,.con tI,.var tI],ca⟩,exits:=[(.exit 4,⟨82,[.any,.any,.box 0 0,.any,.any,.own 1,.any,.var .bool,.con tI],ca⟩,[.bool,ae])]}
def xu (ρ:Type):ß ρ:=⟨[],160,4,Nu,fun(p:Val aG) (v:Val ba) a b=>kf p.2.2 v.1 v.2.1 v.2.2 (fun c d e=>a (c,d,e)) (b 0)⟩
def Nv:Ë:={pin:=0,cs:=[tI,ah],vs:=[.bool,tI,ae],head:=⟨82,[.any,.any,.box 0 0,.any,.any,.own 1,.any,.var .bool,.var tI],ca⟩,exits:=[(.exit 2,⟨82,[.any,.any,.box 0 0,.any,.any,.own 1],ca⟩,[ae])]}
def xv (ρ:Type):ß ρ:=⟨[],160,2,Nv,fun(p:Val Ñ) (v:Val ba) a b=>kg p.1 p.2 v.1 v.2.1 v.2.2 (fun c d e=>a (c,d,e)) (b 0)⟩
def T2:List (Nat×Ü):=[]
def zb (ρ:Type):List (ß ρ):=[xw ρ,xu ρ,xv ρ]
def lO (ρ:Type):Env ρ:=Ý T2 (zb ρ)
def LC:Ü:=⟨[Å,Ê],[Ä,tI],fun(x:Val aB)=>lg x.1 x.2⟩
def PY:List (Nat×Ü):=[(43,vE),(52,tU),(156,Pb),(157,aa0),(158,Fw),(159,Vz),(160,Pe)]
def xt (ρ:Type):List (ß ρ):=[]
def Cx (ρ:Type):Env ρ:=Ý PY (xt ρ)
def LB:Ü:=⟨[qk,Ä,Ê],[Ŧ],fun(x:Val (.pair qk aJ))=>sM x.1 x.2.1 x.2.2⟩
def PH:List (Nat×Ü):=[(43,vE),(52,tU),(54,Ju),(89,aaW),(90,LC)]
def xq (ρ:Type):List (ß ρ):=[]
def Cl (ρ:Type):Env ρ:=Ý PH (xq ρ)
def Vu:Ü:=⟨[Å,Ä,Ê],[Ŧ],fun(x:Val (.pair Å aJ))=>ld x.1 x.2.1 x.2.2⟩
def XI:List (Nat×Ü):=[(15,Pa),(36,LB)]
def Cj (ρ:Type):List (ß ρ):=[]
def LJ (ρ:Type):Env ρ:=Ý XI (Cj ρ)
def xn:Ü:=⟨[ŧ,tI],[Ä],fun(x:Val Ŧ)=>kB x.1 x.2⟩
def D3:List (Nat×Ü):=[]
def oV (ρ:Type):List (ß ρ):=[]
def rH (ρ:Type):Env ρ:=Ý D3 (oV ρ)
def tR:Ü:=⟨[ŧ,tI],[tI],fun(x:Val Ŧ)=>ý x.1 x.2⟩
def BS:List (Nat×Ü):=[(152,xn)]
def nS (ρ:Type):List (ß ρ):=[]
def qv (ρ:Type):Env ρ:=Ý BS (nS ρ)
def tQ:Ü:=⟨[ŧ],[tI],fun(x:Val ŧ)=>ī x⟩
def yb:Ë:={pin:=0,cs:=[tI,tI,tI,tI,tI,tI,tI,tI],vs:=[tI,tI],head:=⟨33,[.any,.box 0 0,.any,.var tI,.var tI],[bn]⟩,exits:=[(.exit 0,⟨33,[.any,.box 0 0,.any,.var tI],[bn]⟩,[tI])]}
def mw (ρ:Type):ß ρ:=⟨[],34,0,yb,fun(p:Val ŧ) (v:Val Ä) a b=>let A:=p.2.2.2.2;ŵ p.1 p.2.1 p.2.2.1 p.2.2.2.1 A.1 A.2.1 A.2.2.1 A.2.2.2 v.1 v.2 (fun c d=>a (c,d)) (b 0)⟩
def BQ:List (Nat×Ü):=[(80,tR)]
def nR (ρ:Type):List (ß ρ):=[mw ρ]
def kK (ρ:Type):Env ρ:=Ý BQ (nR ρ)
def ku:Ü:=⟨[Å,Ä,Ê,ab],[.bool],fun(x:Val (.pair Å (.pair Ä (.pair Ê ab))))=>oR x.1 x.2.1 x.2.2.1 x.2.2.2⟩
def nM:Ë:={pin:=0,cs:=[ab,tI,tI,ac,aa,af,ab,aa,tI,tI,tI,tI,ae,ae,tI,tI,tI,tI],vs:=[tI],head:=⟨172,[.any,.any,.any,.con ab,.box 0 0,.box 1 0,.box 2 0,.any,.any,.var tI],[bm,bt,br]⟩,exits:=[(.ret,⟨172,[.any,.any,.any,.con ab,.box 0 0,.box 1 0,.box 2 0,.any,.var .bool],[bm,bt,br]⟩,[.bool]),(.exit 0,⟨172,[.any,.any,.any,.con ab,.box 0 0,.box 1 0,.box 2 0],[bm,bt,br]⟩,[])]}
def nJ (ρ:Type):ß ρ:=⟨[],7,0,nM,fun(p:Val (tyL nM.cs)) (v:Val tI) b a=>Ŗ p.1 v (fun c=>b c) (a 0) (a 1)⟩
def nI:Ë:={pin:=0,cs:=[ab,tI,tI,tI,tI,ac,aa,af,ab,aa,tI,tI],vs:=[tI,tI,tI,tI],head:=⟨172,aN 3 (.con ab::.box 0 0::.box 1 0::aN 6 [.con tI,.con tI,.any,.var tI,.var tI,.var tI,.var tI]),[bm,bt]⟩,exits:=[(.exit 3,⟨172,aN 3 (.con ab::.box 0 0::.box 1 0::aN 6 [.con tI,.con tI,.any,.var tI,.var tI]),[bm,bt]⟩,[tI,tI])]}
def nH (ρ:Type):ß ρ:=⟨[],7,3,nI,fun(p:Val (tyL nI.cs)) (v:Val aw) a b=>let A:=p.2.2.2.2;let B:=A.2.2.2.2;È p.1 p.2.2.2.1 A.1 A.2.1 A.2.2.1 A.2.2.2.1 B.1 B.2.1 B.2.2.1 B.2.2.2 v.1 v.2.1 v.2.2.1 v.2.2.2 (fun c d e f=>a (c,d,e,f)) (b 0)⟩
def D2:List (Nat×Ü):=[(10,agN),(11,O9),(15,Pa),(30,Jr),(31,Pg),(32,agW),(33,Vu),(34,tQ)]
def oU (ρ:Type):List (ß ρ):=[nJ ρ,nH ρ]
def jl (ρ:Type):Env ρ:=Ý D2 (oU ρ)
end Go.Proofs.ZzM
end
