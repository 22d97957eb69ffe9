/- lemmas -/
import Derived.Test.YtmadligicacpkaaGreatAmF
import Derived.KernelRfl
import Derived.Test.YtmadligicacpkaaGreatMdTA
import Derived.Test.YtmadligicacpkaaGreatProg
set_option linter.all false
set_option linter.unusedSectionVars false
set_option linter.unusedVariables false
set_option linter.unusedSimpArgs false
noncomputable section
set_option maxRecDepth 100000
namespace Go.Proofs.ZzM
open Go Go.Am
def Qx:Nat→Bool
  |116=>true
  |130=>true
  |253=>true
  |254=>true
  |255=>true
  |256=>true
  |257=>true
  |_=>false
def abj:Nat→Bool
  |232=>true
  |_=>false
def za:Nat→Bool
  |233=>true
  |_=>false
def isInl:Nat→Bool
  |2=>true
  |47=>true
  |79=>true
  |85=>true
  |87=>true
  |113=>true
  |115=>true
  |118=>true
  |119=>true
  |123=>true
  |124=>true
  |125=>true
  |126=>true
  |127=>true
  |128=>true
  |129=>true
  |134=>true
  |153=>true
  |155=>true
  |161=>true
  |172=>true
  |173=>true
  |174=>true
  |175=>true
  |176=>true
  |177=>true
  |178=>true
  |179=>true
  |180=>true
  |181=>true
  |182=>true
  |183=>true
  |184=>true
  |185=>true
  |186=>true
  |191=>true
  |195=>true
  |196=>true
  |201=>true
  |213=>true
  |214=>true
  |215=>true
  |217=>true
  |218=>true
  |220=>true
  |221=>true
  |223=>true
  |224=>true
  |225=>true
  |228=>true
  |229=>true
  |230=>true
  |234=>true
  |236=>true
  |237=>true
  |247=>true
  |249=>true
  |251=>true
  |260=>true
  |261=>true
  |272=>true
  |273=>true
  |274=>true
  |275=>true
  |276=>true
  |277=>true
  |279=>true
  |280=>true
  |286=>true
  |287=>true
  |289=>true
  |290=>true
  |292=>true
  |293=>true
  |296=>true
  |297=>true
  |299=>true
  |301=>true
  |302=>true
  |_=>false
def isFz:Nat→Bool
  |62=>true
  |81=>true
  |108=>true
  |_=>false
def isEat:Nat→Nat→Bool
  |24,4=>true
  |24,5=>true
  |47,67=>true
  |115,30=>true
  |147,8=>true
  |147,11=>true
  |153,25=>true
  |225,0=>true
  |_,_=>false
def Ù {ρ:Type} (pt:List (Nat×Ø)) (tab:List (Ü ρ)):Env ρ :=
  {P:=Tryz.prog,eat:=isEat,clone:=Qx,sort:=abj,compact:=za,inl:=isInl,fz:=isFz,pure:=agY pt,loops:=ou tab}
def amW {ρ:Type} (pt:List (Nat×Ø)) (tab:List (Ü ρ)) (us:List akT):Env ρ :=
  {P:=Tryz.prog,eat:=isEat,clone:=Qx,sort:=abj,compact:=za,inl:=isInl,fz:=isFz,pure:=agY pt,loops:=aba (Ù pt tab) us}
abbrev bm:i8:=.cells [.con tI,.con tI,.con ac,.con aa,.con af,.con ab,.con aa]
abbrev bn:i8:=.cells [.con tI,.con tI,.con tI,.con tI,.con tI,.con tI,.con tI,.con tI]
abbrev bo:i8:=.cells [.con tI,.con tI,.con tI,.con tI]
abbrev bp:i8:=.cells [.con ae]
abbrev bq:i8:=.cells [.con tI]
abbrev br:i8:=.cells [.con tI,.con tI,.con ae,.con ae,.con tI,.con tI,.con tI,.con tI]
abbrev bt:i8:=.cells [.con tI,.con tI]
abbrev bu:i8:=.cells [.con tI,.con ah]
abbrev bv:i8:=.cells [.own 6]
abbrev bw:i8:=.cells [.con tI,.con tI,.con ac,.con aa,.con af,.con ab,.con aa,.con aa,.con tI,.own 3,.own 4]
abbrev bz:i8:=.cells [.con tI,.con tI,.con ac,.con aa,.con af,.con ab,.con aa,.con aa,.con tI,.own 2,.own 3]
abbrev bB:i8:=.cells [.con tI,.con tI,.nils,.nils,.nils,.nils,.nils]
abbrev bC:i8:=.cells [.con tI,.con tI,.own 9,.own 10,.own 11,.con ab,.own 12]
abbrev bD:i8:=.cells [.var tI,.var tI,.var ac,.var aa,.var af,.var ab,.var aa]
abbrev bE:i8:=.cells [.con tI,.con tI,.nils,.nils,.nils,.nils,.nils,.con tI,.con tI,.con .bool,.con tI,.nils]
abbrev bG:i8:=.cells [.con tI,.con tI,.own 11,.own 12,.own 13,.con ab,.own 14]
abbrev bH:i8:=.cells [.con tI,.con tI,.con ac,.con aa,.con af,.con ab,.con aa,.con tI,.own 6]
abbrev bI:i8:=.cells [.con tI,.con tI,.con tI]
abbrev bJ:i8:=.cells [.omp 3]
abbrev bK:i8:=.cells [.con ac]
abbrev bL:i8:=.cells [.fn 172 []]
abbrev bM:i8:=.cells [.con aa]
abbrev bN:i8:=.cells [.fn 173 [(2,0)]]
abbrev bO:i8:=.cells [.con af]
abbrev bP:i8:=.cells [.fn 174 [(2,0)]]
abbrev bQ:i8:=.cells [.var tI,.var tI,.var tI,.var tI]
abbrev bR:i8:=.cells [.nils,.nils]
abbrev bS:i8:=.cells [.own 3,.own 4]
abbrev bT:i8:=.cells [.var tI,.var tI,.nils,.nils,.nils,.nils,.nils,.var tI,.nils,.nils,.var tI]
abbrev bU:List i8:=[bn,.rowv tI]
abbrev bV:List i8:=[bm,bo]
abbrev bW:List i8:=[bm,br,.rowc tI]
abbrev bX:List i8:=[bu,.rowc tI,bu,bv,.rowv .bool,.rowc tI,.rowv tI]
abbrev bY:List i8:=[bu,.rowv tI,bu,bv,.rowv .bool,.rowc tI,.rowv tI]
abbrev bZ:List i8:=[bu,.rowv tI,bu,bv,.rowv .bool,.rowv tI,.rowv tI]
abbrev b7:List i8:=[bm,bz,.rowv ÿ,.rowv Â]
abbrev b8:List i8:=[bm,bt,bB,bm,bB,.dead,bC,bB,.rowv Í,.rowc Ñ,.rowc Â,.rowc ō,.rowc Â]
abbrev b9:List i8:=[bm,bt,bt,.rowc Â,bD]
abbrev ca:List i8:=[bm,bt,bt,bt,.rowc Â,bD]
abbrev cd:List i8:=[.rowc ae,bu,.dead,.dead,.rowv tI]
abbrev ce:List i8:=[bu,bq,bq,bu,.rowv tI]
abbrev cf:List i8:=[bm,.dead,.dead,bE,.rowc Â,bD]
abbrev cg:List i8:=[bm,.dead,.dead,bE,.rowc Â,bm,bu,.dead,.rowf Â 0,bm,bm]
abbrev ci:List i8:=[bm,br,bB,.dead,.dead,bm,bB,.dead,bG,bB,.rowv Í,.rowc Ñ,.rowc Â,.rowc ō,.rowc Â]
abbrev cj:List i8:=[bm,bt,br,.rowc Â,bD]
abbrev cm:List i8:=[bm,bt,bt,br,.rowc Â,bD]
abbrev cn:List i8:=[bm,bt,bt,br,.rowc Â,bm,bu,.dead,bn,.rowf ae 0,.rowf ae 0,.rowf ae 0]
abbrev cp:List i8:=[bu,.rowc am,bI,bu,.rowv tI]
abbrev cq:List i8:=[bm,bm,bJ,.mapc tI .bool,br,br]
abbrev cr:List i8:=[bm,bm,bJ,.mapc tI .bool,br]
abbrev cu:List i8:=[bm,bm,bJ,.mapc tI .bool]
abbrev cw:List i8:=[bm,bm,bJ,.mapc tI .bool,bK,bL]
abbrev cz:List i8:=[bm,bm,bJ,.mapc tI .bool,bK,bL,bM,bN]
abbrev cA:List i8:=[bm,bm,bJ,.mapc tI .bool,bK,bL,bM,bN,bM,bN]
abbrev cB:List i8:=[bm,bm,bJ,.mapc tI .bool,bK,bL,bM,bN,bM,bN,bO,bP]
abbrev cD:List i8:=[bm,bm,bJ,.mapc tI .bool,bK,bL,bM,bN,bM,bN,bO,bP,bO,bP]
abbrev cE:List i8:=[bm,.rowv tI]
abbrev cF:List i8:=[bm,.rowc tI,.rowv Â]
abbrev cG:List i8:=[bm,bR,bS,.rowv ÿ,.rowv Â]
abbrev cH:List i8:=[bu,.deepv .i64]
def š:Ø:=⟨[am],[ae],fun(x:Val am)=>í x⟩
def kW:È:={pin:=0,cs:=[am,am,tI],vs:=[tI,tI],head:=⟨36,.con am::aN 2 (.var tI::aN 5 [.con am,.con tI,.var tI]),[]⟩,exits:=[(.exit 0,⟨36,.con am::aN 2 (.var tI::aN 5 [.con am,.con tI]),[]⟩,[tI])]}
def kV (ρ:Type):Ü ρ:=⟨[],81,0,kW,fun(p:Val (tyL kW.cs)) (v:Val Â) a b=>ĸ p.2.1 p.2.2 v.1 v.2 (fun c d=>a (c,d)) (b 0)⟩
def un:È:={pin:=0,cs:=[am,tI],vs:=[tI,ae],head:=⟨36,aN 6 (.own 0::aN 18 [.con am,.con tI,.var tI]),[.rowv tI]⟩,exits:=[(.exit 2,⟨36,aN 6 (.own 0::aN 18 [.con am,.con tI]),[.rowv tI]⟩,[ae])]}
def kU (ρ:Type):Ü ρ:=⟨[],81,2,un,fun(p:Val (.pair am tI)) (v:Val ay) a b=>ï p.1 p.2 v.1 v.2 (fun c d=>a (c,d)) (b 0)⟩
def xt:List (Nat×Ø):=[]
def lW (ρ:Type):List (Ü ρ):=[kV ρ,kU ρ]
def gW (ρ:Type):Env ρ:=Ù xt (lW ρ)
def pb:Ø:=⟨[Ä,aa,aa],[Ä],fun(x:Val (.pair Ä (.pair aa aa)))=>QO x.1 x.2.1 x.2.2⟩
noncomputable def aaw:È:={pin:=8,cs:=[ae,tI,tI,tI,ac,aa,af,ab,aa,tI,tI,ak,tI,tI],vs:=[tI,ak],head:=⟨34,.any::.any::.any::.box 2 0::aN 21 [.con ae,.con tI,.var tI],[.cells [.con tI,.con tI,.con ac,.con aa,.con af,.con ab,.con aa],.cells [.con tI,.con tI,.nils,.nils,.nils,.nils,.nils],.cells [.omp 5],.cells [.omp 6],.cells [.nilfn,.fn 127 [(2,0),(0,0)],.fn 127 [(2,0),(0,0)],.fn 128 [(3,0),(0,0),(2,0)]],.mapv tI .bool,.mapc tI .bool,.cells [.con tI,.con tI]]⟩,exits:=[(.exit 0,⟨34,.any::.any::.any::.box 2 0::aN 21 [.con ae,.con tI],[.cells [.con tI,.con tI,.con ac,.con aa,.con af,.con ab,.con aa],.cells [.con tI,.con tI,.nils,.nils,.nils,.nils,.nils],.cells [.omp 5],.cells [.omp 6],.cells [.nilfn,.fn 127 [(2,0),(0,0)],.fn 127 [(2,0),(0,0)],.fn 128 [(3,0),(0,0),(2,0)]],.mapv tI .bool,.mapc tI .bool,.cells [.con tI,.con tI]]⟩,[ak])]}
noncomputable def KH (ρ:Type):Ü ρ:=⟨[7,5],128,0,aaw,fun(p:Val (.pair ae (.pair tI (.pair tI (.pair tI (.pair ac (.pair aa (.pair af (.pair ab (.pair aa (.pair tI (.pair tI (.pair ak Â))))))))))))) (v:Val (.pair tI ak)) kn kx=>sU p.1 p.2.1 v.1 v.2 (fun u0 u1=>kn (u0,u1)) (kx 0)⟩
noncomputable def aax:È:={pin:=0,cs:=[aa,aa,tI,tI,tI,ac,aa,af,ab,aa,tI,tI],vs:=[tI,ak,ak],head:=⟨130,.any::.any::.con aa::.box 0 0::.any::.any::.box 1 0::.box 2 0::.box 3 0::.any::.box 4 0::aN 19 [.con aa,.con tI,.var tI],[.cells [.con tI,.con tI,.con ac,.con aa,.con af,.con ab,.con aa],.cells [.con tI,.con tI,.nils,.nils,.nils,.nils,.nils],.cells [.omp 5],.cells [.omp 6],.cells [.nilfn,.fn 127 [(2,0),(0,0)],.fn 127 [(2,0),(0,0)],.fn 128 [(3,0),(0,0),(2,0)]],.mapv tI .bool,.mapv tI .bool]⟩,exits:=[(.exit 0,⟨130,.any::.any::.con aa::.box 0 0::.any::.any::.box 1 0::.box 2 0::.box 3 0::.any::.box 4 0::aN 19 [.con aa,.con tI],[.cells [.con tI,.con tI,.con ac,.con aa,.con af,.con ab,.con aa],.cells [.con tI,.con tI,.nils,.nils,.nils,.nils,.nils],.cells [.omp 5],.cells [.omp 6],.cells [.nilfn,.fn 127 [(2,0),(0,0)],.fn 127 [(2,0),(0,0)],.fn 128 [(3,0),(0,0),(2,0)]],.mapv tI .bool,.mapv tI .bool]⟩,[ak,ak])]}
noncomputable def KI (ρ:Type):Ü ρ:=⟨[],62,0,aax,fun(p:Val (.pair aa (.pair aa (.pair tI (.pair tI (.pair tI (.pair ac (.pair aa (.pair af (.pair ab aX)))))))))) (v:Val (.pair tI (.pair ak ak))) kn kx=>zP p.2.1 p.2.2.1 p.2.2.2.2.2.1 p.2.2.2.2.2.2.2.2.1 v.1 v.2.1 v.2.2 (fun u0 u1 u2=>kn (u0,u1,u2)) (kx 0)⟩
noncomputable def aav:È:={pin:=0,cs:=[aa,aa,tI,tI,tI,ac,aa,af,ab,aa,tI,tI,ak],vs:=[tI,ak],head:=⟨130,.any::.any::.con aa::.box 0 0::.any::.any::.box 1 0::.box 2 0::.box 3 0::aN 34 [.con aa,.con tI,.var tI],[.cells [.con tI,.con tI,.con ac,.con aa,.con af,.con ab,.con aa],.cells [.con tI,.con tI,.nils,.nils,.nils,.nils,.nils],.cells [.omp 4],.cells [.omp 5],.mapv tI .bool,.mapc tI .bool]⟩,exits:=[(.exit 2,⟨130,.any::.any::.con aa::.box 0 0::.any::.any::.box 1 0::.box 2 0::.box 3 0::aN 34 [.con aa,.con tI],[.cells [.con tI,.con tI,.con ac,.con aa,.con af,.con ab,.con aa],.cells [.con tI,.con tI,.nils,.nils,.nils,.nils,.nils],.cells [.omp 4],.cells [.omp 5],.mapv tI .bool,.mapc tI .bool]⟩,[ak])]}
noncomputable def KG (ρ:Type):Ü ρ:=⟨[],62,2,aav,fun(p:Val (.pair aa (.pair aa (.pair tI (.pair tI (.pair tI (.pair ac (.pair aa (.pair af (.pair ab (.pair aa (.pair tI (.pair tI ak))))))))))))) (v:Val (.pair tI ak)) kn kx=>sT p.2.1 p.2.2.1 v.1 v.2 (fun u0 u1=>kn (u0,u1)) (kx 0)⟩
noncomputable def aau:È:={pin:=0,cs:=[aa,tI,tI,tI,ac,aa,af,ab,aa,tI,tI,ac,aa,af,ab,aa,tI,tI,aa,ak,ak,ac],vs:=[tI,aa],head:=⟨130,.any::.any::.any::.box 0 0::.any::.any::.box 1 0::.box 2 0::.box 3 0::aN 6 (.box 4 0::aN 52 [.con aa,.con tI,.var tI]),[.cells [.con tI,.con tI,.con ac,.con aa,.con af,.con ab,.con aa],.cells [.con tI,.con tI,.con ac,.con aa,.con af,.con ab,.con aa],.cells [.omp 5],.cells [.omp 6],.cells [.con tI,.con tI,.own 7,.own 8,.nils,.nils,.con aa],.mapc tI .bool,.mapc tI .bool,.rowc Ñ,.rowv Â]⟩,exits:=[(.exit 6,⟨130,.any::.any::.any::.box 0 0::.any::.any::.box 1 0::.box 2 0::.box 3 0::aN 6 (.box 4 0::aN 52 [.con aa,.con tI]),[.cells [.con tI,.con tI,.con ac,.con aa,.con af,.con ab,.con aa],.cells [.con tI,.con tI,.con ac,.con aa,.con af,.con ab,.con aa],.cells [.omp 5],.cells [.omp 6],.cells [.con tI,.con tI,.own 7,.own 8,.nils,.nils,.con aa],.mapc tI .bool,.mapc tI .bool,.rowc Ñ,.rowv Â]⟩,[aa])]}
noncomputable def qN (ρ:Type):Ü ρ:=⟨[],62,6,aau,fun(p:Val (.pair aa (.pair tI (.pair tI (.pair tI (.pair ac (.pair aa (.pair af (.pair ab (.pair aa (.pair tI (.pair tI (.pair ac (.pair aa (.pair af (.pair ab (.pair aa (.pair tI (.pair tI (.pair aa (.pair ak (.pair ak ac)))))))))))))))))))))) (v:Val aF) kn kx=>sS p.1 p.2.1 p.2.2.2.2.2.2.2.2.2.2.2.2.2.2.2.2.2.2.2.1 v.1 v.2 (fun u0 u1=>kn (u0,u1)) (kx 0)⟩
noncomputable def aat:È:={pin:=0,cs:=[af,tI,tI,tI,ac,aa,af,ab,aa,tI,tI,ac,aa,af,ab,aa,tI,tI,aa,ak,ak,ac,aa],vs:=[tI,af],head:=⟨130,.any::.any::.any::.box 0 0::.any::.any::.box 1 0::.box 2 0::.box 3 0::aN 6 (.box 4 0::aN 70 [.con af,.con tI,.var tI]),[.cells [.con tI,.con tI,.con ac,.con aa,.con af,.con ab,.con aa],.cells [.con tI,.con tI,.con ac,.con aa,.con af,.con ab,.con aa],.cells [.omp 5],.cells [.omp 6],.cells [.con tI,.con tI,.own 7,.own 8,.own 9,.nils,.con aa],.mapc tI .bool,.mapc tI .bool,.rowc Ñ,.rowc Â,.rowv ō]⟩,exits:=[(.exit 8,⟨130,.any::.any::.any::.box 0 0::.any::.any::.box 1 0::.box 2 0::.box 3 0::aN 6 (.box 4 0::aN 70 [.con af,.con tI]),[.cells [.con tI,.con tI,.con ac,.con aa,.con af,.con ab,.con aa],.cells [.con tI,.con tI,.con ac,.con aa,.con af,.con ab,.con aa],.cells [.omp 5],.cells [.omp 6],.cells [.con tI,.con tI,.own 7,.own 8,.own 9,.nils,.con aa],.mapc tI .bool,.mapc tI .bool,.rowc Ñ,.rowc Â,.rowv ō]⟩,[af])]}
noncomputable def qM (ρ:Type):Ü ρ:=⟨[],62,8,aat,fun(p:Val (.pair af (.pair tI (.pair tI (.pair tI (.pair ac (.pair aa (.pair af (.pair ab (.pair aa (.pair tI (.pair tI (.pair ac (.pair aa (.pair af (.pair ab (.pair aa (.pair tI (.pair tI (.pair aa (.pair ak (.pair ak (.pair ac aa))))))))))))))))))))))) (v:Val (.pair tI af)) kn kx=>sR p.1 p.2.1 p.2.2.2.2.2.2.2.2.2.2.2.2.2.2.2.2.2.2.2.1 v.1 v.2 (fun u0 u1=>kn (u0,u1)) (kx 0)⟩
noncomputable def aas:È:={pin:=0,cs:=[ab,tI,tI,tI,ac,aa,af,ab,aa,tI,tI,aa,ak,ac,aa,af],vs:=[tI,ab],head:=⟨130,aN 6 (.box 0 0::.any::.box 1 0::aN 6 (.box 2 0::aN 88 [.con ab,.con tI,.var tI])),[.cells [.con tI,.con tI,.con ac,.con aa,.con af,.con ab,.con aa],.cells [.omp 3],.cells [.con tI,.con tI,.own 4,.own 5,.own 6,.own 7,.con aa],.mapc tI .bool,.rowc Ñ,.rowc Â,.rowc ō,.rowv Í]⟩,exits:=[(.exit 10,⟨130,aN 6 (.box 0 0::.any::.box 1 0::aN 6 (.box 2 0::aN 88 [.con ab,.con tI])),[.cells [.con tI,.con tI,.con ac,.con aa,.con af,.con ab,.con aa],.cells [.omp 3],.cells [.con tI,.con tI,.own 4,.own 5,.own 6,.own 7,.con aa],.mapc tI .bool,.rowc Ñ,.rowc Â,.rowc ō,.rowv Í]⟩,[ab])]}
noncomputable def qL (ρ:Type):Ü ρ:=⟨[],62,10,aas,fun(p:Val (.pair ab (.pair tI (.pair tI (.pair tI (.pair ac (.pair aa (.pair af (.pair ab (.pair aa (.pair tI (.pair tI (.pair aa (.pair ak (.pair ac (.pair aa af)))))))))))))))) (v:Val (.pair tI ab)) kn kx=>sQ p.1 p.2.1 p.2.2.2.2.2.2.2.2.2.2.2.2.1 v.1 v.2 (fun u0 u1=>kn (u0,u1)) (kx 0)⟩
noncomputable def IQ:List (Nat×Ø):=[(81,š)]
noncomputable def De (ρ:Type):List (Ü ρ):=[KH ρ,KI ρ,KG ρ,qN ρ,qM ρ,qL ρ]
noncomputable def ż (ρ:Type):Env ρ:=Ù IQ (De ρ)
noncomputable def sP:Tpl:=⟨130,.any::.any::.any::.box 0 0::.any::.any::.box 1 0::.box 2 0::.box 3 0::aN 6 (.box 4 0::aN 43 [.fn 186 [(5,0),(6,0)]]),[.cells [.var tI,.var tI,.var ac,.var aa,.var af,.var ab,.var aa],.cells [.var tI,.var tI,.var ac,.var aa,.var af,.var ab,.var aa],.cells [.omp 7],.cells [.omp 8],.cells [.con tI,.con tI,.own 9,.nils,.nils,.nils,.con aa],.cells [.var tI,.var tI,.var ac,.var aa,.var af,.var ab,.var aa],.cells [.omp 7],.mapv tI .bool,.mapv tI .bool,.rowv Ñ]⟩
noncomputable def Pl:Tpl:=⟨130,.any::.any::.any::.box 0 0::.any::.any::.box 1 0::.box 2 0::.box 3 0::aN 6 (.box 4 0::.box 10 0::aN 42 [.fn 186 [(5,0),(6,0)]]),[.cells [.var tI,.var tI,.var ac,.var aa,.var af,.var ab,.var aa],.cells [.var tI,.var tI,.var ac,.var aa,.var af,.var ab,.var aa],.cells [.omp 7],.cells [.omp 8],.cells [.con tI,.con tI,.own 9,.nils,.nils,.nils,.con aa],.cells [.var tI,.var tI,.var ac,.var aa,.var af,.var ab,.var aa],.cells [.omp 7],.mapv tI .bool,.mapv tI .bool,.rowv Ñ,.cells [.var tI,.var tI,.var tI,.var tI,.var tI,.var tI,.var tI,.var tI]]⟩
noncomputable def qJ (ρ:Type):List (Ü ρ):=[qN ρ,qM ρ,qL ρ]
noncomputable def Ĝ (ρ:Type):Env ρ:={Ù IQ (qJ ρ) with inl:=fun _=>false}
noncomputable def pv:Tpl:=⟨130,aN 6 [.box 0 0],[.cells [.var tI,.var tI,.var ac,.var aa,.var af,.var ab,.var aa]]⟩
abbrev ju:List Ty:=[tI,tI,ac,aa,af,ab,aa]
noncomputable def kz (y:Val Ä):Val ai:=(y.1.1,y.1.2,y.2.1,y.2.2.1,y.2.2.2.1,y.2.2.2.2.1,y.2.2.2.2.2)
noncomputable def Ģ:Code:=(rr Tryz.prog 62).getD .skip
abbrev iS:List Ty:=[tI,tI,aa]
abbrev ml:List Ty:=[tI,tI,ac,aa,af,ab,aa,tI,tI,ac,aa,af,ab,aa,tI,tI,ac,aa,af,ab,aa,ak,ak,ac]
abbrev zO:List Ty:=[tI,tI,ac,aa,af,ab,aa,tI,tI,ac,aa,af,ab,aa,tI,tI,ac,aa,af,ab,aa,ak,ak,ac,tI,tI,tI,tI,tI,tI,tI,tI]
abbrev ñ (v:Val aj):List (Val Ñ):=v.2.2.2.2.2.2.2.2.2.2.2.2.2.2.2.2.1
abbrev ţ (v:Val aj):List (Int×Bool):=v.2.2.2.2.2.2.2.2.2.2.2.2.2.2.2.2.2.2.2.2.2.1
abbrev uK (v:Val aj):List (Val Ñ):=v.2.2.2.2.2.2.2.2.2.2.2.2.2.2.2.2.2.2.2.2.2.2.2
noncomputable def ġ (v:Val aj) (z:List (Val Ñ)):Val aj:=(v.1,v.2.1,v.2.2.1,v.2.2.2.1,v.2.2.2.2.1,v.2.2.2.2.2.1,v.2.2.2.2.2.2.1,v.2.2.2.2.2.2.2.1,v.2.2.2.2.2.2.2.2.1,v.2.2.2.2.2.2.2.2.2.1,v.2.2.2.2.2.2.2.2.2.2.1,v.2.2.2.2.2.2.2.2.2.2.2.1,v.2.2.2.2.2.2.2.2.2.2.2.2.1,v.2.2.2.2.2.2.2.2.2.2.2.2.2.1,v.2.2.2.2.2.2.2.2.2.2.2.2.2.2.1,v.2.2.2.2.2.2.2.2.2.2.2.2.2.2.2.1,v.2.2.2.2.2.2.2.2.2.2.2.2.2.2.2.2.1,v.2.2.2.2.2.2.2.2.2.2.2.2.2.2.2.2.2.1,v.2.2.2.2.2.2.2.2.2.2.2.2.2.2.2.2.2.2.1,v.2.2.2.2.2.2.2.2.2.2.2.2.2.2.2.2.2.2.2.1,v.2.2.2.2.2.2.2.2.2.2.2.2.2.2.2.2.2.2.2.2.1,v.2.2.2.2.2.2.2.2.2.2.2.2.2.2.2.2.2.2.2.2.2.1,v.2.2.2.2.2.2.2.2.2.2.2.2.2.2.2.2.2.2.2.2.2.2.1,z)
noncomputable def Df (v:Val aj) (x:Val Ñ):Val (.pair tI (.pair tI (.pair ac (.pair aa (.pair af (.pair ab (.pair aa (.pair tI (.pair tI (.pair ac (.pair aa (.pair af (.pair ab (.pair aa (.pair tI (.pair tI (.pair ac (.pair aa (.pair af (.pair ab (.pair aa (.pair ak (.pair ak (.pair ac MM)))))))))))))))))))))))):=(v.1,v.2.1,v.2.2.1,v.2.2.2.1,v.2.2.2.2.1,v.2.2.2.2.2.1,v.2.2.2.2.2.2.1,v.2.2.2.2.2.2.2.1,v.2.2.2.2.2.2.2.2.1,v.2.2.2.2.2.2.2.2.2.1,v.2.2.2.2.2.2.2.2.2.2.1,v.2.2.2.2.2.2.2.2.2.2.2.1,v.2.2.2.2.2.2.2.2.2.2.2.2.1,v.2.2.2.2.2.2.2.2.2.2.2.2.2.1,v.2.2.2.2.2.2.2.2.2.2.2.2.2.2.1,v.2.2.2.2.2.2.2.2.2.2.2.2.2.2.2.1,v.2.2.2.2.2.2.2.2.2.2.2.2.2.2.2.2.1,v.2.2.2.2.2.2.2.2.2.2.2.2.2.2.2.2.2.1,v.2.2.2.2.2.2.2.2.2.2.2.2.2.2.2.2.2.2.1,v.2.2.2.2.2.2.2.2.2.2.2.2.2.2.2.2.2.2.2.1,v.2.2.2.2.2.2.2.2.2.2.2.2.2.2.2.2.2.2.2.2.1,v.2.2.2.2.2.2.2.2.2.2.2.2.2.2.2.2.2.2.2.2.2.1,v.2.2.2.2.2.2.2.2.2.2.2.2.2.2.2.2.2.2.2.2.2.2.1,v.2.2.2.2.2.2.2.2.2.2.2.2.2.2.2.2.2.2.2.2.2.2.2,x.1,x.2.1,x.2.2.1,x.2.2.2.1.1,x.2.2.2.1.2,x.2.2.2.2.1.1,x.2.2.2.2.1.2,x.2.2.2.2.2)
def sr:Ø:=⟨[Â,tI,tI],[.bool],fun(x:Val ä)=>Τ x.1 x.2.1 x.2.2⟩
def XA:List (Nat×Ø):=[]
def Cd (ρ:Type):List (Ü ρ):=[]
def K6 (ρ:Type):Env ρ:=Ù XA (Cd ρ)
def ks:Ø:=⟨[tI,tI,tI],[.bool],fun(x:Val ÿ)=>Ğ x.1 x.2.1 x.2.2⟩
def Xo:List (Nat×Ø):=[]
def B7 (ρ:Type):List (Ü ρ):=[]
def KY (ρ:Type):Env ρ:=Ù Xo (B7 ρ)
def Ep:Ø:=⟨[tI],[.bool],fun(x:Val tI)=>nt x⟩
def aa2:List (Nat×Ø):=[(227,ks)]
def GC (ρ:Type):List (Ü ρ):=[]
def Qj (ρ:Type):Env ρ:=Ù aa2 (GC ρ)
def VD:Ø:=⟨[tI],[(.int .u64)],fun(x:Val tI)=>ro x⟩
def adq:List (Nat×Ø):=[]
def KT (ρ:Type):List (Ü ρ):=[]
def Uz (ρ:Type):Env ρ:=Ù adq (KT ρ)
def acQ:Ø:=⟨[(.int .u64),(.int .u64)],[(.int .u64)],fun(x:Val bg)=>QP x.1 x.2⟩
def aaM:È:={pin:=0,cs:=[],vs:=[(.int .u64),(.int .u64)],head:=⟨12,[.var (.int .u64),.var (.int .u64)],[]⟩,exits:=[(.exit 0,⟨12,[.var (.int .u64)],[]⟩,[(.int .u64)])]}
def KU (ρ:Type):Ü ρ:=⟨[],259,0,aaM,fun(p:Unit) (v:Val bg) a b=>zS v.1 v.2 (fun c d=>a (c,d)) (b 0)⟩
def agI:List (Nat×Ø):=[]
def PW (ρ:Type):List (Ü ρ):=[KU ρ]
def PX (ρ:Type):Env ρ:=Ù agI (PW ρ)
def El:Ø:=⟨[Â],[.bool],fun(x:Val Â)=>tQ x⟩
def aaP:List (Nat×Ø):=[(258,VD),(259,acQ)]
def Gg (ρ:Type):List (Ü ρ):=[]
def P0 (ρ:Type):Env ρ:=Ù aaP (Gg ρ)
def NY:Ø:=⟨[Ñ],[.bool],fun(x:Val Ñ)=>vP x⟩
def Tl:List (Nat×Ø):=[(131,sr),(189,Ep),(226,El),(227,ks)]
def yS (ρ:Type):List (Ü ρ):=[]
def GB (ρ:Type):Env ρ:=Ù Tl (yS ρ)
def xl:Ø:=⟨[Ä],[tI],fun(x:Val Ä)=>Α x⟩
def AO:È:={pin:=0,cs:=[ac,tI,tI,tI,ac,aa,af,ab,aa],vs:=[tI],head:=⟨31,.any::.box 0 0::aN 4 [.con ac,.con tI,.var tI],[bm]⟩,exits:=[(.ret,⟨31,[.any,.box 0 0,.var tI,.any,.any,.any,.con ac,.con tI],[bm]⟩,[tI]),(.exit 0,⟨31,.any::.box 0 0::aN 4 [.con ac,.con tI],[bm]⟩,[])]}
def nT (ρ:Type):Ü ρ:=⟨[],132,0,AO,fun(p:Val (.pair ac aC)) (v:Val tI) b a=>i5 p.1 p.2.1 p.2.2.2.2.1 v (fun c=>b c) (a 0) (a 1)⟩
def GH:List (Nat×Ø):=[(187,NY)]
def pA (ρ:Type):List (Ü ρ):=[nT ρ]
def mm (ρ:Type):Env ρ:=Ù GH (pA ρ)
def CG:Ø:=⟨[Ä],[aq],fun(x:Val Ä)=>ς x⟩
def Mw:È:={pin:=0,cs:=[ac,tI],vs:=[tI,aq],head:=⟨20,aN 3 (.omp 0::aN 4 [.con ac,.con tI,.var tI]),[.mapv tI Ñ]⟩,exits:=[(.exit 0,⟨20,aN 3 (.omp 0::aN 4 [.con ac,.con tI]),[.mapv tI Ñ]⟩,[aq])]}
def wM (ρ:Type):Ü ρ:=⟨[],133,0,Mw,fun(p:Val (.pair ac tI)) (v:Val (.pair tI aq)) a b=>mJ p.1 p.2 v.1 v.2 (fun c d=>a (c,d)) (b 0)⟩
def Ta:List (Nat×Ø):=[]
def yL (ρ:Type):List (Ü ρ):=[wM ρ]
def uZ (ρ:Type):Env ρ:=Ù Ta (yL ρ)
def sk:Ø:=⟨[ae,tI],[tI],fun(x:Val aE)=>jy x.1 x.2⟩
def wS:È:={pin:=0,cs:=[ae,tI,tI],vs:=[tI],head:=⟨19,.con ae::.con tI::aN 5 [.con tI,.var tI],[]⟩,exits:=[(.ret,⟨19,[.con ae,.con tI,.any,.any,.var tI,.any,.any,.con tI],[]⟩,[tI]),(.exit 0,⟨19,.con ae::.con tI::aN 5 [.con tI],[]⟩,[])]}
def lU (ρ:Type):Ü ρ:=⟨[],78,0,wS,fun(p:Val (.pair ae Â)) (v:Val tI) b a=>gV p.1 p.2.1 p.2.2 v (fun c=>b c) (a 0) (a 1)⟩
def AF:List (Nat×Ø):=[]
def mQ (ρ:Type):List (Ü ρ):=[lU ρ]
def kd (ρ:Type):Env ρ:=Ù AF (mQ ρ)
def gU:Ø:=⟨[ae,tI],[.bool],fun(x:Val aE)=>Ĕ x.1 x.2⟩
def uk:List (Nat×Ø):=[(78,sk)]
def kw (ρ:Type):List (Ü ρ):=[]
def lV (ρ:Type):Env ρ:=Ù uk (kw ρ)
def VH:Ø:=⟨[Ä,Ñ],[ae],fun(x:Val (.pair Ä Ñ))=>oB x.1 x.2⟩
def XE:È:={pin:=0,cs:=[ab,tI,tI,tI,ac,aa,af,ab,aa,tI,tI,tI,tI,tI,tI,tI,tI],vs:=[tI,ae],head:=⟨59,aN 2 (.box 0 0::.box 1 0::.any::.own 2::aN 8 [.con ab,.con tI,.var tI]),[bm,bn,.rowv tI]⟩,exits:=[(.exit 0,⟨59,aN 2 (.box 0 0::.box 1 0::.any::.own 2::aN 8 [.con ab,.con tI]),[bm,bn,.rowv tI]⟩,[ae])]}
def GG (ρ:Type):Ü ρ:=⟨[],194,0,XE,fun(p:Val (.pair ab aA)) (v:Val ay) a b=>vp p.1 p.2.1 p.2.2.2.2.2.2.2.2.2.1 v.1 v.2 (fun c d=>a (c,d)) (b 0)⟩
def XD:È:={pin:=0,cs:=[aa,tI,tI,tI,tI,tI,tI,tI,tI,tI],vs:=[tI,ae],head:=⟨59,aN 3 (.box 0 0::.any::.own 1::aN 32 [.con aa,.con tI,.var tI]),bU⟩,exits:=[(.exit 2,⟨59,aN 3 (.box 0 0::.any::.own 1::aN 32 [.con aa,.con tI]),bU⟩,[ae])]}
def GF (ρ:Type):Ü ρ:=⟨[],194,2,XD,fun(p:Val (.pair aa aZ)) (v:Val ay) a b=>vn p.1 p.2.1 p.2.2.1 v.1 v.2 (fun c d=>a (c,d)) (b 0)⟩
def adE:List (Nat×Ø):=[(121,gU)]
def K8 (ρ:Type):List (Ü ρ):=[GG ρ,GF ρ]
def zV (ρ:Type):Env ρ:=Ù adE (K8 ρ)
def Eo:Ø:=⟨[Ä],[aa],fun(x:Val Ä)=>pR x⟩
def B9:È:={pin:=0,cs:=[ac,tI,tI,ae,tI,tI,tI,ac,aa,af,ab,aa,tI,tI,tI,tI,tI,tI,tI,tI],vs:=[tI,aa],head:=⟨33,.any::.box 0 0::.any::.own 1::.any::.box 2 0::aN 3 (.con ac::.con tI::.con tI::aN 5 [.con ae,.con tI,.var tI]),[bm,.rowv Â,bn]⟩,exits:=[(.exit 2,⟨33,.any::.box 0 0::.any::.own 1::.any::.box 2 0::aN 3 (.con ac::.con tI::.con tI::aN 5 [.con ae,.con tI]),[bm,.rowv Â,bn]⟩,[aa])]}
def B8 (ρ:Type):Ü ρ:=⟨[],135,2,B9,fun(p:Val (tyL B9.cs)) (v:Val aF) a b=>rc p.2.2.2.1 p.2.2.2.2.1 p.2.2.2.2.2.2.2.2.2.2.2.2.1 v.1 v.2 (fun c d=>a (c,d)) (b 0)⟩
def Tc:È:={pin:=0,cs:=[ac,tI,tI,tI,ac,aa,af,ab,aa],vs:=[tI,aa],head:=⟨33,.any::.box 0 0::.any::.own 1::aN 5 [.con ac,.con tI,.var tI],[bm,.rowv Â]⟩,exits:=[(.exit 0,⟨33,.any::.box 0 0::.any::.own 1::aN 5 [.con ac,.con tI],[bm,.rowv Â]⟩,[aa])]}
def Ca (ρ:Type):Ü ρ:=⟨[],135,0,Tc,fun(p:Val (.pair ac aC)) (v:Val aF) a b=>let A:=p.2.2.2.2;re p.1 p.2.1 p.2.2.1 p.2.2.2.1 A.1 A.2.1 A.2.2.1 A.2.2.2.1 A.2.2.2.2 v.1 v.2 (fun c d=>a (c,d)) (b 0)⟩
def aaY:List (Nat×Ø):=[(194,VH)]
def Gn (ρ:Type):List (Ü ρ):=[B8 ρ,Ca ρ]
def ve (ρ:Type):Env ρ:=Ù aaY (Gn ρ)
def mB:Ø:=⟨[aq,tI,tI],[tI],fun(x:Val (.pair aq Â))=>iT x.1 x.2.1 x.2.2⟩
def Jg:List (Nat×Ø):=[]
def qZ (ρ:Type):List (Ü ρ):=[]
def wN (ρ:Type):Env ρ:=Ù Jg (qZ ρ)
def acS:Ø:=⟨[tI,tI,(.ptr aq)],[tI],fun(x:Val (.pair tI (.pair tI (.ptr aq))))=>ņ x.1 x.2.1 x.2.2⟩
def Tb:List (Nat×Ø):=[(189,Ep),(190,mB)]
def yO (ρ:Type):List (Ü ρ):=[]
def Gm (ρ:Type):Env ρ:=Ù Tb (yO ρ)
def VI:Ø:=⟨[Ä,aq,tI],[tI],fun(x:Val bi)=>ε x.1 x.2.1 x.2.2⟩
def ri:È:={pin:=2,cs:=[af,tI,tI,tI,ac,aa,af,ab,aa,tI,tI,tI,tI],vs:=[tI],head:=⟨19,.con af::.fn 228 [(1,0)]::aN 5 [.con tI,.var tI],bV⟩,exits:=[(.ret,⟨19,[.con af,.fn 228 [(1,0)],.any,.any,.var tI,.any,.any,.con tI],bV⟩,[tI]),(.exit 0,⟨19,.con af::.fn 228 [(1,0)]::aN 5 [.con tI],bV⟩,[])]}
def rh (ρ:Type):Ü ρ:=⟨[9,5,1,2],251,0,ri,fun(p:Val (tyL ri.cs)) (v:Val tI) b a=>let A:=p.2.2.2.2.2.2.2.2.2;j6 p.1 p.2.1 A.1 A.2.1 A.2.2.1 v (fun c=>b c) (a 0) (a 1)⟩
def rg:È:={pin:=2,cs:=[aa,tI,tI,tI,ac,aa,af,ab,aa,tI,tI,tI,tI],vs:=[tI],head:=⟨19,.con aa::.fn 229 [(1,0)]::aN 5 [.con tI,.var tI],bV⟩,exits:=[(.ret,⟨19,[.con aa,.fn 229 [(1,0)],.any,.any,.var tI,.any,.any,.con tI],bV⟩,[tI]),(.exit 0,⟨19,.con aa::.fn 229 [(1,0)]::aN 5 [.con tI],bV⟩,[])]}
def rf (ρ:Type):Ü ρ:=⟨[9,10,1,2],249,0,rg,fun(p:Val (tyL rg.cs)) (v:Val tI) b a=>let A:=p.2.2.2.2.2.2.2.2.2;Ρ p.1 p.2.1 A.1 A.2.1 A.2.2.1 v (fun c=>b c) (a 0) (a 1)⟩
def MB:List (Nat×Ø):=[(131,sr),(190,mB),(227,ks)]
def tm (ρ:Type):List (Ü ρ):=[rh ρ,rf ρ]
def lr (ρ:Type):Env ρ:=Ù MB (tm ρ)
def zK:Ø:=⟨[ae,ae],[ae],fun(x:Val bc)=>Ű x.1 x.2⟩
def Xw:È:={pin:=2,cs:=[tI,ae,ae],vs:=[tI],head:=⟨19,.own 1::.fn 237 [(0,0)]::aN 5 [.con tI,.var tI],[bp,.rowc tI]⟩,exits:=[(.ret,⟨19,[.own 1,.fn 237 [(0,0)],.any,.any,.var tI,.any,.any,.con tI],[bp,.rowc tI]⟩,[tI]),(.exit 0,⟨19,.own 1::.fn 237 [(0,0)]::aN 5 [.con tI],[bp,.rowc tI]⟩,[])]}
def GA (ρ:Type):Ü ρ:=⟨[1,3,1,2],155,0,Xw,fun(p:Val (.pair tI bc)) (v:Val tI) b a=>vm p.1 p.2.1 p.2.2 v (fun c=>b c) (a 0) (a 1)⟩
def Xv:È:={pin:=2,cs:=[ae],vs:=[tI,tI,ae],head:=⟨42,[.own 1,.fn 237 [(0,0)],.any,.any,.any,.var tI,.var tI],[bp,.rowv tI]⟩,exits:=[(.exit 0,⟨42,[.own 1,.fn 237 [(0,0)],.any,.any,.any,.var tI],[bp,.rowv tI]⟩,[tI,ae])]}
def Gz (ρ:Type):Ü ρ:=⟨[1,3],236,0,Xv,fun(p:Val ae) (v:Val (.pair tI ay)) a b=>km p v.1 v.2.1 v.2.2 (fun c d e=>a (c,d,e)) (b 0)⟩
def adD:List (Nat×Ø):=[(121,gU)]
def K5 (ρ:Type):List (Ü ρ):=[GA ρ,Gz ρ]
def zU (ρ:Type):Env ρ:=Ù adD (K5 ρ)
def H8:Ø:=⟨[ae],[.bool],fun(x:Val ae)=>mu x⟩
def Qh:È:={pin:=0,cs:=[ae,ae,tI],vs:=[tI],head:=⟨32,.con ae::aN 4 [.con ae,.con tI,.var tI],[]⟩,exits:=[(.ret,⟨32,[.con ae,.any,.var .bool,.any,.any,.con ae,.con tI],[]⟩,[.bool]),(.exit 0,⟨32,.con ae::aN 4 [.con ae,.con tI],[]⟩,[])]}
def yQ (ρ:Type):Ü ρ:=⟨[],204,0,Qh,fun(p:Val (.pair ae aE)) (v:Val tI) b a=>ot p.1 p.2.1 p.2.2 v (fun c=>b c) (a 0) (a 1)⟩
def Xy:List (Nat×Ø):=[(227,ks)]
def Cc (ρ:Type):List (Ü ρ):=[yQ ρ]
def yR (ρ:Type):Env ρ:=Ù Xy (Cc ρ)
def afb:Ø:=⟨[Ä,tI,tI],[ō,.bool],fun(x:Val aD)=>Ao x.1 x.2.1 x.2.2⟩
def GJ:È:={pin:=4,cs:=[af,tI,tI,tI,ac,aa,af,ab,aa,tI,tI,tI,tI,tI,tI],vs:=[tI],head:=⟨19,.con af::.fn 260 [(1,0),(2,0)]::aN 5 [.con tI,.var tI],[bm,bq,bq,bo]⟩,exits:=[(.ret,⟨19,[.con af,.fn 260 [(1,0),(2,0)],.any,.any,.var tI,.any,.any,.con tI],[bm,bq,bq,bo]⟩,[tI]),(.exit 0,⟨19,.con af::.fn 260 [(1,0),(2,0)]::aN 5 [.con tI],[bm,bq,bq,bo]⟩,[])]}
def GI (ρ:Type):Ü ρ:=⟨[1,3],251,0,GJ,fun(p:Val (tyL GJ.cs)) (v:Val tI) b a=>vr p.1 p.2.1 p.2.2.2.2.2.2.2.2.2.1 p.2.2.2.2.2.2.2.2.2.2.1 v (fun c=>b c) (a 0) (a 1)⟩
def adF:List (Nat×Ø):=[(227,ks)]
def K9 (ρ:Type):List (Ü ρ):=[GI ρ]
def Jn (ρ:Type):Env ρ:=Ù adF (K9 ρ)
def LD:Ø:=⟨[Ä,aq,tI],[tI],fun(x:Val bi)=>ň x.1 x.2.1 x.2.2⟩
def nh:È:={pin:=2,cs:=[ab,tI,tI,tI,ac,aa,af,ab,aa,tI,tI,ae,ae,tI,tI,tI,tI],vs:=[tI],head:=⟨19,.con ab::.fn 230 [(1,0)]::aN 5 [.con tI,.var tI],[bm,br]⟩,exits:=[(.ret,⟨19,[.con ab,.fn 230 [(1,0)],.any,.any,.var tI,.any,.any,.con tI],[bm,br]⟩,[tI]),(.exit 0,⟨19,.con ab::.fn 230 [(1,0)]::aN 5 [.con tI],[bm,br]⟩,[])]}
def ng (ρ:Type):Ü ρ:=⟨[4,5,1,2],213,0,nh,fun(p:Val (tyL nh.cs)) (v:Val tI) b a=>iD p.1 p.2.1 p.2.2.2.2.2.2.2.2.2.1 v (fun c=>b c) (a 0) (a 1)⟩
def m9:È:={pin:=0,cs:=[aq,ae,tI,tI,tI,ae,tI,tI,tI,ac,aa,af,ab,aa,tI,tI,ae,ae,tI,tI,tI,tI,ae],vs:=[tI],head:=⟨140,.any::.con aq::.any::.box 0 0::aN 3 (.box 1 0::.con ae::.any::.con tI::aN 65 [.own 2,.con tI,.con tI,.any,.any,.any,.con ae,.con tI,.var tI]),bW⟩,exits:=[(.ret,⟨140,.any::.con aq::.any::.box 0 0::aN 2 (.var tI::.box 1 0::.con ae::.any::.con tI::aN 65 [.own 2,.con tI,.con tI,.any,.any,.any,.con ae,.con tI]),bW⟩,[tI]),(.exit 2,⟨140,.any::.con aq::.any::.box 0 0::aN 3 (.box 1 0::.con ae::.any::.con tI::aN 65 [.own 2,.con tI,.con tI,.any,.any,.any,.con ae,.con tI]),bW⟩,[])]}
def m8 (ρ:Type):Ü ρ:=⟨[],193,2,m9,fun(p:Val (tyL m9.cs)) (v:Val tI) b a=>let A:=p.2.2.2.2.2;iC p.1 p.2.2.1 A.1 A.2.1 A.2.2.2.2.2.2.2.2.2.2.1 v (fun c=>b c) (a 0) (a 1)⟩
def nf:È:={pin:=0,cs:=[aq,ae,tI,tI,tI,ac,aa,af,ab,aa,tI,tI,ae,ae,tI,tI,tI,tI,ae],vs:=[tI],head:=⟨140,.any::.con aq::.any::.box 0 0::aN 3 (.box 1 0::.con ae::aN 67 [.own 2,.con tI,.var tI]),bW⟩,exits:=[(.ret,⟨140,.any::.con aq::.any::.box 0 0::aN 2 (.var tI::.box 1 0::.con ae::aN 67 [.own 2,.con tI]),bW⟩,[tI]),(.exit 0,⟨140,.any::.con aq::.any::.box 0 0::aN 3 (.box 1 0::.con ae::aN 67 [.own 2,.con tI]),bW⟩,[])]}
def nc (ρ:Type):Ü ρ:=⟨[],193,0,nf,fun(p:Val (tyL nf.cs)) (v:Val tI) b a=>Œ p.1 p.2.1 p.2.2.1 p.2.2.2.2.2.2.2.2.2.2.2.1 p.2.2.2.2.2.2.2.2.2.2.2.2.2.2.2.2.2.2 v (fun c=>b c) (a 0) (a 1)⟩
def m7:È:={pin:=0,cs:=[ae,tI,tI,tI,ac,aa,af,ab,aa,tI,tI,ae,ae,tI,tI,tI,tI],vs:=[tI],head:=⟨140,aN 3 (.box 0 0::aN 3 (.box 1 0::aN 90 [.con ae,.con tI,.var tI])),[bm,br]⟩,exits:=[(.ret,⟨140,aN 3 (.box 0 0::aN 2 (.var tI::.box 1 0::aN 90 [.con ae,.con tI])),[bm,br]⟩,[tI]),(.exit 4,⟨140,aN 3 (.box 0 0::aN 3 (.box 1 0::aN 90 [.con ae,.con tI])),[bm,br]⟩,[])]}
def m6 (ρ:Type):Ü ρ:=⟨[],193,4,m7,fun(p:Val (tyL m7.cs)) (v:Val tI) b a=>let A:=p.2.2.2.2;ő p.1 p.2.1 p.2.2.1 p.2.2.2.1 A.1 A.2.1 A.2.2.1 A.2.2.2.1 A.2.2.2.2.1 A.2.2.2.2.2.2.1 v (fun c=>b c) (a 0) (a 1)⟩
def DA:List (Nat×Ø):=[(81,š),(131,sr),(189,Ep),(190,mB),(199,zK),(204,H8),(227,ks),(231,afb)]
def nV (ρ:Type):List (Ü ρ):=[ng ρ,m8 ρ,nc ρ,m6 ρ]
def Ť (ρ:Type):Env ρ:=Ù DA (nV ρ)
def Ś:Ø:=⟨[Ä],[tI],fun(x:Val Ä)=>û x⟩
def TW:Ø:=⟨[Í],[.bool],fun(x:Val Í)=>Ab x⟩
def V0:List (Nat×Ø):=[]
def A6 (ρ:Type):List (Ü ρ):=[]
def Kg (ρ:Type):Env ρ:=Ù V0 (A6 ρ)
def ae1:Ø:=⟨[Ä],[.bool],fun(x:Val Ä)=>Na x⟩
def VY:È:={pin:=0,cs:=[tI,tI,ac,aa,af,ab,aa],vs:=[tI],head:=⟨50,[.any,.box 0 0,.any,.var tI],[bm]⟩,exits:=[(.ret,⟨50,[.any,.box 0 0,.var .bool],[bm]⟩,[.bool]),(.exit 0,⟨50,[.any,.box 0 0],[bm]⟩,[])]}
def EC (ρ:Type):Ü ρ:=⟨[],10,0,VY,fun(p:Val ai) (v:Val tI) b a=>uh p.2.2.2.2.2.1 v (fun c=>b c) (a 0) (a 1)⟩
def acY:List (Nat×Ø):=[(30,TW)]
def Kf (ρ:Type):List (Ü ρ):=[EC ρ]
def If (ρ:Type):Env ρ:=Ù acY (Kf ρ)
def Ÿ:Ø:=⟨[aa,Â],[tI],fun(x:Val aX)=>ú x.1 x.2⟩
def lN:È:={pin:=0,cs:=[aa,tI,tI,tI],vs:=[tI],head:=⟨19,[.con aa,.any,.any,.box 0 0,.any,.any,.any,.con tI,.var tI],[bt]⟩,exits:=[(.ret,⟨19,[.con aa,.any,.any,.box 0 0,.var tI,.any,.any,.con tI],[bt]⟩,[tI]),(.exit 0,⟨19,[.con aa,.any,.any,.box 0 0,.any,.any,.any,.con tI],[bt]⟩,[])]}
def gQ (ρ:Type):Ü ρ:=⟨[],136,0,lN,fun(p:Val (.pair aa ÿ)) (v:Val tI) b a=>ĩ p.1 p.2.1 p.2.2.1 p.2.2.2 v (fun c=>b c) (a 0) (a 1)⟩
def mS:List (Nat×Ø):=[]
def gZ (ρ:Type):List (Ü ρ):=[gQ ρ]
def ŧ (ρ:Type):Env ρ:=Ù mS (gZ ρ)
def jb:Ø:=⟨[Ä,Â],[tI,tI],fun(x:Val aD)=>Ş x.1 x.2⟩
def aa9:List (Nat×Ø):=[(66,Ś),(135,Eo),(136,Ÿ)]
def GQ (ρ:Type):List (Ü ρ):=[]
def Qo (ρ:Type):Env ρ:=Ù aa9 (GQ ρ)
def ja:Ø:=⟨[ax,Â],[tI],fun(x:Val aR)=>Ķ x.1 x.2⟩
def Sw:List (Nat×Ø):=[(67,jb)]
def yg (ρ:Type):List (Ü ρ):=[]
def Fh (ρ:Type):Env ρ:=Ù Sw (yg ρ)
def qi:Ø:=⟨[Ì,ak],[ae,.bool],fun(x:Val (.pair Ì ak))=>kE x.1 x.2⟩
def tf:È:={pin:=2,cs:=[ak,ah,tI,tI,ah,ae,tI,ah,az,ae],vs:=[tI,tI],head:=⟨140,.any::.con ak::.own 1::.box 2 0::aN 3 (.box 3 0::.own 4::.own 5::.var tI::aN 14 [.con ah,.con tI,.var tI]),[bu,.rowc tI,bu,.cells [.nils],.rowc .bool,.rowc tI]⟩,exits:=[(.exit 0,⟨140,.any::.con ak::.own 1::.box 2 0::aN 3 (.box 3 0::.own 4::.own 5::.var tI::aN 14 [.con ah,.con tI]),[bu,.rowc tI,bu,.cells [.nils],.rowc .bool,.rowc tI]⟩,[tI])]}
def td (ρ:Type):Ü ρ:=⟨[2,3],183,0,tf,fun(p:Val (tyL tf.cs)) (v:Val Â) a b=>hO p.2.1 p.2.2.1 v.1 v.2 (fun c d=>a (c,d)) (b 0)⟩
def tc:È:={pin:=2,cs:=[ak,tI,tI,tI,ah,ae,tI,ah,ae],vs:=[tI,az,ae],head:=⟨140,.any::.con ak::.own 1::.box 2 0::aN 3 (.box 3 0::.own 4::.own 5::.con tI::aN 27 [.con tI,.var tI]),bX⟩,exits:=[(.exit 2,⟨140,.any::.con ak::.own 1::.box 2 0::aN 3 (.box 3 0::.own 4::.own 5::.con tI::aN 27 [.con tI]),bX⟩,[az,ae])]}
def ta (ρ:Type):Ü ρ:=⟨[2,3],183,2,tc,fun(p:Val (tyL tc.cs)) (v:Val (.pair tI aK)) a b=>Ŝ p.2.2.1 p.2.2.2.2.2.1 v.1 v.2.1 v.2.2 (fun c d e=>a (c,d,e)) (b 0)⟩
def s8:È:={pin:=2,cs:=[ak,tI,tI,ah,tI,tI,ah,tI,ah,ae],vs:=[tI,ae,az,ae],head:=⟨140,.any::.con ak::.own 1::.box 2 0::aN 3 (.box 3 0::.own 4::.own 5::.con tI::aN 3 (.con tI::aN 62 [.con ah,.con tI,.var tI])),bY⟩,exits:=[(.ret,⟨140,.any::.con ak::.own 1::.box 2 0::aN 2 (.var .bool::.box 3 0::.own 4::.own 5::.con tI::aN 3 (.con tI::aN 62 [.con ah,.con tI])),bY⟩,[.bool,ae,az,ae]),(.exit 6,⟨140,.any::.con ak::.own 1::.box 2 0::aN 3 (.box 3 0::.own 4::.own 5::.con tI::aN 3 (.con tI::aN 62 [.con ah,.con tI])),bY⟩,[ae,az,ae])]}
def s7 (ρ:Type):Ü ρ:=⟨[2,3],183,6,s8,fun(p:Val (tyL s8.cs)) (v:Val (.pair tI (.pair ae aK))) b a=>je p.1 p.2.1 p.2.2.1 p.2.2.2.1 p.2.2.2.2.1 v.1 v.2.1 v.2.2.1 v.2.2.2 (fun c d e f=>b (c,d,e,f)) (a 0) (a 1)⟩
def I6:È:={pin:=2,cs:=[ak,tI,tI,ah,tI,ah],vs:=[ae,az,ae,ae],head:=⟨140,[.any,.con ak,.own 1,.box 2 0,.any,.any,.any,.box 3 0,.own 4,.own 5,.con tI],bZ⟩,exits:=[(.ret,⟨140,[.any,.con ak,.own 1,.box 2 0,.any,.any,.var .bool,.box 3 0,.own 4,.own 5,.con tI],bZ⟩,[.bool,ae,az,ae,ae])]}
def s9 (ρ:Type):Ü ρ:=⟨[2,3],183,4,I6,fun(p:Val (.pair ak bj)) (v:Val aL) a b=>ĭ p.1 p.2.1 p.2.2.2.2.1 p.2.2.2.2.2 v.1 v.2.1 v.2.2.1 v.2.2.2 (fun c d e f=>a (c,d,e,f)) (b 0)⟩
def I5:È:={pin:=0,cs:=[tI,tI],vs:=[tI,ae],head:=⟨34,aN 6 (.own 0::.con tI::aN 13 [.con tI,.var tI]),[.rowv tI]⟩,exits:=[(.exit 0,⟨34,aN 6 (.own 0::.con tI::aN 13 [.con tI]),[.rowv tI]⟩,[ae])]}
def sZ (ρ:Type):Ü ρ:=⟨[],117,0,I5,fun(p:Val Â) (v:Val ay) a b=>jd p.1 p.2 v.1 v.2 (fun c d=>a (c,d)) (b 0)⟩
def Py:List (Nat×Ø):=[]
def wF (ρ:Type):List (Ü ρ):=[td ρ,ta ρ,s7 ρ,s9 ρ,sZ ρ]
def κ (ρ:Type):Env ρ:=Ù Py (wF ρ)
def MS:Ø:=⟨[Ì,tI],[.bool],fun(x:Val (.pair Ì tI))=>rl x.1 x.2⟩
def adl:List (Nat×Ø):=[]
def KM (ρ:Type):List (Ü ρ):=[]
def Ur (ρ:Type):Env ρ:=Ù adl (KM ρ)
def sn:Ø:=⟨[Ì],[tI,tI],fun(x:Val Ì)=>nr x⟩
def S6:È:={pin:=0,cs:=[ah,tI,tI,ah],vs:=[tI],head:=⟨57,.any::.box 0 0::aN 17 [.con ah,.con tI,.var tI],[bu]⟩,exits:=[(.ret,⟨57,.any::.box 0 0::.var tI::.var tI::aN 15 [.con ah,.con tI],[bu]⟩,[tI,tI]),(.exit 0,⟨57,.any::.box 0 0::aN 17 [.con ah,.con tI],[bu]⟩,[])]}
def BW (ρ:Type):Ü ρ:=⟨[],138,0,S6,fun(p:Val (.pair ah aG)) (v:Val tI) b a=>qR p.1 p.2.1 p.2.2.1 p.2.2.2 v (fun c=>b c) (a 0) (a 1)⟩
def aaH:List (Nat×Ø):=[(139,MS)]
def F7 (ρ:Type):List (Ü ρ):=[BW ρ]
def Dp (ρ:Type):Env ρ:=Ù aaH (F7 ρ)
def NV:Ø:=⟨[Ì,ae],[tI],fun(x:Val aU)=>zj x.1 x.2⟩
def SZ:È:={pin:=0,cs:=[ae,tI,tI,ah],vs:=[tI],head:=⟨37,aN 2 (.box 0 0::aN 16 [.con ae,.con tI,.var tI]),[bu]⟩,exits:=[(.ret,⟨37,aN 2 (.box 0 0::.any::.var tI::aN 14 [.con ae,.con tI]),[bu]⟩,[tI]),(.exit 0,⟨37,aN 2 (.box 0 0::aN 16 [.con ae,.con tI]),[bu]⟩,[])]}
def BK (ρ:Type):Ü ρ:=⟨[],112,0,SZ,fun(p:Val (.pair ae aG)) (v:Val tI) b a=>qP p.1 p.2.1 p.2.2.1 p.2.2.2 v (fun c=>b c) (a 0) (a 1)⟩
def aaF:List (Nat×Ø):=[(117,qi),(138,sn),(139,MS)]
def F4 (ρ:Type):List (Ü ρ):=[BK ρ]
def Dn (ρ:Type):Env ρ:=Ù aaF (F4 ρ)
def H7:Ø:=⟨[Ì,ak,tI],[ae],fun(x:Val (.pair Ì (.pair ak tI)))=>tO x.1 x.2.1 x.2.2⟩
def yI:È:={pin:=0,cs:=[ak,tI,tI,tI,ah],vs:=[tI,ae],head:=⟨29,.any::.con ak::.con tI::.box 0 0::aN 3 (.own 1::aN 5 [.con tI,.var tI]),[bu,.rowv tI]⟩,exits:=[(.exit 0,⟨29,.any::.con ak::.con tI::.box 0 0::aN 3 (.own 1::aN 5 [.con tI]),[bu,.rowv tI]⟩,[ae])]}
def yH (ρ:Type):Ü ρ:=⟨[],120,0,yI,fun(p:Val (tyL yI.cs)) (v:Val ay) a b=>oq p.2.2.1 v.1 v.2 (fun c d=>a (c,d)) (b 0)⟩
def yG:È:={pin:=2,cs:=[ak,ah,tI,tI,ah,ae,tI,ah,az,ae],vs:=[tI,tI],head:=⟨140,.any::.con ak::.own 1::.box 2 0::aN 3 (.box 3 0::.own 4::.own 5::.var tI::aN 14 [.con ah,.con tI,.var tI]),[bu,.rowc tI,bu,.cells [.nils],.rowc .bool,.rowc tI]⟩,exits:=[(.exit 0,⟨140,.any::.con ak::.own 1::.box 2 0::aN 3 (.box 3 0::.own 4::.own 5::.var tI::aN 14 [.con ah,.con tI]),[bu,.rowc tI,bu,.cells [.nils],.rowc .bool,.rowc tI]⟩,[tI])]}
def yF (ρ:Type):Ü ρ:=⟨[8,3],183,0,yG,fun(p:Val (tyL yG.cs)) (v:Val Â) a b=>uX p.2.1 p.2.2.1 v.1 v.2 (fun c d=>a (c,d)) (b 0)⟩
def yE:È:={pin:=2,cs:=[ak,tI,tI,tI,ah,ae,tI,ah,ae],vs:=[tI,az,ae],head:=⟨140,.any::.con ak::.own 1::.box 2 0::aN 3 (.box 3 0::.own 4::.own 5::.con tI::aN 27 [.con tI,.var tI]),bX⟩,exits:=[(.exit 2,⟨140,.any::.con ak::.own 1::.box 2 0::aN 3 (.box 3 0::.own 4::.own 5::.con tI::aN 27 [.con tI]),bX⟩,[az,ae])]}
def yD (ρ:Type):Ü ρ:=⟨[8,3],183,2,yE,fun(p:Val (tyL yE.cs)) (v:Val (.pair tI aK)) a b=>uW p.2.2.1 p.2.2.2.2.2.1 v.1 v.2.1 v.2.2 (fun c d e=>a (c,d,e)) (b 0)⟩
def yB:È:={pin:=2,cs:=[ak,tI,tI,ah,tI,tI,ah,tI,ah,ae],vs:=[tI,ae,az,ae],head:=⟨140,.any::.con ak::.own 1::.box 2 0::aN 3 (.box 3 0::.own 4::.own 5::.con tI::aN 3 (.con tI::aN 62 [.con ah,.con tI,.var tI])),bY⟩,exits:=[(.ret,⟨140,.any::.con ak::.own 1::.box 2 0::aN 2 (.var .bool::.box 3 0::.own 4::.own 5::.con tI::aN 3 (.con tI::aN 62 [.con ah,.con tI])),bY⟩,[.bool,ae,az,ae]),(.exit 6,⟨140,.any::.con ak::.own 1::.box 2 0::aN 3 (.box 3 0::.own 4::.own 5::.con tI::aN 3 (.con tI::aN 62 [.con ah,.con tI])),bY⟩,[ae,az,ae])]}
def yA (ρ:Type):Ü ρ:=⟨[8,3],183,6,yB,fun(p:Val (tyL yB.cs)) (v:Val (.pair tI (.pair ae aK))) b a=>F3 p.1 p.2.1 p.2.2.1 p.2.2.2.1 p.2.2.2.2.1 v.1 v.2.1 v.2.2.1 v.2.2.2 (fun c d e f=>b (c,d,e,f)) (a 0) (a 1)⟩
def PB:È:={pin:=2,cs:=[ak,tI,tI,ah,tI,ah],vs:=[ae,az,ae,ae],head:=⟨140,[.any,.con ak,.own 1,.box 2 0,.any,.any,.any,.box 3 0,.own 4,.own 5,.con tI],bZ⟩,exits:=[(.ret,⟨140,[.any,.con ak,.own 1,.box 2 0,.any,.any,.var .bool,.box 3 0,.own 4,.own 5,.con tI],bZ⟩,[.bool,ae,az,ae,ae])]}
def yC (ρ:Type):Ü ρ:=⟨[8,3],183,4,PB,fun(p:Val (.pair ak bj)) (v:Val aL) a b=>uV p.1 p.2.1 p.2.2.2.2.1 p.2.2.2.2.2 v.1 v.2.1 v.2.2.1 v.2.2.2 (fun c d e f=>a (c,d,e,f)) (b 0)⟩
def Xa:List (Nat×Ø):=[]
def BJ (ρ:Type):List (Ü ρ):=[yH ρ,yF ρ,yD ρ,yA ρ,yC ρ]
def jf (ρ:Type):Env ρ:=Ù Xa (BJ ρ)
def Ek:Ø:=⟨[Ì,tI,tI],[tI,tI],fun(x:Val aY)=>pP x.1 x.2.1 x.2.2⟩
def aaJ:List (Nat×Ø):=[(112,NV),(120,H7)]
def Gb (ρ:Type):List (Ü ρ):=[]
def PR (ρ:Type):Env ρ:=Ù aaJ (Gb ρ)
def jM:Ø:=⟨[ax,tI,tI],[tI],fun(x:Val aR)=>Ĉ x.1 x.2.1 x.2.2⟩
def IJ:List (Nat×Ø):=[(114,Ek)]
def qG (ρ:Type):List (Ü ρ):=[]
def wp (ρ:Type):Env ρ:=Ù IJ (qG ρ)
def rA:Ø:=⟨[ax,Â],[tI],fun(x:Val aR)=>π x.1 x.2⟩
def II:List (Nat×Ø):=[(50,ja),(51,jM)]
def qF (ρ:Type):List (Ü ρ):=[]
def wo (ρ:Type):Env ρ:=Ù II (qF ρ)
def l7:Ø:=⟨[ax,Â],[tI],fun(x:Val aR)=>ig x.1 x.2⟩
def AK:List (Nat×Ø):=[(50,ja),(51,jM)]
def mZ (ρ:Type):List (Ü ρ):=[]
def pp (ρ:Type):Env ρ:=Ù AK (mZ ρ)
def gY:Ø:=⟨[ax,Â],[Â],fun(x:Val aR)=>Ŕ x.1 x.2⟩
def AJ:List (Nat×Ø):=[(64,rA),(65,l7)]
def mY (ρ:Type):List (Ü ρ):=[]
def kh (ρ:Type):Env ρ:={Ù AJ (mY ρ) with hint:=JA [(12,64),(16,65)]}
def xj:Ø:=⟨[aT,ae,tI],[tI],fun(x:Val (.pair aT aE))=>iu x.1 x.2.1 x.2.2⟩
def Qg:List (Nat×Ø):=[(136,Ÿ)]
def wO (ρ:Type):List (Ü ρ):=[]
def Cb (ρ:Type):Env ρ:=Ù Qg (wO ρ)
def wg:Ø:=⟨[aq,ae],[Â],fun(x:Val (.pair aq ae))=>iR x.1 x.2⟩
def Du:List (Nat×Ø):=[]
def nS (ρ:Type):List (Ü ρ):=[]
def qY (ρ:Type):Env ρ:=Ù Du (nS ρ)
def sq:Ø:=⟨[aa],[tI],fun(x:Val aa)=>jV x⟩
def S7:È:={pin:=0,cs:=[aa,tI],vs:=[tI],head:=⟨15,aN 5 [.con aa,.con tI,.var tI],[]⟩,exits:=[(.ret,⟨15,[.any,.any,.var tI,.any,.any,.con aa,.con tI],[]⟩,[tI]),(.exit 0,⟨15,aN 5 [.con aa,.con tI],[]⟩,[])]}
def B6 (ρ:Type):Ü ρ:=⟨[],266,0,S7,fun(p:Val (.pair aa tI)) (v:Val tI) b a=>qW p.1 p.2 v (fun c=>b c) (a 0) (a 1)⟩
def aaK:List (Nat×Ø):=[(226,El)]
def Gc (ρ:Type):List (Ü ρ):=[B6 ρ]
def Dq (ρ:Type):Env ρ:=Ù aaK (Gc ρ)
def CF:Ø:=⟨[tI,tI],[Â,tI],fun(x:Val Â)=>pQ x.1 x.2⟩
def S8:List (Nat×Ø):=[(258,VD),(259,acQ)]
def yK (ρ:Type):List (Ü ρ):=[]
def Gd (ρ:Type):Env ρ:=Ù S8 (yK ρ)
def ain:Ø:=⟨[Â,Â],[Â,tI],fun(x:Val ä)=>X6 x.1 x.2⟩
def agK:List (Nat×Ø):=[(266,sq),(294,CF)]
def P2 (ρ:Type):List (Ü ρ):=[]
def aaQ (ρ:Type):Env ρ:=Ù agK (P2 ρ)
def En:Ø:=⟨[Â,Â],[Â],fun(x:Val ä)=>vO x.1 x.2⟩
def My:List (Nat×Ø):=[(283,ain)]
def tj (ρ:Type):List (Ü ρ):=[]
def yN (ρ:Type):Env ρ:=Ù My (tj ρ)
def acR:Ø:=⟨[Â,Â],[tI],fun(x:Val ä)=>QQ x.1 x.2⟩
def agJ:List (Nat×Ø):=[]
def PZ (ρ:Type):List (Ü ρ):=[]
def aaO (ρ:Type):Env ρ:=Ù agJ (PZ ρ)
def A4:Ø:=⟨[ä],[.bool],fun(x:Val ä)=>rZ x⟩
def Jd:List (Nat×Ø):=[(266,sq),(300,acR)]
def qX (ρ:Type):List (Ü ρ):=[]
def wL (ρ:Type):Env ρ:=Ù Jd (qX ρ)
def aio:Ø:=⟨[Â,Â],[Â,tI],fun(x:Val ä)=>QS x.1 x.2⟩
def agL:List (Nat×Ø):=[(266,sq),(294,CF)]
def P4 (ρ:Type):List (Ü ρ):=[]
def aaS (ρ:Type):Env ρ:=Ù agL (P4 ρ)
def ZC:Ø:=⟨[ä,Â],[ä,tI],fun(x:Val (.pair ä Â))=>QR x.1 x.2⟩
def KW:List (Nat×Ø):=[(226,El),(295,A4),(298,aio),(300,acR)]
def uY (ρ:Type):List (Ü ρ):=[]
def KV:List akT:=[⟨[3,2],296,0,4⟩]
def aaR (ρ:Type):Env ρ:=Ù KW (uY ρ)
def Ds (ρ:Type):Env ρ:=amW KW (uY ρ) KV
def Em:Ø:=⟨[Â,Â],[ä],fun(x:Val ä)=>oA x.1 x.2⟩
def Mx:List (Nat×Ø):=[(284,ZC)]
def tg (ρ:Type):List (Ü ρ):=[]
def yM (ρ:Type):Env ρ:=Ù Mx (tg ρ)
def H9:Ø:=⟨[Ä,Í],[ä],fun(x:Val aB)=>oS x.1 x.2⟩
def XB:List (Nat×Ø):=[(133,CG),(199,zK),(263,wg),(264,En),(265,Em)]
def Ce (ρ:Type):List (Ü ρ):=[]
def K7 (ρ:Type):Env ρ:=Ù XB (Ce ρ)
def NZ:Ø:=⟨[Ä,Í],[Â],fun(x:Val aB)=>tS x.1 x.2⟩
def aa3:List (Nat×Ø):=[]
def GD (ρ:Type):List (Ü ρ):=[]
def Ql (ρ:Type):Env ρ:=Ù aa3 (GD ρ)
def NW:Ø:=⟨[tI,tI],[tI],fun(x:Val Â)=>tP x.1 x.2⟩
def aaN:List (Nat×Ø):=[]
def Ge (ρ:Type):List (Ü ρ):=[]
def PY (ρ:Type):Env ρ:=Ù aaN (Ge ρ)
def VE:Ø:=⟨[Â],[tI,tI],fun(x:Val Â)=>Hm x⟩
def adz:List (Nat×Ø):=[(266,sq),(267,NW)]
def KX (ρ:Type):List (Ü ρ):=[]
def UA (ρ:Type):Env ρ:=Ù adz (KX ρ)
def NX:Ø:=⟨[Â],[tI,tI],fun(x:Val Â)=>zm x⟩
def aaT:List (Nat×Ø):=[(266,sq),(267,NW)]
def Gi (ρ:Type):List (Ü ρ):=[]
def P5 (ρ:Type):Env ρ:=Ù aaT (Gi ρ)
def VF:Ø:=⟨[Ä,Í],[Â],fun(x:Val aB)=>vN x.1 x.2⟩
def adA:List (Nat×Ø):=[(238,H9),(239,NZ),(240,VE),(241,NX)]
def KZ (ρ:Type):List (Ü ρ):=[]
def UB (ρ:Type):Env ρ:=Ù adA (KZ ρ)
def afa:Ø:=⟨[Ä,Ñ,tI,tI],[tI],fun(x:Val (.pair Ä (.pair Ñ Â)))=>Al x.1 x.2.1 x.2.2.1 x.2.2.2⟩
def Gy:È:={pin:=0,cs:=[tI,tI,af,tI,tI,tI,ac,aa,af,ab,aa,tI,tI,tI,tI,tI,tI,tI,tI],vs:=[tI,tI],head:=⟨88,aN 2 (.con tI::.con tI::.box 0 0::.box 1 0::aN 3 (.var tI::aN 7 [.con af,.con tI,.var tI])),[bm,bn]⟩,exits:=[(.exit 0,⟨88,aN 2 (.con tI::.con tI::.box 0 0::.box 1 0::aN 3 (.var tI::aN 7 [.con af,.con tI])),[bm,bn]⟩,[tI])]}
def Gx (ρ:Type):Ü ρ:=⟨[],235,0,Gy,fun(p:Val (tyL Gy.cs)) (v:Val Â) a b=>vl p.1 p.2.1 p.2.2.1 p.2.2.2.1 p.2.2.2.2.2.2.2.2.2.2.2.1 v.1 v.2 (fun c d=>a (c,d)) (b 0)⟩
def Gw:È:={pin:=0,cs:=[tI,tI,tI,aa,tI,tI,tI,tI,tI,tI,tI,tI,tI],vs:=[tI,ae],head:=⟨88,aN 2 (.con tI::.con tI::.any::.box 0 0::aN 3 (.con tI::aN 3 (.own 1::aN 39 [.con aa,.con tI,.var tI]))),bU⟩,exits:=[(.exit 2,⟨88,aN 2 (.con tI::.con tI::.any::.box 0 0::aN 3 (.con tI::aN 3 (.own 1::aN 39 [.con aa,.con tI]))),bU⟩,[ae])]}
def Gv (ρ:Type):Ü ρ:=⟨[],235,2,Gw,fun(p:Val (tyL Gw.cs)) (v:Val ay) a b=>vk p.1 p.2.1 p.2.2.2.1 p.2.2.2.2.1 p.2.2.2.2.2.1 v.1 v.2 (fun c d=>a (c,d)) (b 0)⟩
def adC:List (Nat×Ø):=[(227,ks)]
def K4 (ρ:Type):List (Ü ρ):=[Gx ρ,Gv ρ]
def zT (ρ:Type):Env ρ:=Ù adC (K4 ρ)
def VG:Ø:=⟨[Ä],[aT],fun(x:Val Ä)=>Ho x⟩
def Gs:È:={pin:=2,cs:=[tI,ae,tI,ac,tI,tI,tI,tI,ac,aa,af,ab,aa,tI,tI,ac,aa,af,ab,aa,aa,tI,tI,tI,tI,tI,tI,tI,tI,tI],vs:=[tI,ah,aa],head:=⟨144,.box 1 0::.any::.con tI::.box 2 0::.con ae::.con tI::.var tI::aN 24 [.con ac,.con tI,.con tI],[bm,bw,bn,.rowv ÿ,.rowv Â]⟩,exits:=[(.exit 2,⟨144,.box 1 0::.any::.con tI::.box 2 0::.con ae::.con tI::aN 25 [.con ac,.con tI,.con tI],[bm,bw,bn,.rowv ÿ,.rowv Â]⟩,[ah,aa])]}
def Gr (ρ:Type):Ü ρ:=⟨[2,1],195,2,Gs,fun(p:Val (tyL Gs.cs)) (v:Val aM) a b=>let A:=p.2.2.2.2.2.2.2.2.2.2.2.2.2;let B:=A.2.2.2.2;let C:=B.2.2.2.2.2;let D:=C.2.2.2.2;vg p.1 p.2.1 p.2.2.1 A.1 A.2.1 A.2.2.1 A.2.2.2.1 B.1 B.2.1 B.2.2.1 C.1 C.2.1 C.2.2.1 C.2.2.2.1 D.1 D.2.1 D.2.2.1 D.2.2.2 v.1 v.2.1 v.2.2 (fun c d e=>a (c,d,e)) (b 0)⟩
def Gu:È:={pin:=2,cs:=[ac,tI,tI,tI,ac,aa,af,ab,aa,tI,tI,ac,aa,af,ab,aa,aa,tI],vs:=[tI,ah,aa],head:=⟨144,.box 1 0::aN 30 [.con ac,.con tI,.var tI],b7⟩,exits:=[(.exit 0,⟨144,.box 1 0::aN 30 [.con ac,.con tI],b7⟩,[ah,aa])]}
def Gt (ρ:Type):Ü ρ:=⟨[2,1],195,0,Gu,fun(p:Val (tyL Gu.cs)) (v:Val aM) a b=>let A:=p.2.2.2.2.2.2.2.2.2;let B:=A.2.2.2.2;vh p.1 p.2.1 A.1 A.2.1 A.2.2.1 A.2.2.2.1 B.1 B.2.1 B.2.2.1 B.2.2.2.1 B.2.2.2.2 v.1 v.2.1 v.2.2 (fun c d e=>a (c,d,e)) (b 0)⟩
def Gq:È:={pin:=2,cs:=[ab,tI,tI,tI,ac,aa,af,ab,aa,tI,tI,ac,aa,af,ab,aa,aa,tI],vs:=[tI,ah,aa],head:=⟨144,.box 1 0::aN 107 [.con ab,.con tI,.var tI],b7⟩,exits:=[(.exit 4,⟨144,.box 1 0::aN 107 [.con ab,.con tI],b7⟩,[ah,aa])]}
def Gp (ρ:Type):Ü ρ:=⟨[2,1],195,4,Gq,fun(p:Val (tyL Gq.cs)) (v:Val aM) a b=>let A:=p.2.2.2.2.2.2.2.2.2;let B:=A.2.2.2.2;vf p.1 p.2.1 A.1 A.2.1 A.2.2.1 A.2.2.2.1 B.1 B.2.1 B.2.2.1 B.2.2.2.1 B.2.2.2.2 v.1 v.2.1 v.2.2 (fun c d e=>a (c,d,e)) (b 0)⟩
def adB:List (Nat×Ø):=[(135,Eo),(194,VH),(198,xj),(199,zK),(203,VF),(235,afa)]
def K3 (ρ:Type):List (Ü ρ):=[Gr ρ,Gt ρ,Gp ρ]
def tk (ρ:Type):Env ρ:=Ù adB (K3 ρ)
def Ţ:Ø:=⟨[Ä],[Ì,aa,tI],fun(x:Val Ä)=>ħ x⟩
def XI:List (Nat×Ø):=[(66,Ś),(137,VG)]
def Cf (ρ:Type):List (Ü ρ):=[]
def Lb (ρ:Type):Env ρ:=Ù XI (Cf ρ)
def oa:Ø:=⟨[Ä,Â],[Ä,tI],fun(x:Val aD)=>jB x.1 x.2⟩
def GP:È:={pin:=6,cs:=[tI,tI,tI,ac,aa,af,ab,aa,tI,tI,tI,tI,tI,tI,ac,aa,af,ab,aa,tI,tI,tI,tI,ab,tI,tI,ac,aa,af,aa],vs:=[tI,ab],head:=⟨50,.any::.box 6 0::.box 7 0::.own 8::aN 21 [.own 8,.con tI,.var tI],b8⟩,exits:=[(.exit 0,⟨50,.any::.box 6 0::.box 7 0::.own 8::aN 21 [.own 8,.con tI],b8⟩,[ab])]}
def GO (ρ:Type):Ü ρ:=⟨[1,2,4,1],223,0,GP,fun(p:Val (tyL GP.cs)) (v:Val (.pair tI ab)) a b=>vu p.1 v.1 v.2 (fun c d=>a (c,d)) (b 0)⟩
def adI:List (Nat×Ø):=[(66,Ś)]
def Ld (ρ:Type):List (Ü ρ):=[GO ρ]
def Jq (ρ:Type):Env ρ:=Ù adI (Ld ρ)
def Ŗ:Ø:=⟨[Ì],[.bool,tI],fun(x:Val Ì)=>Ē x⟩
def Ja:List (Nat×Ø):=[(117,qi),(138,sn)]
def qQ (ρ:Type):List (Ü ρ):=[]
def wI (ρ:Type):Env ρ:=Ù Ja (qQ ρ)
def Kd:Ø:=⟨[Ä,Â],[Â,tI],fun(x:Val aD)=>nq x.1 x.2⟩
def IX:È:={pin:=4,cs:=[tI,tI,tI,ac,aa,af,ab,aa,tI,tI,tI,tI,aa],vs:=[tI,tI,tI,ac,aa,af,ab,aa],head:=⟨68,aN 2 (.box 4 0::aN 20 [.own 3,.con tI,.var tI]),b9⟩,exits:=[(.ret,⟨68,aN 2 (.box 4 0::.any::.nilp::.var tI::aN 17 [.own 3,.con tI]),b9⟩,[tI,tI,tI,ac,aa,af,ab,aa]),(.exit 0,⟨68,aN 2 (.box 4 0::aN 20 [.own 3,.con tI]),b9⟩,[tI,tI,ac,aa,af,ab,aa])]}
def sW (ρ:Type):Ü ρ:=⟨[1,3],47,0,IX,fun(p:Val aH) (v:Val aC) b a=>ą p.1 p.2.2.2.2.2.2.2.2.2.2.2.2 v.1 v.2.1 v.2.2.1 v.2.2.2.1 v.2.2.2.2.1 v.2.2.2.2.2.1 v.2.2.2.2.2.2.1 v.2.2.2.2.2.2.2 (fun c d e f g h i j=>b (c,d,e,f,g,h,i,j)) (a 0) (a 1)⟩
def Ps:List (Nat×Ø):=[(48,gY),(66,Ś),(67,jb),(68,Ţ),(110,oa),(111,Ŗ)]
def wx (ρ:Type):List (Ü ρ):=[sW ρ]
def rJ (ρ:Type):Env ρ:=Ù Ps (wx ρ)
def NT:Ø:=⟨[Ä,Â,Â],[Â,tI],fun(x:Val (.pair Ä ä))=>vM x.1 x.2.1 x.2.2⟩
def wE:È:={pin:=5,cs:=[tI,tI,tI,ac,aa,af,ab,aa,tI,tI,tI,tI,tI,tI,aa],vs:=[tI,tI,tI,ac,aa,af,ab,aa],head:=⟨68,aN 2 (.box 5 0::aN 20 [.own 4,.con tI,.var tI]),ca⟩,exits:=[(.ret,⟨68,aN 2 (.box 5 0::.any::.nilp::.var tI::aN 17 [.own 4,.con tI]),ca⟩,[tI,tI,tI,ac,aa,af,ab,aa]),(.exit 0,⟨68,aN 2 (.box 5 0::aN 20 [.own 4,.con tI]),ca⟩,[tI,tI,ac,aa,af,ab,aa])]}
def wD (ρ:Type):Ü ρ:=⟨[1,4],47,0,wE,fun(p:Val (tyL wE.cs)) (v:Val aC) b a=>rN p.1 p.2.2.2.2.2.2.2.2.2.2.2.2.2.2 v.1 v.2.1 v.2.2.1 v.2.2.2.1 v.2.2.2.2.1 v.2.2.2.2.2.1 v.2.2.2.2.2.2.1 v.2.2.2.2.2.2.2 (fun c d e f g h i j=>b (c,d,e,f,g,h,i,j)) (a 0) (a 1)⟩
def SV:List (Nat×Ø):=[(50,ja),(51,jM),(66,Ś),(67,jb),(68,Ţ),(110,oa),(111,Ŗ)]
def yx (ρ:Type):List (Ü ρ):=[wD ρ]
def uS (ρ:Type):Env ρ:=Ù SV (yx ρ)
def CC:Ø:=⟨[Â,Â],[tI],fun(x:Val ä)=>pL x.1 x.2⟩
def Su:List (Nat×Ø):=[]
def yc (ρ:Type):List (Ü ρ):=[]
def Fc (ρ:Type):Env ρ:=Ù Su (yc ρ)
def NR:Ø:=⟨[Ä,Â,Â],[tI,tI],fun(x:Val (.pair Ä ä))=>zh x.1 x.2.1 x.2.2⟩
def SS:È:={pin:=4,cs:=[tI,tI,tI,ac,aa,af,ab,aa,tI,tI,tI,tI,aa],vs:=[tI,tI,tI,ac,aa,af,ab,aa],head:=⟨68,aN 2 (.box 4 0::aN 20 [.own 3,.con tI,.var tI]),b9⟩,exits:=[(.ret,⟨68,aN 2 (.box 4 0::.any::.nilp::.var tI::aN 17 [.own 3,.con tI]),b9⟩,[tI,tI,tI,ac,aa,af,ab,aa]),(.exit 0,⟨68,aN 2 (.box 4 0::aN 20 [.own 3,.con tI]),b9⟩,[tI,tI,ac,aa,af,ab,aa])]}
def BI (ρ:Type):Ü ρ:=⟨[1,3],47,0,SS,fun(p:Val aH) (v:Val aC) b a=>yq p.1 p.2.2.2.2.2.2.2.2.2.2.2.2 v.1 v.2.1 v.2.2.1 v.2.2.2.1 v.2.2.2.2.1 v.2.2.2.2.2.1 v.2.2.2.2.2.2.1 v.2.2.2.2.2.2.2 (fun c d e f g h i j=>b (c,d,e,f,g,h,i,j)) (a 0) (a 1)⟩
def aaA:List (Nat×Ø):=[(48,gY),(57,CC),(66,Ś),(67,jb),(68,Ţ),(110,oa),(111,Ŗ)]
def FS (ρ:Type):List (Ü ρ):=[BI ρ]
def Dj (ρ:Type):Env ρ:=Ù aaA (FS ρ)
def NU:Ø:=⟨[Ì,tI,tI],[am],fun(x:Val aY)=>zi x.1 x.2.1 x.2.2⟩
def Uy:È:={pin:=0,cs:=[tI,tI,tI,tI,ah],vs:=[tI,ae],head:=⟨45,.any::.con tI::.con tI::.box 0 0::aN 3 (.own 1::aN 7 [.con tI,.var tI]),[bu,.rowv tI]⟩,exits:=[(.exit 0,⟨45,.any::.con tI::.con tI::.box 0 0::aN 3 (.own 1::aN 7 [.con tI]),[bu,.rowv tI]⟩,[ae])]}
def Ux (ρ:Type):Ü ρ:=⟨[],122,0,Uy,fun(p:Val (tyL Uy.cs)) (v:Val ay) a b=>zR p.2.2.1 v.1 v.2 (fun c d=>a (c,d)) (b 0)⟩
def Uv:È:={pin:=4,cs:=[ae,tI,am,tI,ah],vs:=[tI,ae],head:=⟨53,.con ae::.box 1 0::aN 2 (.own 4::aN 7 [.con tI,.var tI]),cd⟩,exits:=[(.exit 0,⟨53,.con ae::.box 1 0::aN 2 (.own 4::aN 7 [.con tI]),cd⟩,[ae])]}
def Uu (ρ:Type):Ü ρ:=⟨[12,8],185,0,Uv,fun(p:Val (tyL Uv.cs)) (v:Val ay) a b=>W9 p.2.1 v.1 v.2 (fun c d=>a (c,d)) (b 0)⟩
def Ut:È:={pin:=4,cs:=[ae,ah,tI,am,tI,ah],vs:=[tI,ae],head:=⟨53,.con ae::aN 3 (.own 4::aN 16 [.con ah,.con tI,.var tI]),cd⟩,exits:=[(.exit 2,⟨53,.con ae::aN 3 (.own 4::aN 16 [.con ah,.con tI]),cd⟩,[ae])]}
def Us (ρ:Type):Ü ρ:=⟨[12,8],185,2,Ut,fun(p:Val (tyL Ut.cs)) (v:Val ay) a b=>F2 p.1 p.2.1 p.2.2.1 v.1 v.2 (fun c d=>a (c,d)) (b 0)⟩
def agH:È:={pin:=0,cs:=[tI,tI,ah],vs:=[tI,am],head:=⟨45,aN 9 (.own 0::.fn 185 [(1,0)]::aN 18 [.con tI,.var tI]),[.rowv ae,bu]⟩,exits:=[(.exit 2,⟨45,aN 9 (.own 0::.fn 185 [(1,0)]::aN 18 [.con tI]),[.rowv ae,bu]⟩,[am])]}
def Uw (ρ:Type):Ü ρ:=⟨[],122,2,agH,fun(p:Val aG) (v:Val aO) a b=>MZ p.1 p.2.1 p.2.2 v.1 v.2 (fun c d=>a (c,d)) (b 0)⟩
def alD:List (Nat×Ø):=[]
def aaE (ρ:Type):List (Ü ρ):=[Ux ρ,Uu ρ,Us ρ,Uw ρ]
def I8 (ρ:Type):Env ρ:=Ù alD (aaE ρ)
def ZB:Ø:=⟨[Ì,tI,tI],[ae,tI],fun(x:Val aY)=>zl x.1 x.2.1 x.2.2⟩
def B5:È:={pin:=3,cs:=[am,tI,tI,ah,tI,tI],vs:=[tI],head:=⟨19,.con am::.fn 124 [(1,0),(2,0)]::aN 5 [.con tI,.var tI],[bu,bq,bq]⟩,exits:=[(.ret,⟨19,[.con am,.fn 124 [(1,0),(2,0)],.any,.any,.var tI,.any,.any,.con tI],[bu,bq,bq]⟩,[tI]),(.exit 0,⟨19,.con am::.fn 124 [(1,0),(2,0)]::aN 5 [.con tI],[bu,bq,bq]⟩,[])]}
def B4 (ρ:Type):Ü ρ:=⟨[5,2],123,0,B5,fun(p:Val (tyL B5.cs)) (v:Val tI) b a=>qV p.1 p.2.1 p.2.2.2.2.1 p.2.2.2.2.2 v (fun c=>b c) (a 0) (a 1)⟩
def BZ:È:={pin:=3,cs:=[tI,am,ah,tI,tI,ah,tI,tI,tI,ah],vs:=[tI,tI,tI,ae],head:=⟨73,.any::.var tI::.con tI::.con am::.fn 126 [(2,0)]::.box 3 0::aN 5 (.own 4::.var tI::aN 7 [.con ah,.con tI,.var tI]),ce⟩,exits:=[(.exit 2,⟨73,.any::.var tI::.con tI::.con am::.fn 126 [(2,0)]::.box 3 0::aN 5 (.own 4::.var tI::aN 7 [.con ah,.con tI]),ce⟩,[tI,tI,ae])]}
def BX (ρ:Type):Ü ρ:=⟨[6,5],125,2,BZ,fun(p:Val (tyL BZ.cs)) (v:Val aJ) a b=>KS p.1 p.2.1 p.2.2.1 p.2.2.2.1 p.2.2.2.2.2.2.2.1 v.1 v.2.1 v.2.2.1 v.2.2.2 (fun c d e f=>a (c,d,e,f)) (b 0)⟩
def B3:È:={pin:=3,cs:=[am,tI,ah,tI,tI,tI,ah],vs:=[tI,tI,tI,ae],head:=⟨73,.any::.var tI::.var tI::.con am::.fn 126 [(2,0)]::.box 3 0::aN 5 [.own 4,.var tI],ce⟩,exits:=[(.exit 0,⟨73,aN 3 (.con am::.fn 126 [(2,0)]::.box 3 0::aN 5 [.own 4]),ce⟩,[ae])]}
def B0 (ρ:Type):Ü ρ:=⟨[6,5],125,0,B3,fun(p:Val (tyL B3.cs)) (v:Val aJ) a b=>qU p.1 p.2.2.2.2.1 p.2.2.2.2.2.2 v.1 v.2.1 v.2.2.1 v.2.2.2 (fun c d e f=>a (c,d,e,f)) (b 0)⟩
def aaI:List (Nat×Ø):=[(114,Ek),(122,NU)]
def Ga (ρ:Type):List (Ü ρ):=[B4 ρ,BX ρ,B0 ρ]
def pz (ρ:Type):Env ρ:=Ù aaI (Ga ρ)
def Ej:Ø:=⟨[ax,aS,(.ptr .bool)],[ae],fun(x:Val (.pair ax (.pair aS (.ptr .bool))))=>lG x.1 x.2.1 x.2.2⟩
def Mm:List (Nat×Ø):=[(50,ja),(61,ZB)]
def sY (ρ:Type):List (Ü ρ):=[]
def yw (ρ:Type):Env ρ:=Ù Mm (sY ρ)
def CD:Ø:=⟨[Ä,ae],[aa],fun(x:Val (.pair Ä ae))=>pM x.1 x.2⟩
def Mb:È:={pin:=0,cs:=[aa,ae,tI],vs:=[tI,aa],head:=⟨32,aN 6 (.con aa::.any::.own 0::aN 8 [.con ae,.con tI,.var tI]),[.rowv Â]⟩,exits:=[(.exit 0,⟨32,aN 6 (.con aa::.any::.own 0::aN 8 [.con ae,.con tI]),[.rowv Â]⟩,[aa])]}
def wn (ρ:Type):Ü ρ:=⟨[],63,0,Mb,fun(p:Val (.pair aa aE)) (v:Val aF) a b=>mG p.1 p.2.1 p.2.2 v.1 v.2 (fun c d=>a (c,d)) (b 0)⟩
def Sv:List (Nat×Ø):=[(68,Ţ)]
def yd (ρ:Type):List (Ü ρ):=[wn ρ]
def uF (ρ:Type):Env ρ:=Ù Sv (yd ρ)
def NS:Ø:=⟨[Ä,Â,.bool],[υ,tI],fun(x:Val (.pair Ä (.pair Â .bool)))=>vL x.1 x.2.1 x.2.2⟩
def wC:È:={pin:=5,cs:=[tI,tI,tI,ac,aa,af,ab,aa,tI,tI,tI,tI,.bool,tI,aa],vs:=[tI,tI,tI,ac,aa,af,ab,aa],head:=⟨68,aN 2 (.box 5 0::aN 20 [.own 4,.con tI,.var tI]),cf⟩,exits:=[(.ret,⟨68,aN 2 (.box 5 0::.any::.nilp::.var tI::aN 17 [.own 4,.con tI]),cf⟩,[tI,tI,tI,ac,aa,af,ab,aa]),(.exit 0,⟨68,aN 2 (.box 5 0::aN 20 [.own 4,.con tI]),cf⟩,[tI,tI,ac,aa,af,ab,aa])]}
def wB (ρ:Type):Ü ρ:=⟨[1,3],47,0,wC,fun(p:Val (tyL wC.cs)) (v:Val aC) b a=>rM p.1 p.2.2.2.2.2.2.2.2.2.2.2.2.2.2 v.1 v.2.1 v.2.2.1 v.2.2.2.1 v.2.2.2.2.1 v.2.2.2.2.2.1 v.2.2.2.2.2.2.1 v.2.2.2.2.2.2.2 (fun c d e f g h i j=>b (c,d,e,f,g,h,i,j)) (a 0) (a 1)⟩
def wA:È:={pin:=10,cs:=[tI,tI,tI,ac,aa,af,ab,aa,tI,tI,tI,tI,.bool,tI,aa,tI,tI,ac,aa,af,ab,aa,tI,ah,aa,tI,tI,ac,aa,af,ab,aa,tI,tI,ac,aa,af,ab,aa],vs:=[tI],head:=⟨68,aN 2 (.box 10 0::aN 20 [.nils,.con tI,.var tI]),cg⟩,exits:=[(.exit 0,⟨68,aN 2 (.box 10 0::aN 20 [.nils,.con tI]),cg⟩,[])]}
def wz (ρ:Type):Ü ρ:=⟨[6,1],47,0,wA,fun(p:Val (tyL wA.cs)) (v:Val tI) a b=>rL p.1 v (fun c=>a c) (b 0)⟩
def SU:List (Nat×Ø):=[(60,Ej),(62,pb),(63,CD),(64,rA),(65,l7),(66,Ś),(67,jb),(68,Ţ),(110,oa),(111,Ŗ)]
def yv (ρ:Type):List (Ü ρ):=[wB ρ,wz ρ]
def lq (ρ:Type):Env ρ:={Ù SU (yv ρ) with hint:=JA [(34,60),(56,60)]}
def CE:Ø:=⟨[Ì,ae],[tI],fun(x:Val aU)=>pO x.1 x.2⟩
def Mo:È:={pin:=1,cs:=[ae,tI,tI,ah],vs:=[tI],head:=⟨19,.con ae::.fn 196 [(0,0)]::aN 5 [.con tI,.var tI],[bu]⟩,exits:=[(.ret,⟨19,[.con ae,.fn 196 [(0,0)],.any,.any,.var tI,.any,.any,.con tI],[bu]⟩,[tI]),(.exit 0,⟨19,.con ae::.fn 196 [(0,0)]::aN 5 [.con tI],[bu]⟩,[])]}
def wG (ρ:Type):Ü ρ:=⟨[3,2,1,2],155,0,Mo,fun(p:Val (.pair ae aG)) (v:Val tI) b a=>mI p.1 p.2.1 p.2.2.2 v (fun c=>b c) (a 0) (a 1)⟩
def SX:List (Nat×Ø):=[]
def yz (ρ:Type):List (Ü ρ):=[wG ρ]
def uU (ρ:Type):Env ρ:=Ù SX (yz ρ)
def VC:Ø:=⟨[Ì,tI,ae],[tI,tI,.bool],fun(x:Val (.pair Ì ay))=>Hl x.1 x.2.1 x.2.2⟩
def W6:È:={pin:=0,cs:=[ae,tI,tI,ah],vs:=[tI,tI,tI],head:=⟨37,.any::.var tI::.any::.box 0 0::aN 5 [.var tI,.any,.any,.any,.con ae,.con tI,.var tI],[bu]⟩,exits:=[(.ret,⟨37,aN 3 (.box 0 0::aN 2 (.var tI::.var tI::.var .bool::aN 4 [.con ae,.con tI])),[bu]⟩,[tI,tI,.bool]),(.exit 0,⟨37,.any::.var tI::.any::.box 0 0::aN 5 [.var tI,.any,.any,.any,.con ae,.con tI],[bu]⟩,[tI,tI])]}
def FW (ρ:Type):Ü ρ:=⟨[],141,0,W6,fun(p:Val (.pair ae aG)) (v:Val ÿ) b a=>uT p.1 p.2.1 p.2.2.2 v.1 v.2.1 v.2.2 (fun c d e=>b (c,d,e)) (a 0) (a 1)⟩
def adk:List (Nat×Ø):=[]
def KL (ρ:Type):List (Ü ρ):=[FW ρ]
def I4 (ρ:Type):Env ρ:=Ù adk (KL ρ)
def A3:Ø:=⟨[Ì,tI,tI,ae],[tI,tI],fun(x:Val (.pair Ì (.pair tI ay)))=>jU x.1 x.2.1 x.2.2.1 x.2.2.2⟩
def Jc:List (Nat×Ø):=[(138,sn),(139,MS),(140,CE),(141,VC)]
def qT (ρ:Type):List (Ü ρ):=[]
def wK (ρ:Type):Env ρ:=Ù Jc (qT ρ)
def ud:Ø:=⟨[υ],[tI],fun(x:Val υ)=>lF x⟩
def Ml:List (Nat×Ø):=[(66,Ś),(67,jb),(68,Ţ),(69,A3)]
def sX (ρ:Type):List (Ü ρ):=[]
def yu (ρ:Type):Env ρ:=Ù Ml (sX ρ)
def VJ:Ø:=⟨[Ä,Í],[Ä,tI],fun(x:Val aB)=>oC x.1 x.2⟩
def GM:È:={pin:=8,cs:=[tI,tI,tI,ac,aa,af,ab,aa,tI,tI,ae,ae,tI,tI,tI,tI,tI,tI,tI,tI,ac,aa,af,ab,aa,tI,tI,tI,tI,ab,tI,tI,ac,aa,af,aa],vs:=[tI,ab],head:=⟨50,.any::.box 8 0::.box 9 0::.own 10::aN 21 [.own 10,.con tI,.var tI],ci⟩,exits:=[(.exit 0,⟨50,.any::.box 8 0::.box 9 0::.own 10::aN 21 [.own 10,.con tI],ci⟩,[ab])]}
def GK (ρ:Type):Ü ρ:=⟨[2,2,4,1],223,0,GM,fun(p:Val (tyL GM.cs)) (v:Val (.pair tI ab)) a b=>vt p.1 v.1 v.2 (fun c d=>a (c,d)) (b 0)⟩
def adG:List (Nat×Ø):=[(66,Ś)]
def La (ρ:Type):List (Ü ρ):=[GK ρ]
def Jo (ρ:Type):Env ρ:=Ù adG (La ρ)
def ZE:Ø:=⟨[Ä,Í,Â],[Â,tI],fun(x:Val (.pair Ä (.pair Í Â)))=>tR x.1 x.2.1 x.2.2⟩
def aaW:List (Nat×Ø):=[(238,H9),(239,NZ),(240,VE),(241,NX)]
def Gk (ρ:Type):List (Ü ρ):=[]
def P9 (ρ:Type):Env ρ:=Ù aaW (Gk ρ)
def N0:Ø:=⟨[Ä,Í],[Â,tI],fun(x:Val aB)=>vQ x.1 x.2⟩
def Tu:List (Nat×Ø):=[(114,Ek),(137,VG),(147,VJ),(198,xj),(199,zK),(200,ZE)]
def yU (ρ:Type):List (Ü ρ):=[]
def GN (ρ:Type):Env ρ:=Ù Tu (yU ρ)
def ZD:Ø:=⟨[Ä,tI],[Í,tI],fun(x:Val aI)=>Hn x.1 x.2⟩
def aaV:List (Nat×Ø):=[(66,Ś)]
def Gj (ρ:Type):List (Ü ρ):=[]
def P7 (ρ:Type):Env ρ:=Ù aaV (Gj ρ)
def afc:Ø:=⟨[Ä,tI],[Â,tI],fun(x:Val aI)=>Nh x.1 x.2⟩
def adH:List (Nat×Ø):=[(202,ZD),(203,VF)]
def Lc (ρ:Type):List (Ü ρ):=[]
def UC (ρ:Type):Env ρ:=Ù adH (Lc ρ)
def Ia:Ø:=⟨[ae,ae],[ae,ae,tI],fun(x:Val bc)=>tT x.1 x.2⟩
def XM:List (Nat×Ø):=[(199,zK),(204,H8)]
def Cg (ρ:Type):List (Ü ρ):=[]
def Le (ρ:Type):Env ρ:=Ù XM (Cg ρ)
def Kc:Ø:=⟨[ae,ax,(.ptr Í)],[tI],fun(x:Val (.pair ae (.pair ax (.ptr Í))))=>np x.1 x.2.1 x.2.2⟩
def Pg:List (Nat×Ø):=[(50,ja)]
def wu (ρ:Type):List (Ü ρ):=[]
def BB (ρ:Type):Env ρ:=Ù Pg (wu ρ)
def Kb:Ø:=⟨[tI,tI,ax,(.ptr tI),aS,(.ptr tI)],[ÿ],fun(x:Val (.pair tI (.pair tI (.pair ax (.pair (.ptr tI) (.pair aS (.ptr tI)))))))=>nl x.1 x.2.1 x.2.2.1 x.2.2.2.1 x.2.2.2.2.1 x.2.2.2.2.2⟩
def Pf:List (Nat×Ø):=[(51,jM)]
def wq (ρ:Type):List (Ü ρ):=[]
def BA (ρ:Type):Env ρ:=Ù Pf (wq ρ)
def H6:Ø:=⟨[ax,Â,Í],[ŵ,tI],fun(x:Val (.pair ax aW))=>tM x.1 x.2.1 x.2.2⟩
def yi:È:={pin:=0,cs:=[tI,ae,ae,aa,ah,tI,tI,tI,tI,tI,ae,ae,tI,tI,tI,tI,tI,tI,tI,tI,tI,tI,tI,tI,tI,tI,tI,tI,tI,tI,ac,aa,af,ab,aa,tI],vs:=[tI,ah],head:=⟨127,aN 4 (.box 0 0::.box 1 0::.box 2 0::.any::.box 3 0::aN 2 (.con tI::.box 4 0::.any::.con ae::.con ae::aN 2 (.con aa::.any::.box 5 0::aN 65 [.con ah,.con tI,.var tI]))),[bt,br,bn,bt,bt,bH,.rowv ÿ]⟩,exits:=[(.exit 0,⟨127,aN 4 (.box 0 0::.box 1 0::.box 2 0::.any::.box 3 0::aN 2 (.con tI::.box 4 0::.any::.con ae::.con ae::aN 2 (.con aa::.any::.box 5 0::aN 65 [.con ah,.con tI]))),[bt,br,bn,bt,bt,bH,.rowv ÿ]⟩,[ah])]}
def yh (ρ:Type):Ü ρ:=⟨[],76,0,yi,fun(p:Val (tyL yi.cs)) (v:Val Ì) a b=>lp p.1 p.2.2.2.1 p.2.2.2.2.1 p.2.2.2.2.2.1 v.1 v.2 (fun c d=>a (c,d)) (b 0)⟩
def WP:List (Nat×Ø):=[(50,ja),(68,Ţ),(146,N0),(147,VJ),(148,afc),(149,Ia),(150,Kc),(151,Kb)]
def Bz (ρ:Type):List (Ü ρ):=[yh ρ]
def qI (ρ:Type):Env ρ:={Ù WP (Bz ρ) with hint:=JA [(110,150),(113,150),(120,151),(123,151)]}
def t8:Ø:=⟨[ÿ],[ae],fun(x:Val ÿ)=>iH x⟩
def Mg:List (Nat×Ø):=[]
def sN (ρ:Type):List (Ü ρ):=[]
def yl (ρ:Type):Env ρ:=Ù Mg (sN ρ)
def T7:Ø:=⟨[ÿ,tI],[tI],fun(x:Val (.pair ÿ tI))=>tN x.1 x.2⟩
def WR:List (Nat×Ø):=[]
def BC (ρ:Type):List (Ü ρ):=[]
def KD (ρ:Type):Env ρ:=Ù WR (BC ρ)
def ru:Ø:=⟨[ŵ,tI],[Â],fun(x:Val (.pair ŵ tI))=>ŗ x.1 x.2⟩
def IE:List (Nat×Ø):=[(154,T7)]
def qA (ρ:Type):List (Ü ρ):=[]
def wm (ρ:Type):Env ρ:=Ù IE (qA ρ)
def rz:Ø:=⟨[ŵ,ae],[ae],fun(x:Val (.pair ŵ ae))=>jT x.1 x.2⟩
def pn:È:={pin:=0,cs:=[tI,ae,tI,tI,tI,tI,tI,tI,tI,tI,tI,tI],vs:=[tI,ae],head:=⟨48,aN 2 (.box 0 0::aN 2 (.own 1::.any::.con tI::.var tI::aN 7 [.con ae,.con tI,.con tI])),bU⟩,exits:=[(.exit 2,⟨48,aN 2 (.box 0 0::aN 2 (.own 1::.any::.con tI::aN 8 [.con ae,.con tI,.con tI])),bU⟩,[ae])]}
def pm (ρ:Type):Ü ρ:=⟨[],88,2,pn,fun(p:Val (tyL pn.cs)) (v:Val ay) a b=>g9 p.1 p.2.2.2.2.1 p.2.2.2.2.2.1 v.1 v.2 (fun c d=>a (c,d)) (b 0)⟩
def C6:È:={pin:=0,cs:=[ae,tI,tI,tI,tI,tI,tI,tI,tI,tI],vs:=[tI,ae],head:=⟨48,aN 2 (.box 0 0::aN 2 (.own 1::aN 10 [.con ae,.con tI,.var tI])),bU⟩,exits:=[(.exit 0,⟨48,aN 2 (.box 0 0::aN 2 (.own 1::aN 10 [.con ae,.con tI])),bU⟩,[ae])]}
def po (ρ:Type):Ü ρ:=⟨[],88,0,C6,fun(p:Val (.pair ae aZ)) (v:Val ay) a b=>jt p.1 p.2.1 p.2.2.1 p.2.2.2.1 v.1 v.2 (fun c d=>a (c,d)) (b 0)⟩
def IF:List (Nat×Ø):=[]
def qB (ρ:Type):List (Ü ρ):=[pm ρ,po ρ]
def j4 (ρ:Type):Env ρ:=Ù IF (qB ρ)
def xi:Ø:=⟨[ŵ],[tI],fun(x:Val ŵ)=>lC x⟩
def AG:È:={pin:=0,cs:=[ae,tI,tI,tI,tI,tI,tI,tI,tI,tI],vs:=[tI,tI],head:=⟨34,.any::.box 0 0::.any::.var tI::aN 12 [.con ae,.con tI,.var tI],[bn]⟩,exits:=[(.exit 0,⟨34,.any::.box 0 0::.any::.var tI::aN 12 [.con ae,.con tI],[bn]⟩,[tI])]}
def nR (ρ:Type):Ü ρ:=⟨[],77,0,AG,fun(p:Val (.pair ae aZ)) (v:Val Â) a b=>let A:=p.2.2.2.2;iZ p.1 p.2.1 p.2.2.1 p.2.2.2.1 A.1 A.2.1 A.2.2.1 A.2.2.2.1 A.2.2.2.2.1 A.2.2.2.2.2 v.1 v.2 (fun c d=>a (c,d)) (b 0)⟩
def E7:List (Nat×Ø):=[(81,š),(82,t8),(86,ru),(88,rz)]
def pk (ρ:Type):List (Ü ρ):=[nR ρ]
def mf (ρ:Type):Env ρ:=Ù E7 (pk ρ)
def Zy:Ø:=⟨[Ä,Â,Í],[tI,tI],fun(x:Val (.pair Ä aW))=>zf x.1 x.2.1 x.2.2⟩
def BF:È:={pin:=4,cs:=[tI,tI,tI,ac,aa,af,ab,aa,tI,tI,tI,tI,ae,ae,tI,tI,tI,tI,aa],vs:=[tI,tI,tI,ac,aa,af,ab,aa],head:=⟨68,aN 2 (.box 4 0::aN 20 [.own 3,.con tI,.var tI]),cj⟩,exits:=[(.ret,⟨68,aN 2 (.box 4 0::.any::.nilp::.var tI::aN 17 [.own 3,.con tI]),cj⟩,[tI,tI,tI,ac,aa,af,ab,aa]),(.exit 0,⟨68,aN 2 (.box 4 0::aN 20 [.own 3,.con tI]),cj⟩,[tI,tI,ac,aa,af,ab,aa])]}
def BD (ρ:Type):Ü ρ:=⟨[1,3],47,0,BF,fun(p:Val (tyL BF.cs)) (v:Val aC) b a=>yn p.1 p.2.2.2.2.2.2.2.2.2.2.2.2.2.2.2.2.2.2 v.1 v.2.1 v.2.2.1 v.2.2.2.1 v.2.2.2.2.1 v.2.2.2.2.2.1 v.2.2.2.2.2.2.1 v.2.2.2.2.2.2.2 (fun c d e f g h i j=>b (c,d,e,f,g,h,i,j)) (a 0) (a 1)⟩
def aay:List (Nat×Ø):=[(66,Ś),(67,jb),(68,Ţ),(76,H6),(77,xi),(110,oa),(111,Ŗ)]
def FJ (ρ:Type):List (Ü ρ):=[BD ρ]
def Dg (ρ:Type):Env ρ:=Ù aay (FJ ρ)
def Ei:Ø:=⟨[tI],[tI],fun(x:Val tI)=>lE x⟩
def Mj:List (Nat×Ø):=[]
def sV (ρ:Type):List (Ü ρ):=[]
def yp (ρ:Type):Env ρ:=Ù Mj (sV ρ)
def Eh:Ø:=⟨[ÿ,tI],[ae],fun(x:Val (.pair ÿ tI))=>iI x.1 x.2⟩
def Mh:List (Nat×Ø):=[]
def sO (ρ:Type):List (Ü ρ):=[]
def ym (ρ:Type):Env ρ:=Ù Mh (sO ρ)
def NQ:Ø:=⟨[Ä,Â,Â,Í],[.bool,tI],fun(x:Val (.pair Ä (.pair Â aW)))=>pN x.1 x.2.1 x.2.2.1 x.2.2.2⟩
def Ο:È:={pin:=5,cs:=[tI,tI,tI,ac,aa,af,ab,aa,tI,tI,tI,tI,tI,tI,ae,ae,tI,tI,tI,tI,aa],vs:=[tI,tI,tI,ac,aa,af,ab,aa],head:=⟨68,aN 2 (.box 5 0::aN 20 [.own 4,.con tI,.var tI]),cm⟩,exits:=[(.ret,⟨68,aN 2 (.box 5 0::.any::.nilp::.var tI::aN 17 [.own 4,.con tI]),cm⟩,[tI,tI,tI,ac,aa,af,ab,aa]),(.exit 0,⟨68,aN 2 (.box 5 0::aN 20 [.own 4,.con tI]),cm⟩,[tI,tI,ac,aa,af,ab,aa])]}
def nF (ρ:Type):Ü ρ:=⟨[1,3],47,0,Ο,fun(p:Val au) (v:Val aC) b a=>rI p.1 p.2.2.2.2.2.2.2.2.2.2.2.2.2.2.2.2.2.2.2.2 v.1 v.2.1 v.2.2.1 v.2.2.2.1 v.2.2.2.2.1 v.2.2.2.2.2.1 v.2.2.2.2.2.2.1 v.2.2.2.2.2.2.2 (fun c d e f g h i j=>b (c,d,e,f,g,h,i,j)) (a 0) (a 1)⟩
def Ξ:È:={pin:=12,cs:=[ae,tI,tI,tI,ac,aa,af,ab,aa,tI,tI,tI,tI,tI,tI,ae,ae,tI,tI,tI,tI,aa,tI,tI,ac,aa,af,ab,aa,tI,ah,tI,tI,tI,tI,tI,tI,tI,tI,am,am,am],vs:=[tI],head:=⟨19,.con ae::.fn 85 [(8,0),(2,0)]::aN 5 [.con tI,.var tI],cn⟩,exits:=[(.ret,⟨19,[.con ae,.fn 85 [(8,0),(2,0)],.any,.any,.var tI,.any,.any,.con tI],cn⟩,[tI]),(.exit 0,⟨19,.con ae::.fn 85 [(8,0),(2,0)]::aN 5 [.con tI],cn⟩,[])]}
def nE (ρ:Type):Ü ρ:=⟨[18,4,1,2],155,0,Ξ,fun(p:Val ao) (v:Val tI) b a=>let A:=p.2.2.2.2.2.2.2.2.2.2.2;let B:=A.2.2.2.2.2.2.2.2.2.2.2.2.2.2.2.2.2.2.2.2;let C:=B.2.2.2.2;mH p.1 p.2.1 A.1 A.2.1 B.1 B.2.1 B.2.2.1 B.2.2.2.1 C.1 C.2.1 C.2.2.1 C.2.2.2.1 v (fun c=>b c) (a 0) (a 1)⟩
def BH:List (Nat×Ø):=[(57,CC),(66,Ś),(67,jb),(68,Ţ),(76,H6),(81,š),(82,t8),(83,Ei),(84,Eh),(86,ru),(88,rz),(110,oa),(111,Ŗ)]
def pw (ρ:Type):List (Ü ρ):=[nF ρ,nE ρ]
def rH:List akT:=[⟨[],35,0,4⟩]
def đ (ρ:Type):Env ρ:={Ù BH (pw ρ) with hint:=JA [(51,83),(55,83)]}
def uM (ρ:Type):Env ρ:={{amW BH (pw ρ) rH with loops:=aba (đ ρ) rH} with hint:=JA [(51,83),(55,83)]}
def ZA:Ø:=⟨[Ì],[ae,tI],fun(x:Val Ì)=>zk x⟩
def S0:È:={pin:=0,cs:=[tI,tI,ah],vs:=[tI,aP],head:=⟨93,.any::.box 0 0::aN 6 (.own 1::aN 24 [.con tI,.var tI]),[bu,.rowv am]⟩,exits:=[(.exit 0,⟨93,.any::.box 0 0::aN 6 (.own 1::aN 24 [.con tI]),[bu,.rowv am]⟩,[aP])]}
def BV (ρ:Type):Ü ρ:=⟨[],91,0,S0,fun(p:Val aG) (v:Val (.pair tI aP)) a b=>KR p.1 p.2.1 p.2.2 v.1 v.2 (fun c d=>a (c,d)) (b 0)⟩
def BN:È:={pin:=3,cs:=[tI,am,ah,tI,tI,ah,aP,tI,tI,tI,tI,ah],vs:=[tI,tI,tI,ae],head:=⟨73,.any::.var tI::.con tI::.con am::.fn 161 []::.box 3 0::aN 5 (.own 4::.var tI::aN 7 [.con ah,.con tI,.var tI]),cp⟩,exits:=[(.exit 2,⟨73,.any::.var tI::.con tI::.con am::.fn 161 []::.box 3 0::aN 5 (.own 4::.var tI::aN 7 [.con ah,.con tI]),cp⟩,[tI,tI,ae])]}
def BM (ρ:Type):Ü ρ:=⟨[22,10],125,2,BN,fun(p:Val (tyL BN.cs)) (v:Val aJ) a b=>KN p.1 p.2.1 p.2.2.1 p.2.2.2.1 v.1 v.2.1 v.2.2.1 v.2.2.2 (fun c d e f=>a (c,d,e,f)) (b 0)⟩
def BP:È:={pin:=3,cs:=[am,tI,ah,aP,tI,tI,tI,tI,ah],vs:=[tI,tI,tI,ae],head:=⟨73,.any::.var tI::.var tI::.con am::.fn 161 []::.box 3 0::aN 5 [.own 4,.var tI],cp⟩,exits:=[(.exit 0,⟨73,aN 3 (.con am::.fn 161 []::.box 3 0::aN 5 [.own 4]),cp⟩,[ae])]}
def BO (ρ:Type):Ü ρ:=⟨[22,10],125,0,BP,fun(p:Val (tyL BP.cs)) (v:Val aJ) a b=>KO p.1 p.2.2.2.2.2.2.2.2 v.1 v.2.1 v.2.2.1 v.2.2.2 (fun c d e f=>a (c,d,e,f)) (b 0)⟩
def BS:È:={pin:=0,cs:=[tI,ah,tI,tI,ah,aP],vs:=[tI],head:=⟨93,.any::.box 0 0::aN 6 (.own 1::.any::.fn 161 []::.con tI::aN 37 [.con ah,.con tI,.var tI]),[bu,.rowc am]⟩,exits:=[(.exit 2,⟨93,.any::.box 0 0::aN 6 (.own 1::.any::.fn 161 []::.con tI::aN 37 [.con ah,.con tI]),[bu,.rowc am]⟩,[]),(.ret,⟨93,.any::.box 0 0::.own 2::.var tI::aN 4 (.own 1::.any::.fn 161 []::.con tI::aN 37 [.con ah,.con tI]),[bu,.rowc am,.rowv tI]⟩,[tI,ae]),(.exit 4,⟨93,.any::.box 0 0::aN 6 (.own 1::.any::.fn 161 []::.con tI::aN 37 [.con ah,.con tI]),[bu,.rowc am]⟩,[])]}
def BQ (ρ:Type):Ü ρ:=⟨[],91,4,BS,fun(p:Val (tyL BS.cs)) (v:Val tI) b a=>KP p.1 p.2.1 p.2.2.1 p.2.2.2.1 p.2.2.2.2.1 p.2.2.2.2.2 v (fun c=>b c) (a 0) (a 1) (a 2)⟩
def BU:È:={pin:=0,cs:=[tI,ah,aP],vs:=[tI],head:=⟨93,.any::.box 0 0::aN 6 [.own 1,.any,.fn 161 [],.var tI],[bu,.rowc am]⟩,exits:=[(.exit 2,⟨93,.any::.box 0 0::aN 6 [.own 1,.any,.fn 161 []],[bu,.rowc am]⟩,[]),(.ret,⟨93,.any::.box 0 0::.own 2::.var tI::aN 4 [.own 1,.any,.fn 161 []],[bu,.rowc am,.rowv tI]⟩,[tI,ae])]}
def BT (ρ:Type):Ü ρ:=⟨[],91,2,BU,fun(p:Val (tyL BU.cs)) (v:Val tI) b a=>KQ p.1 p.2.1 p.2.2 v (fun c=>b c) (a 0) (a 1)⟩
def aaG:List (Nat×Ø):=[(117,qi),(122,NU),(138,sn)]
def F6 (ρ:Type):List (Ü ρ):=[BV ρ,BM ρ,BO ρ,BQ ρ,BT ρ]
def kj (ρ:Type):Env ρ:=Ù aaG (F6 ρ)
def Zz:Ø:=⟨[Ä],[υ,tI],fun(x:Val Ä)=>Hk x⟩
def aaB:List (Nat×Ø):=[(62,pb),(63,CD),(68,Ţ),(91,ZA)]
def FU (ρ:Type):List (Ü ρ):=[]
def Pu (ρ:Type):Env ρ:=Ù aaB (FU ρ)
def Ka:Ø:=⟨[],[Ä],fun(_:Unit)=>zc⟩
def Ob:List (Nat×Ø):=[]
def wh (ρ:Type):List (Ü ρ):=[]
def A5 (ρ:Type):Env ρ:=Ù Ob (wh ρ)
def ae7:Ø:=⟨[ae,tI],[.bool],fun(x:Val aE)=>Nf x.1 x.2⟩
def ade:List (Nat×Ø):=[(149,Ia)]
def KB (ρ:Type):List (Ü ρ):=[]
def Uq (ρ:Type):Env ρ:=Ù ade (KB ρ)
def Zx:Ø:=⟨[tI],[.bool],fun(x:Val tI)=>Hj x⟩
def aaq:List (Nat×Ø):=[]
def FG (ρ:Type):List (Ü ρ):=[]
def Ph (ρ:Type):Env ρ:=Ù aaq (FG ρ)
def Zw:Ø:=⟨[tI,am],[aa],fun(x:Val aO)=>Hg x.1 x.2⟩
def SH:È:={pin:=0,cs:=[tI,ae,tI],vs:=[tI,aa],head:=⟨23,.con tI::aN 4 [.own 0,.any,.any,.any,.con ae,.con tI,.var tI],[.rowv Â]⟩,exits:=[(.exit 0,⟨23,.con tI::aN 4 [.own 0,.any,.any,.any,.con ae,.con tI],[.rowv Â]⟩,[aa])]}
def By (ρ:Type):Ü ρ:=⟨[],108,0,SH,fun(p:Val (.pair tI aE)) (v:Val aF) a b=>qH p.1 p.2.1 p.2.2 v.1 v.2 (fun c d=>a (c,d)) (b 0)⟩
def aap:List (Nat×Ø):=[(81,š)]
def FF (ρ:Type):List (Ü ρ):=[By ρ]
def Dc (ρ:Type):Env ρ:=Ù aap (FF ρ)
def ae9:Ø:=⟨[Ä,tI,ae],[Â,tI],fun(x:Val (.pair Ä ay))=>Ng x.1 x.2.1 x.2.2⟩
def FR:È:={pin:=3,cs:=[aa,tI,tI,tI,ac,aa,af,ab,aa,tI,tI,am],vs:=[tI,tI,tI,ac,aa,af,ab,aa],head:=⟨68,aN 2 (.box 3 0::aN 20 [.con aa,.con tI,.var tI]),[bm,bt,.rowf ae 0,bD]⟩,exits:=[(.ret,⟨68,aN 2 (.box 3 0::.any::.nilp::.var tI::aN 17 [.con aa,.con tI]),[bm,bt,.rowf ae 0,bD]⟩,[tI,tI,tI,ac,aa,af,ab,aa]),(.exit 0,⟨68,aN 2 (.box 3 0::aN 20 [.con aa,.con tI]),[bm,bt,.rowf ae 0,bD]⟩,[tI,tI,ac,aa,af,ab,aa])]}
def FQ (ρ:Type):Ü ρ:=⟨[7,2],47,0,FR,fun(p:Val (tyL FR.cs)) (v:Val aC) b a=>uP p.1 p.2.1 v.1 v.2.1 v.2.2.1 v.2.2.2.1 v.2.2.2.2.1 v.2.2.2.2.2.1 v.2.2.2.2.2.2.1 v.2.2.2.2.2.2.2 (fun c d e f g h i j=>b (c,d,e,f,g,h,i,j)) (a 0) (a 1)⟩
def FP:È:={pin:=0,cs:=[ax,aa,tI,tI,tI],vs:=[tI,tI,tI],head:=⟨87,aN 6 (.box 0 0::aN 3 (.con ax::aN 2 (.box 1 0::aN 51 [.con aa,.con tI,.var tI]))),[bt,.cells [.var tI,.var tI]]⟩,exits:=[(.exit 0,⟨87,aN 6 (.box 0 0::aN 3 (.con ax::aN 2 (.box 1 0::aN 51 [.con aa,.con tI]))),[bt,.cells [.var tI,.var tI]]⟩,[tI,tI])]}
def FO (ρ:Type):Ü ρ:=⟨[],45,0,FP,fun(p:Val (tyL FP.cs)) (v:Val ÿ) a b=>uO p.1 p.2.1 p.2.2.1 v.1 v.2.1 v.2.2 (fun c d e=>a (c,d,e)) (b 0)⟩
def adj:List (Nat×Ø):=[(48,gY),(66,Ś),(67,jb),(68,Ţ),(106,ae7),(107,Zx),(108,Zw),(110,oa),(111,Ŗ)]
def KK (ρ:Type):List (Ü ρ):=[FQ ρ,FO ρ]
def zQ (ρ:Type):Env ρ:=Ù adj (KK ρ)
def A2:Ø:=⟨[Ì,ae],[tI],fun(x:Val aU)=>mL x.1 x.2⟩
def Jb:List (Nat×Ø):=[(138,sn),(140,CE),(141,VC)]
def qS (ρ:Type):List (Ü ρ):=[]
def wJ (ρ:Type):Env ρ:=Ù Jb (qS ρ)
def A1:Ø:=⟨[υ],[tI],fun(x:Val υ)=>mK x⟩
def IY:List (Nat×Ø):=[(66,Ś),(68,Ţ),(92,A2)]
def qO (ρ:Type):List (Ü ρ):=[]
def wy (ρ:Type):Env ρ:=Ù IY (qO ρ)
def iN:Ø:=⟨[ac,Ñ],[tI],fun(x:Val (.pair ac Ñ))=>ū x.1 x.2⟩
def kJ:È:={pin:=0,cs:=[ac,tI,tI,tI,tI,tI,tI,tI,tI,tI],vs:=[tI],head:=⟨19,[.con ac,.any,.any,.box 0 0,.any,.any,.any,.con tI,.var tI],[bn]⟩,exits:=[(.ret,⟨19,[.con ac,.any,.any,.box 0 0,.var tI,.any,.any,.con tI],[bn]⟩,[tI]),(.exit 0,⟨19,[.con ac,.any,.any,.box 0 0,.any,.any,.any,.con tI],[bn]⟩,[])]}
def Η (ρ:Type):Ü ρ:=⟨[],248,0,kJ,fun(p:Val (.pair ac aZ)) (v:Val tI) b a=>let A:=p.2.2.2.2;ă p.1 p.2.1 p.2.2.1 p.2.2.2.1 A.1 A.2.1 A.2.2.1 A.2.2.2.1 A.2.2.2.2.1 A.2.2.2.2.2 v (fun c=>b c) (a 0) (a 1)⟩
def lP:List (Nat×Ø):=[]
def Ψ (ρ:Type):List (Ü ρ):=[Η ρ]
def Ő (ρ:Type):Env ρ:=Ù lP (Ψ ρ)
def ω:Ø:=⟨[ac,Ñ],[.bool],fun(x:Val (.pair ac Ñ))=>Ġ x.1 x.2⟩
def kf:List (Nat×Ø):=[(248,iN)]
def Ų (ρ:Type):List (Ü ρ):=[]
def Ι (ρ:Type):Env ρ:=Ù kf (Ų ρ)
def jL:Ø:=⟨[aa,Â],[tI],fun(x:Val aX)=>ο x.1 x.2⟩
def mR:È:={pin:=0,cs:=[aa,tI,tI,tI],vs:=[tI],head:=⟨19,[.con aa,.any,.any,.box 0 0,.any,.any,.any,.con tI,.var tI],[bt]⟩,exits:=[(.ret,⟨19,[.con aa,.any,.any,.box 0 0,.var tI,.any,.any,.con tI],[bt]⟩,[tI]),(.exit 0,⟨19,[.con aa,.any,.any,.box 0 0,.any,.any,.any,.con tI],[bt]⟩,[])]}
def ik (ρ:Type):Ü ρ:=⟨[],250,0,mR,fun(p:Val (.pair aa ÿ)) (v:Val tI) b a=>ė p.1 p.2.1 p.2.2.1 p.2.2.2 v (fun c=>b c) (a 0) (a 1)⟩
def oc:List (Nat×Ø):=[]
def iO (ρ:Type):List (Ü ρ):=[ik ρ]
def Ź (ρ:Type):Env ρ:=Ù oc (iO ρ)
def iW:Ø:=⟨[aa,Â],[.bool],fun(x:Val aX)=>ę x.1 x.2⟩
def me:List (Nat×Ø):=[(250,jL)]
def gS (ρ:Type):List (Ü ρ):=[]
def il (ρ:Type):Env ρ:=Ù me (gS ρ)
def i9:Ø:=⟨[af,ō],[tI],fun(x:Val (.pair af ō))=>Ž x.1 x.2⟩
def lO:È:={pin:=0,cs:=[af,tI,tI,tI,tI,tI],vs:=[tI],head:=⟨19,[.con af,.any,.any,.box 0 0,.any,.any,.any,.con tI,.var tI],[bo]⟩,exits:=[(.ret,⟨19,[.con af,.any,.any,.box 0 0,.var tI,.any,.any,.con tI],[bo]⟩,[tI]),(.exit 0,⟨19,[.con af,.any,.any,.box 0 0,.any,.any,.any,.con tI],[bo]⟩,[])]}
def gR (ρ:Type):Ü ρ:=⟨[],252,0,lO,fun(p:Val (.pair af bh)) (v:Val tI) b a=>ċ p.1 p.2.1 p.2.2.1 p.2.2.2.1 p.2.2.2.2.1 p.2.2.2.2.2 v (fun c=>b c) (a 0) (a 1)⟩
def mT:List (Nat×Ø):=[]
def g8 (ρ:Type):List (Ü ρ):=[gR ρ]
def Ũ (ρ:Type):Env ρ:=Ù mT (g8 ρ)
def ij:Ø:=⟨[af,ō],[.bool],fun(x:Val (.pair af ō))=>Č x.1 x.2⟩
def kT:List (Nat×Ø):=[(252,i9)]
def Θ (ρ:Type):List (Ü ρ):=[]
def gT (ρ:Type):Env ρ:=Ù kT (Θ ρ)
def ae8:Ø:=⟨[Ä,Ä],[.bool],fun(x:Val (.pair Ä Ä))=>Hf x.1 x.2⟩
def FE:È:={pin:=0,cs:=[ac,tI,tI,tI,ac,aa,af,ab,aa,tI,tI,ac,aa,af,ab,aa],vs:=[tI,ak],head:=⟨87,aN 2 (.box 0 0::.box 1 0::.any::.box 2 0::aN 10 [.con ac,.con tI,.var tI]),[bm,bm,bJ,.mapv tI .bool]⟩,exits:=[(.exit 0,⟨87,aN 2 (.box 0 0::.box 1 0::.any::.box 2 0::aN 10 [.con ac,.con tI]),[bm,bm,bJ,.mapv tI .bool]⟩,[ak])]}
def FD (ρ:Type):Ü ρ:=⟨[],109,0,FE,fun(p:Val (tyL FE.cs)) (v:Val (.pair tI ak)) a b=>uH p.1 p.2.1 v.1 v.2 (fun c d=>a (c,d)) (b 0)⟩
def Fy:È:={pin:=6,cs:=[ae,ae,tI,tI,tI,ac,aa,af,ab,aa,tI,tI,ac,aa,af,ab,aa,ak,tI,tI,ae,ae,tI,tI,tI,tI,tI,tI,ae,ae,tI,tI,tI,tI],vs:=[tI],head:=⟨26,.con ae::.con ae::aN 10 [.con tI,.var tI],cq⟩,exits:=[(.ret,⟨26,.con ae::.con ae::aN 2 (.var .bool::aN 7 [.con tI]),cq⟩,[.bool]),(.exit 0,⟨26,.con ae::.con ae::aN 10 [.con tI],cq⟩,[])]}
def Fx (ρ:Type):Ü ρ:=⟨[14,3,1,2,4,5,1,38],176,0,Fy,fun(p:Val (tyL Fy.cs)) (v:Val tI) b a=>mj p.1 p.2.1 p.2.2.1 v (fun c=>b c) (a 0) (a 1)⟩
def Fw:È:={pin:=6,cs:=[ae,ae,tI,tI,tI,ac,aa,af,ab,aa,tI,tI,ac,aa,af,ab,aa,ak,tI,tI,ae,ae,tI,tI,tI,tI,tI,tI,ae,ae,tI,tI,tI,tI],vs:=[tI],head:=⟨26,.con ae::.con ae::aN 10 [.con tI,.var tI],cq⟩,exits:=[(.ret,⟨26,.con ae::.con ae::aN 2 (.var .bool::aN 7 [.con tI]),cq⟩,[.bool]),(.exit 0,⟨26,.con ae::.con ae::aN 10 [.con tI],cq⟩,[])]}
def Fv (ρ:Type):Ü ρ:=⟨[14,3,1,2,4,5,1,45],176,0,Fw,fun(p:Val (tyL Fw.cs)) (v:Val tI) b a=>uG p.1 p.2.1 p.2.2.1 v (fun c=>b c) (a 0) (a 1)⟩
def FA:È:={pin:=5,cs:=[ab,tI,tI,tI,ac,aa,af,ab,aa,tI,tI,ac,aa,af,ab,aa,ak,tI,tI,ae,ae,tI,tI,tI,tI],vs:=[tI],head:=⟨19,.con ab::.fn 175 [(4,0)]::aN 5 [.con tI,.var tI],cr⟩,exits:=[(.ret,⟨19,[.con ab,.fn 175 [(4,0)],.any,.any,.var tI,.any,.any,.con tI],cr⟩,[tI]),(.exit 0,⟨19,.con ab::.fn 175 [(4,0)]::aN 5 [.con tI],cr⟩,[])]}
def Fz (ρ:Type):Ü ρ:=⟨[14,3,1,2],213,0,FA,fun(p:Val (tyL FA.cs)) (v:Val tI) b a=>let A:=p.2.2.2.2.2.2.2.2.2.2.2.2.2.2.2.2.2;let B:=A.2.2.2.2;pr p.1 p.2.1 A.1 A.2.1 A.2.2.1 A.2.2.2.1 B.1 B.2.1 B.2.2.1 B.2.2.2 v (fun c=>b c) (a 0) (a 1)⟩
def FC:È:={pin:=0,cs:=[ab,tI,tI,tI,ac,aa,af,ab,aa,tI,tI,ac,aa,af,ab,aa,ak],vs:=[tI],head:=⟨87,aN 2 (.box 0 0::.box 1 0::aN 4 (.fn 172 []::.fn 173 [(2,0)]::.fn 174 [(2,0)]::aN 18 [.con ab,.con tI,.var tI])),cu⟩,exits:=[(.ret,⟨87,aN 2 (.box 0 0::.box 1 0::.var .bool::aN 3 (.fn 172 []::.fn 173 [(2,0)]::.fn 174 [(2,0)]::aN 18 [.con ab,.con tI])),cu⟩,[.bool]),(.exit 2,⟨87,aN 2 (.box 0 0::.box 1 0::aN 4 (.fn 172 []::.fn 173 [(2,0)]::.fn 174 [(2,0)]::aN 18 [.con ab,.con tI])),cu⟩,[])]}
def FB (ρ:Type):Ü ρ:=⟨[],109,2,FC,fun(p:Val (tyL FC.cs)) (v:Val tI) b a=>pu p.1 p.2.1 p.2.2.2.2.2.2.2.2.2.2.2.2.2.2.1 v (fun c=>b c) (a 0) (a 1)⟩
def Fu:È:={pin:=6,cs:=[ac,tI,tI,tI,ac,aa,af,ab,aa,tI,tI,ac,aa,af,ab,aa,ak,ac],vs:=[tI],head:=⟨19,.con ac::.fn 215 [(5,0),(4,0)]::aN 5 [.con tI,.var tI],cw⟩,exits:=[(.ret,⟨19,[.con ac,.fn 215 [(5,0),(4,0)],.any,.any,.var tI,.any,.any,.con tI],cw⟩,[tI]),(.exit 0,⟨19,.con ac::.fn 215 [(5,0),(4,0)]::aN 5 [.con tI],cw⟩,[])]}
def Ft (ρ:Type):Ü ρ:=⟨[17,11,1,2,1,2],247,0,Fu,fun(p:Val (tyL Fu.cs)) (v:Val tI) b a=>pq p.1 p.2.1 p.2.2.2.2.2.2.2.2.2.2.2.2.2.2.2.2.2 v (fun c=>b c) (a 0) (a 1)⟩
def Fs:È:={pin:=8,cs:=[aa,tI,tI,tI,ac,aa,af,ab,aa,tI,tI,ac,aa,af,ab,aa,ak,ac,aa],vs:=[tI],head:=⟨19,.con aa::.fn 218 [(7,0),(6,0)]::aN 5 [.con tI,.var tI],cz⟩,exits:=[(.ret,⟨19,[.con aa,.fn 218 [(7,0),(6,0)],.any,.any,.var tI,.any,.any,.con tI],cz⟩,[tI]),(.exit 0,⟨19,.con aa::.fn 218 [(7,0),(6,0)]::aN 5 [.con tI],cz⟩,[])]}
def Fr (ρ:Type):Ü ρ:=⟨[17,19,1,2,1,2],249,0,Fs,fun(p:Val (tyL Fs.cs)) (v:Val tI) b a=>ki p.1 p.2.1 p.2.2.2.2.2.2.2.2.2.2.2.2.2.2.2.2.1 p.2.2.2.2.2.2.2.2.2.2.2.2.2.2.2.2.2.2 v (fun c=>b c) (a 0) (a 1)⟩
def Fq:È:={pin:=10,cs:=[aa,tI,tI,tI,ac,aa,af,ab,aa,tI,tI,ac,aa,af,ab,aa,ak,ac,aa,aa],vs:=[tI],head:=⟨19,.con aa::.fn 218 [(9,0),(8,0)]::aN 5 [.con tI,.var tI],cA⟩,exits:=[(.ret,⟨19,[.con aa,.fn 218 [(9,0),(8,0)],.any,.any,.var tI,.any,.any,.con tI],cA⟩,[tI]),(.exit 0,⟨19,.con aa::.fn 218 [(9,0),(8,0)]::aN 5 [.con tI],cA⟩,[])]}
def Fp (ρ:Type):Ü ρ:=⟨[17,27,1,2,1,2],249,0,Fq,fun(p:Val (tyL Fq.cs)) (v:Val tI) b a=>mi p.1 p.2.1 p.2.2.2.2.2.2.2.2.2.2.2.2.2.2.2.2.1 p.2.2.2.2.2.2.2.2.2.2.2.2.2.2.2.2.2.2.2 v (fun c=>b c) (a 0) (a 1)⟩
def Fo:È:={pin:=12,cs:=[af,tI,tI,tI,ac,aa,af,ab,aa,tI,tI,ac,aa,af,ab,aa,ak,ac,aa,aa,af],vs:=[tI],head:=⟨19,.con af::.fn 221 [(11,0),(10,0)]::aN 5 [.con tI,.var tI],cB⟩,exits:=[(.ret,⟨19,[.con af,.fn 221 [(11,0),(10,0)],.any,.any,.var tI,.any,.any,.con tI],cB⟩,[tI]),(.exit 0,⟨19,.con af::.fn 221 [(11,0),(10,0)]::aN 5 [.con tI],cB⟩,[])]}
def Fm (ρ:Type):Ü ρ:=⟨[17,35,1,2,1,2],251,0,Fo,fun(p:Val (tyL Fo.cs)) (v:Val tI) b a=>Ń p.1 p.2.1 p.2.2.2.2.2.2.2.2.2.2.2.2.2.2.2.2.1 p.2.2.2.2.2.2.2.2.2.2.2.2.2.2.2.2.2.2.2.2 v (fun c=>b c) (a 0) (a 1)⟩
def Fl:È:={pin:=14,cs:=[af,tI,tI,tI,ac,aa,af,ab,aa,tI,tI,ac,aa,af,ab,aa,ak,ac,aa,aa,af,af],vs:=[tI],head:=⟨19,.con af::.fn 221 [(13,0),(12,0)]::aN 5 [.con tI,.var tI],cD⟩,exits:=[(.ret,⟨19,[.con af,.fn 221 [(13,0),(12,0)],.any,.any,.var tI,.any,.any,.con tI],cD⟩,[tI]),(.exit 0,⟨19,.con af::.fn 221 [(13,0),(12,0)]::aN 5 [.con tI],cD⟩,[])]}
def Fk (ρ:Type):Ü ρ:=⟨[17,43,1,2,1,2],251,0,Fl,fun(p:Val (tyL Fl.cs)) (v:Val tI) b a=>ĕ p.1 p.2.1 p.2.2.2.2.2.2.2.2.2.2.2.2.2.2.2.2.1 p.2.2.2.2.2.2.2.2.2.2.2.2.2.2.2.2.2.2.2.2.2 v (fun c=>b c) (a 0) (a 1)⟩
def adf:List (Nat×Ø):=[(216,ω),(219,iW),(222,ij)]
def KC (ρ:Type):List (Ü ρ):=[FD ρ,Fx ρ,Fv ρ,Fz ρ,FB ρ,Ft ρ,Fr ρ,Fp ρ,Fm ρ,Fk ρ]
def Ν (ρ:Type):Env ρ:=Ù adf (KC ρ)
def T8:Ø:=⟨[Ä,υ],[.bool,tI],fun(x:Val (.pair Ä υ))=>Ak x.1 x.2⟩
def WZ:List (Nat×Ø):=[(25,ud),(39,A1),(66,Ś),(109,ae8)]
def BG (ρ:Type):List (Ü ρ):=[]
def KJ (ρ:Type):Env ρ:=Ù WZ (BG ρ)
def NI:Ø:=⟨[],[.bool],fun(_:Unit)=>ā⟩
def RF:List (Nat×Ø):=[(12,Kd),(14,NT),(21,NR),(24,NS),(25,ud),(31,Zy),(35,NQ),(38,Zz),(44,Ka),(45,ae9),(46,T8)]
def xp (ρ:Type):List (Ü ρ):=[]
def EB (ρ:Type):Env ρ:=Ù RF (xp ρ)
def mN:Ø:=⟨[Â,tI,tI],[.bool],fun(x:Val ä)=>jj x.1 x.2.1 x.2.2⟩
def Oh:List (Nat×Ø):=[]
def wi (ρ:Type):List (Ü ρ):=[]
def Ba (ρ:Type):Env ρ:=Ù Oh (wi ρ)
def H4:Ø:=⟨[tI,tI,tI],[.bool],fun(x:Val ÿ)=>lz x.1 x.2.1 x.2.2⟩
def agC:List (Nat×Ø):=[]
def OM (ρ:Type):List (Ü ρ):=[]
def Z9 (ρ:Type):Env ρ:=Ù agC (OM ρ)
def Ef:Ø:=⟨[tI],[.bool],fun(x:Val tI)=>vH x⟩
def ac4:List (Nat×Ø):=[(164,H4)]
def Kr (ρ:Type):List (Ü ρ):=[]
def Uk (ρ:Type):Env ρ:=Ù ac4 (Kr ρ)
def VA:Ø:=⟨[tI,tI],[tI],fun(x:Val Â)=>Ai x.1 x.2⟩
def WF:È:={pin:=0,cs:=[],vs:=[tI,tI],head:=⟨14,[.var tI,.var tI],[]⟩,exits:=[(.exit 0,⟨14,[.var tI],[]⟩,[tI])]}
def E5 (ρ:Type):Ü ρ:=⟨[],209,0,WF,fun(p:Unit) (v:Val Â) a b=>uD v.1 v.2 (fun c d=>a (c,d)) (b 0)⟩
def ada:List (Nat×Ø):=[]
def Kx (ρ:Type):List (Ü ρ):=[E5 ρ]
def IB (ρ:Type):Env ρ:=Ù ada (Kx ρ)
def VB:Ø:=⟨[tI],[tI],fun(x:Val tI)=>He x⟩
def adc:List (Nat×Ø):=[]
def KA (ρ:Type):List (Ü ρ):=[]
def Up (ρ:Type):Env ρ:=Ù adc (KA ρ)
def T4:Ø:=⟨[Â],[.bool],fun(x:Val Â)=>Ag x⟩
def WA:List (Nat×Ø):=[(209,VA),(210,VB)]
def Bv (ρ:Type):List (Ü ρ):=[]
def Ks (ρ:Type):Env ρ:=Ù WA (Bv ρ)
def T1:Ø:=⟨[Ñ],[.bool],fun(x:Val Ñ)=>Ae x⟩
def V8:List (Nat×Ø):=[(94,mN),(100,Ef),(163,T4),(164,H4)]
def Bf (ρ:Type):List (Ü ρ):=[]
def Kl (ρ:Type):Env ρ:=Ù V8 (Bf ρ)
def xh:Ø:=⟨[Ä,tI],[tI],fun(x:Val aI)=>pJ x.1 x.2⟩
def Sg:È:={pin:=0,cs:=[tI,tI,tI,ac,aa,af,ab,aa],vs:=[tI],head:=⟨22,[.any,.con tI,.box 0 0,.any,.any,.var tI],[bm]⟩,exits:=[(.ret,⟨22,[.any,.con tI,.box 0 0,.any,.var tI],[bm]⟩,[tI]),(.exit 0,⟨22,[.any,.con tI,.box 0 0],[bm]⟩,[])]}
def Br (ρ:Type):Ü ρ:=⟨[],166,0,Sg,fun(p:Val aC) (v:Val tI) b a=>qz p.1 p.2.2.2.1 v (fun c=>b c) (a 0) (a 1)⟩
def aab:List (Nat×Ø):=[]
def EX (ρ:Type):List (Ü ρ):=[Br ρ]
def C2 (ρ:Type):Env ρ:=Ù aab (EX ρ)
def sl:Ø:=⟨[Ä,tI,tI],[tI],fun(x:Val aD)=>mq x.1 x.2.1 x.2.2⟩
def Wg:List (Nat×Ø):=[(166,xh)]
def Bj (ρ:Type):List (Ü ρ):=[]
def Kn (ρ:Type):Env ρ:=Ù Wg (Bj ρ)
def Zm:Ø:=⟨[Ä],[tI],fun(x:Val Ä)=>G8 x⟩
def RK:È:={pin:=0,cs:=[tI,tI,ac,aa,af,ab,aa],vs:=[tI],head:=⟨37,[.any,.box 0 0,.any,.var tI],[bm]⟩,exits:=[(.ret,⟨37,[.any,.box 0 0,.var tI],[bm]⟩,[tI]),(.exit 0,⟨37,[.any,.box 0 0],[bm]⟩,[])]}
def A9 (ρ:Type):Ü ρ:=⟨[],96,0,RK,fun(p:Val ai) (v:Val tI) b a=>let A:=p.2.2.2.2;qo p.1 p.2.1 p.2.2.1 p.2.2.2.1 A.1 A.2.1 A.2.2 v (fun c=>b c) (a 0) (a 1)⟩
def ZY:List (Nat×Ø):=[(100,Ef),(101,sl)]
def EF (ρ:Type):List (Ü ρ):=[A9 ρ]
def CQ (ρ:Type):Env ρ:=Ù ZY (EF ρ)
def TZ:Ø:=⟨[Ä],[tI],fun(x:Val Ä)=>Ad x⟩
def Oj:È:={pin:=0,cs:=[tI,tI,tI,ac,aa,af,ab,aa,tI,tI,tI,tI],vs:=[tI],head:=⟨111,[.any,.box 0 0,.any,.con tI,.box 1 0,.any,.var tI],bV⟩,exits:=[(.ret,⟨111,[.any,.box 0 0,.var tI,.con tI,.box 1 0],bV⟩,[tI]),(.exit 2,⟨111,[.any,.box 0 0,.any,.con tI,.box 1 0],bV⟩,[])]}
def xx (ρ:Type):Ü ρ:=⟨[],97,2,Oj,fun(p:Val (.pair tI aw)) (v:Val tI) b a=>let A:=p.2.2.2.2.2;od p.1 A.1 A.2.2.2.1 A.2.2.2.2.1 A.2.2.2.2.2.1 v (fun c=>b c) (a 0) (a 1)⟩
def Oi:È:={pin:=0,cs:=[tI,tI,tI,ac,aa,af,ab,aa,tI,tI,tI,tI],vs:=[tI],head:=⟨111,[.any,.box 0 0,.any,.con tI,.box 1 0,.any,.any,.var tI],bV⟩,exits:=[(.ret,⟨111,[.any,.box 0 0,.var tI,.con tI,.box 1 0],bV⟩,[tI]),(.exit 4,⟨111,[.any,.box 0 0,.any,.con tI,.box 1 0],bV⟩,[])]}
def xw (ρ:Type):Ü ρ:=⟨[],97,4,Oi,fun(p:Val (.pair tI aw)) (v:Val tI) b a=>let A:=p.2.2.2.2;let B:=A.2.2.2.2;kY A.1 B.1 B.2.1 B.2.2.1 v (fun c=>b c) (a 0) (a 1)⟩
def Ol:È:={pin:=0,cs:=[tI,tI,ac,aa,af,ab,aa],vs:=[tI],head:=⟨111,[.any,.box 0 0,.any,.var tI],[bm]⟩,exits:=[(.ret,⟨111,[.any,.box 0 0,.var tI],[bm]⟩,[tI]),(.exit 0,⟨111,[.any,.box 0 0],[bm]⟩,[])]}
def xy (ρ:Type):Ü ρ:=⟨[],97,0,Ol,fun(p:Val ai) (v:Val tI) b a=>let A:=p.2.2.2.2;oe p.1 p.2.1 p.2.2.1 p.2.2.2.1 A.1 A.2.1 A.2.2 v (fun c=>b c) (a 0) (a 1)⟩
def V6:List (Nat×Ø):=[(94,mN),(101,sl),(164,H4)]
def Bc (ρ:Type):List (Ü ρ):=[xx ρ,xw ρ,xy ρ]
def mW (ρ:Type):Env ρ:=Ù V6 (Bc ρ)
def Zq:Ø:=⟨[ae],[.bool],fun(x:Val ae)=>zd x⟩
def RY:È:={pin:=0,cs:=[ae],vs:=[tI],head:=⟨35,[.con ae,.any,.any,.var tI],[]⟩,exits:=[(.ret,⟨35,[.con ae,.any,.var .bool],[]⟩,[.bool]),(.exit 0,⟨35,[.con ae],[]⟩,[])]}
def Bk (ρ:Type):Ü ρ:=⟨[],165,0,RY,fun(p:Val ae) (v:Val tI) b a=>qv p v (fun c=>b c) (a 0) (a 1)⟩
def Z4:List (Nat×Ø):=[(164,H4)]
def EQ (ρ:Type):List (Ü ρ):=[Bk ρ]
def CX (ρ:Type):Env ρ:=Ù Z4 (EQ ρ)
def TY:Ø:=⟨[Í],[.bool],fun(x:Val Í)=>Ac x⟩
def V4:List (Nat×Ø):=[(94,mN),(100,Ef),(164,H4),(165,Zq)]
def Bb (ρ:Type):List (Ü ρ):=[]
def Ki (ρ:Type):Env ρ:=Ù V4 (Bb ρ)
def NK:Ø:=⟨[Ä,tI,tI],[ō,.bool],fun(x:Val aD)=>ze x.1 x.2.1 x.2.2⟩
def R0:È:={pin:=0,cs:=[tI,tI,tI,tI,ac,aa,af,ab,aa],vs:=[tI,tI,tI,tI,tI],head:=⟨42,[.any,.con tI,.con tI,.box 0 0,.any,.any,.box 1 0,.any,.var tI],[bm,bQ]⟩,exits:=[(.ret,⟨42,[.any,.con tI,.con tI,.box 0 0,.any,.any,.box 1 0,.var .bool],[bm,bQ]⟩,[.bool,tI,tI,tI,tI]),(.exit 0,⟨42,[.any,.con tI,.con tI,.box 0 0,.any,.any,.box 1 0],[bm,bQ]⟩,[tI,tI,tI,tI])]}
def Bo (ρ:Type):Ü ρ:=⟨[],167,0,R0,fun(p:Val (.pair tI aC)) (v:Val bh) b a=>qx p.1 p.2.1 p.2.2.2.2.2.2.1 v.1 v.2.1 v.2.2.1 v.2.2.2.1 v.2.2.2.2 (fun c d e f g=>b (c,d,e,f,g)) (a 0) (a 1)⟩
def Z7:List (Nat×Ø):=[]
def ET (ρ:Type):List (Ü ρ):=[Bo ρ]
def CZ (ρ:Type):Env ρ:=Ù Z7 (ET ρ)
def ae2:Ø:=⟨[ae,tI],[.bool],fun(x:Val aE)=>Nb x.1 x.2⟩
def Wr:È:={pin:=0,cs:=[ae,tI],vs:=[tI],head:=⟨18,[.con ae,.con tI,.any,.any,.any,.var tI],[]⟩,exits:=[(.ret,⟨18,[.con ae,.con tI,.any,.any,.var .bool],[]⟩,[.bool]),(.exit 0,⟨18,[.con ae,.con tI],[]⟩,[])]}
def EV (ρ:Type):Ü ρ:=⟨[],211,0,Wr,fun(p:Val aE) (v:Val tI) b a=>uB p.1 p.2 v (fun c=>b c) (a 0) (a 1)⟩
def ac3:List (Nat×Ø):=[]
def Ko (ρ:Type):List (Ü ρ):=[EV ρ]
def Iu (ρ:Type):Env ρ:=Ù ac3 (Ko ρ)
def NL:Ø:=⟨[ae,ae],[ae],fun(x:Val bc)=>jS x.1 x.2⟩
def Sb:È:={pin:=0,cs:=[ae,ae],vs:=[tI,ae],head:=⟨28,[.con ae,.con ae,.any,.any,.any,.own 0,.var tI],[.rowv tI]⟩,exits:=[(.exit 0,⟨28,[.con ae,.con ae,.any,.any,.any,.own 0],[.rowv tI]⟩,[ae])]}
def Bp (ρ:Type):Ü ρ:=⟨[],168,0,Sb,fun(p:Val bc) (v:Val ay) a b=>qy p.1 p.2 v.1 v.2 (fun c d=>a (c,d)) (b 0)⟩
def Z8:List (Nat×Ø):=[(211,ae2)]
def EU (ρ:Type):List (Ü ρ):=[Bp ρ]
def C0 (ρ:Type):Env ρ:=Ù Z8 (EU ρ)
def Ee:Ø:=⟨[Ä,Í],[tI],fun(x:Val aB)=>jz x.1 x.2⟩
def EI:È:={pin:=0,cs:=[tI,tI,ac,aa,af,ab,aa,tI,tI,ae,ae,tI,tI,tI,tI,ae],vs:=[tI],head:=⟨90,[.any,.any,.box 0 0,.box 1 0,.any,.own 2,.var tI],bW⟩,exits:=[(.ret,⟨90,[.any,.any,.box 0 0,.box 1 0,.var tI,.own 2],bW⟩,[tI]),(.exit 0,⟨90,[.any,.any,.box 0 0,.box 1 0,.any,.own 2],bW⟩,[])]}
def qr (ρ:Type):Ü ρ:=⟨[],99,0,EI,fun(p:Val ar) (v:Val tI) b a=>let A:=p.2.2.2.2;j3 p.1 p.2.1 p.2.2.1 p.2.2.2.1 A.1 A.2.1 A.2.2.1 A.2.2.2.2.2.2.2.2.2.2.2 v (fun c=>b c) (a 0) (a 1)⟩
def EH:È:={pin:=0,cs:=[tI,tI,ac,aa,af,ab,aa,tI,tI,ae,ae,tI,tI,tI,tI,ae],vs:=[tI],head:=⟨90,[.any,.any,.box 0 0,.box 1 0,.any,.own 2,.any,.var tI],bW⟩,exits:=[(.ret,⟨90,[.any,.any,.box 0 0,.box 1 0,.var tI,.own 2],bW⟩,[tI]),(.exit 2,⟨90,[.any,.any,.box 0 0,.box 1 0,.any,.own 2],bW⟩,[])]}
def qq (ρ:Type):Ü ρ:=⟨[],99,2,EH,fun(p:Val ar) (v:Val tI) b a=>let A:=p.2.2.2.2;iP p.1 p.2.1 p.2.2.1 p.2.2.2.1 A.1 A.2.1 A.2.2.1 A.2.2.2.2.1 A.2.2.2.2.2.2.2.2.2.2.2 v (fun c=>b c) (a 0) (a 1)⟩
def EG:È:={pin:=0,cs:=[tI,tI,ac,aa,af,ab,aa,tI,tI,ae,ae,tI,tI,tI,tI,ae],vs:=[tI],head:=⟨90,[.any,.any,.box 0 0,.box 1 0,.any,.own 2,.any,.any,.var tI],bW⟩,exits:=[(.ret,⟨90,[.any,.any,.box 0 0,.box 1 0,.var tI,.own 2],bW⟩,[tI]),(.exit 4,⟨90,[.any,.any,.box 0 0,.box 1 0,.any,.own 2],bW⟩,[])]}
def qp (ρ:Type):Ü ρ:=⟨[],99,4,EG,fun(p:Val ar) (v:Val tI) b a=>let A:=p.2.2.2.2;Μ p.1 p.2.1 p.2.2.1 p.2.2.2.1 A.1 A.2.1 A.2.2.1 A.2.2.2.2.1 A.2.2.2.2.2.2.2.2.2.2.2 v (fun c=>b c) (a 0) (a 1)⟩
def LO:List (Nat×Ø):=[(101,sl),(166,xh),(167,NK),(168,NL)]
def sK (ρ:Type):List (Ü ρ):=[qr ρ,qq ρ,qp ρ]
def jc (ρ:Type):Env ρ:=Ù LO (sK ρ)
def MR:Ø:=⟨[ae,ae],[tI],fun(x:Val bc)=>oz x.1 x.2⟩
def acZ:List (Nat×Ø):=[(168,NL)]
def Kj (ρ:Type):List (Ü ρ):=[]
def Uj (ρ:Type):Env ρ:=Ù acZ (Kj ρ)
def Zn:Ø:=⟨[Ä,Ñ,tI],[.bool],fun(x:Val (.pair Ä (.pair Ñ tI)))=>G9 x.1 x.2.1 x.2.2⟩
def RQ:È:={pin:=0,cs:=[tI,tI,tI,ac,aa,af,ab,aa,tI,tI,tI,tI,tI,tI,tI,tI],vs:=[tI],head:=⟨76,[.any,.any,.con tI,.box 0 0,.box 1 0,.any,.any,.var tI],[bm,bn]⟩,exits:=[(.ret,⟨76,[.any,.any,.con tI,.box 0 0,.box 1 0,.any,.var .bool],[bm,bn]⟩,[.bool]),(.exit 0,⟨76,[.any,.any,.con tI,.box 0 0,.box 1 0],[bm,bn]⟩,[])]}
def Bh (ρ:Type):Ü ρ:=⟨[],169,0,RQ,fun(p:Val aA) (v:Val tI) b a=>qt p.1 p.2.2.2.2.2.2.1 p.2.2.2.2.2.2.2.2.1 v (fun c=>b c) (a 0) (a 1)⟩
def RP:È:={pin:=0,cs:=[tI,tI,tI,ac,aa,af,ab,aa,tI,tI,tI,tI,tI,tI,tI,tI],vs:=[tI],head:=⟨76,aN 2 (.con tI::.box 0 0::.box 1 0::aN 4 [.var tI]),[bm,bn]⟩,exits:=[(.ret,⟨76,[.any,.any,.con tI,.box 0 0,.box 1 0,.any,.var .bool],[bm,bn]⟩,[.bool]),(.exit 2,⟨76,[.any,.any,.con tI,.box 0 0,.box 1 0],[bm,bn]⟩,[])]}
def Bg (ρ:Type):Ü ρ:=⟨[],169,2,RP,fun(p:Val aA) (v:Val tI) b a=>mX p.1 p.2.2.2.2.2.2.2.1 p.2.2.2.2.2.2.2.2.1 v (fun c=>b c) (a 0) (a 1)⟩
def Z0:List (Nat×Ø):=[(158,MR)]
def EJ (ρ:Type):List (Ü ρ):=[Bh ρ,Bg ρ]
def uw (ρ:Type):Env ρ:=Ù Z0 (EJ ρ)
def sm:Ø:=⟨[Ä],[aa],fun(x:Val Ä)=>jA x⟩
def OB:È:={pin:=0,cs:=[tI,tI,ac,aa,af,ab,aa],vs:=[tI,ae],head:=⟨114,[.any,.box 0 0,.any,.own 1,.var tI],cE⟩,exits:=[(.exit 0,⟨114,[.any,.box 0 0,.any,.own 1],cE⟩,[ae])]}
def xI (ρ:Type):Ü ρ:=⟨[],102,0,OB,fun(p:Val ai) (v:Val ay) a b=>oj p.2.2.1 v.1 v.2 (fun c d=>a (c,d)) (b 0)⟩
def OA:È:={pin:=0,cs:=[tI,tI,ac,aa,af,ab,aa],vs:=[tI,ae],head:=⟨114,[.any,.box 0 0,.any,.own 1,.any,.var tI],cE⟩,exits:=[(.exit 2,⟨114,[.any,.box 0 0,.any,.own 1],cE⟩,[ae])]}
def xH (ρ:Type):Ü ρ:=⟨[],102,2,OA,fun(p:Val ai) (v:Val ay) a b=>oi p.2.2.2.2.2.1 v.1 v.2 (fun c d=>a (c,d)) (b 0)⟩
def Oz:È:={pin:=0,cs:=[tI,tI,ac,aa,af,ab,aa],vs:=[tI,ae],head:=⟨114,[.any,.box 0 0,.any,.own 1,.any,.any,.var tI],cE⟩,exits:=[(.exit 4,⟨114,[.any,.box 0 0,.any,.own 1],cE⟩,[ae])]}
def xG (ρ:Type):Ü ρ:=⟨[],102,4,Oz,fun(p:Val ai) (v:Val ay) a b=>oh p.2.2.2.2.2.2 v.1 v.2 (fun c d=>a (c,d)) (b 0)⟩
def xB:È:={pin:=0,cs:=[tI,tI,tI,tI,ac,aa,af,ab,aa,ae,aa],vs:=[tI,tI],head:=⟨114,[.any,.box 0 0,.any,.own 1,.any,.any,.any,.own 2,.con tI,.con tI,.var tI,.var tI],[bm,.rowc tI,.rowc Â]⟩,exits:=[(.exit 10,⟨114,[.any,.box 0 0,.any,.own 1,.any,.any,.any,.own 2,.con tI,.con tI,.var tI],[bm,.rowc tI,.rowc Â]⟩,[tI])]}
def xA (ρ:Type):Ü ρ:=⟨[],102,10,xB,fun(p:Val (tyL xB.cs)) (v:Val Â) a b=>kZ p.2.1 p.2.2.2.2.2.2.2.2.2.1 v.1 v.2 (fun c d=>a (c,d)) (b 0)⟩
def xD:È:={pin:=0,cs:=[tI,tI,tI,ac,aa,af,ab,aa,ae],vs:=[tI,aa],head:=⟨114,[.any,.box 0 0,.any,.own 1,.any,.any,.any,.own 2,.con tI,.var tI],cF⟩,exits:=[(.exit 8,⟨114,[.any,.box 0 0,.any,.own 1,.any,.any,.any,.own 2,.con tI],cF⟩,[aa])]}
def xC (ρ:Type):Ü ρ:=⟨[],102,8,xD,fun(p:Val (tyL xD.cs)) (v:Val aF) a b=>let A:=p.2.2.2.2;la p.1 p.2.1 p.2.2.1 p.2.2.2.1 A.1 A.2.1 A.2.2.1 A.2.2.2.1 A.2.2.2.2 v.1 v.2 (fun c d=>a (c,d)) (b 0)⟩
def xF:È:={pin:=0,cs:=[tI,tI,ac,aa,af,ab,aa,ae],vs:=[tI,aa],head:=⟨114,[.any,.box 0 0,.any,.own 1,.any,.any,.any,.own 2,.var tI],cF⟩,exits:=[(.exit 6,⟨114,[.any,.box 0 0,.any,.own 1,.any,.any,.any,.own 2],cF⟩,[aa])]}
def xE (ρ:Type):Ü ρ:=⟨[],102,6,xF,fun(p:Val (tyL xF.cs)) (v:Val aF) a b=>let A:=p.2.2.2.2;og p.1 p.2.1 p.2.2.1 p.2.2.2.1 A.1 A.2.1 A.2.2.1 A.2.2.2 v.1 v.2 (fun c d=>a (c,d)) (b 0)⟩
def Wj:List (Nat×Ø):=[(169,Zn)]
def Bl (ρ:Type):List (Ü ρ):=[xI ρ,xH ρ,xG ρ,xA ρ,xC ρ,xE ρ]
def ip (ρ:Type):Env ρ:=Ù Wj (Bl ρ)
def zJ:Ø:=⟨[Ä,Â],[tI],fun(x:Val aD)=>œ x.1 x.2⟩
def OL:È:={pin:=0,cs:=[aa,tI,tI],vs:=[tI],head:=⟨23,[.any,.any,.any,.box 0 0,.any,.con aa,.var tI],[bt]⟩,exits:=[(.ret,⟨23,[.any,.any,.any,.box 0 0,.var tI,.con aa],[bt]⟩,[tI]),(.exit 0,⟨23,[.any,.any,.any,.box 0 0,.any,.con aa],[bt]⟩,[])]}
def xJ (ρ:Type):Ü ρ:=⟨[],52,0,OL,fun(p:Val aX) (v:Val tI) b a=>ol p.1 p.2.1 p.2.2 v (fun c=>b c) (a 0) (a 1)⟩
def Wq:List (Nat×Ø):=[(102,sm)]
def Bq (ρ:Type):List (Ü ρ):=[xJ ρ]
def xK (ρ:Type):Env ρ:=Ù Wq (Bq ρ)
def Zo:Ø:=⟨[Ä,tI,tI],[.bool],fun(x:Val aD)=>Ha x.1 x.2.1 x.2.2⟩
def RS:È:={pin:=0,cs:=[tI,tI,tI,tI,ac,aa,af,ab,aa],vs:=[tI],head:=⟨33,[.any,.con tI,.con tI,.box 0 0,.any,.any,.any,.var tI],[bm]⟩,exits:=[(.ret,⟨33,[.any,.con tI,.con tI,.box 0 0,.any,.any,.var .bool],[bm]⟩,[.bool]),(.exit 0,⟨33,[.any,.con tI,.con tI,.box 0 0],[bm]⟩,[])]}
def Bi (ρ:Type):Ü ρ:=⟨[],212,0,RS,fun(p:Val (.pair tI aC)) (v:Val tI) b a=>qu p.1 p.2.1 p.2.2.2.2.2.1 v (fun c=>b c) (a 0) (a 1)⟩
def Z1:List (Nat×Ø):=[]
def EK (ρ:Type):List (Ü ρ):=[Bi ρ]
def CV (ρ:Type):Env ρ:=Ù Z1 (EK ρ)
def Zr:Ø:=⟨[Ä,tI,tI,tI],[tI],fun(x:Val (.pair Ä ÿ))=>tG x.1 x.2.1 x.2.2.1 x.2.2.2⟩
def Bn:È:={pin:=0,cs:=[tI,tI,tI,tI,tI,ac,aa,af,ab,aa],vs:=[tI,tI],head:=⟨48,.any::.con tI::.any::.con tI::.box 0 0::aN 4 [.con tI,.var tI,.var tI],[bm]⟩,exits:=[(.exit 0,⟨48,.any::.con tI::.any::.con tI::.box 0 0::aN 4 [.con tI,.var tI],[bm]⟩,[tI])]}
def Bm (ρ:Type):Ü ρ:=⟨[],170,0,Bn,fun(p:Val (tyL Bn.cs)) (v:Val Â) a b=>let A:=p.2.2.2.2;qw p.1 p.2.1 p.2.2.1 p.2.2.2.1 A.1 A.2.1 A.2.2.1 A.2.2.2.1 A.2.2.2.2.1 A.2.2.2.2.2 v.1 v.2 (fun c d=>a (c,d)) (b 0)⟩
def Z5:List (Nat×Ø):=[(166,xh),(167,NK),(212,Zo)]
def ER (ρ:Type):List (Ü ρ):=[Bm ρ]
def CY (ρ:Type):Env ρ:=Ù Z5 (ER ρ)
def CB:Ø:=⟨[tI,tI],[Ł],fun(x:Val Â)=>pK x.1 x.2⟩
def Sl:List (Nat×Ø):=[(209,VA),(210,VB)]
def ya (ρ:Type):List (Ü ρ):=[]
def EY (ρ:Type):Env ρ:=Ù Sl (ya ρ)
def ae6:Ø:=⟨[Â,Â],[Ł],fun(x:Val ä)=>X5 x.1 x.2⟩
def adb:List (Nat×Ø):=[(285,CB)]
def Kz (ρ:Type):List (Ü ρ):=[]
def Uo (ρ:Type):Env ρ:=Ù adb (Kz ρ)
def ae4:Ø:=⟨[Â],[Â],fun(x:Val Â)=>X4 x⟩
def ac8:List (Nat×Ø):=[]
def Kv (ρ:Type):List (Ü ρ):=[]
def Um (ρ:Type):Env ρ:=Ù ac8 (Kv ρ)
def ae3:Ø:=⟨[Â,Â],[Ł],fun(x:Val ä)=>Nc x.1 x.2⟩
def ac7:List (Nat×Ø):=[(268,ae6),(269,ae4)]
def Kt (ρ:Type):List (Ü ρ):=[]
def Ul (ρ:Type):Env ρ:=Ù ac7 (Kt ρ)
def T0:Ø:=⟨[Ä,tI],[Â],fun(x:Val aI)=>tE x.1 x.2⟩
def V7:List (Nat×Ø):=[(166,xh)]
def Be (ρ:Type):List (Ü ρ):=[]
def Kk (ρ:Type):Env ρ:=Ù V7 (Be ρ)
def Zu:Ø:=⟨[Ł,Ł],[sg],fun(x:Val (.pair Ł Ł))=>Hb x.1 x.2⟩
def aaf:List (Nat×Ø):=[]
def E4 (ρ:Type):List (Ü ρ):=[]
def O6 (ρ:Type):Env ρ:=Ù aaf (E4 ρ)
def ae5:Ø:=⟨[Â,Â],[Ł],fun(x:Val ä)=>vJ x.1 x.2⟩
def ac9:List (Nat×Ø):=[(285,CB)]
def Kw (ρ:Type):List (Ü ρ):=[]
def Un (ρ:Type):Env ρ:=Ù ac9 (Kw ρ)
def T5:Ø:=⟨[ä,Â],[sg],fun(x:Val (.pair ä Â))=>Ah x.1 x.2⟩
def WC:List (Nat×Ø):=[(270,Zu),(271,ae5)]
def Bw (ρ:Type):List (Ü ρ):=[]
def Ku (ρ:Type):Env ρ:=Ù WC (Bw ρ)
def NM:Ø:=⟨[Ä,Í],[ä],fun(x:Val aB)=>vG x.1 x.2⟩
def Sf:List (Nat×Ø):=[(158,MR),(242,ae3),(243,T0),(244,T5)]
def xL (ρ:Type):List (Ü ρ):=[]
def EW (ρ:Type):Env ρ:=Ù Sf (xL ρ)
def T2:Ø:=⟨[Ä,Í],[Â],fun(x:Val aB)=>Af x.1 x.2⟩
def Wu:List (Nat×Ø):=[]
def Bs (ρ:Type):List (Ü ρ):=[]
def Kq (ρ:Type):Env ρ:=Ù Wu (Bs ρ)
def aim:Ø:=⟨[tI,tI],[tI],fun(x:Val Â)=>adT x.1 x.2⟩
def agD:List (Nat×Ø):=[]
def O2 (ρ:Type):List (Ü ρ):=[]
def aad (ρ:Type):Env ρ:=Ù agD (O2 ρ)
def Zv:Ø:=⟨[Â],[tI],fun(x:Val Â)=>Hc x⟩
def aak:List (Nat×Ø):=[(245,aim)]
def E6 (ρ:Type):List (Ü ρ):=[]
def O8 (ρ:Type):Env ρ:=Ù aak (E6 ρ)
def Zt:Ø:=⟨[tI,tI],[tI],fun(x:Val Â)=>QN x.1 x.2⟩
def aae:List (Nat×Ø):=[]
def EZ (ρ:Type):List (Ü ρ):=[]
def O4 (ρ:Type):Env ρ:=Ù aae (EZ ρ)
def T6:Ø:=⟨[Â],[tI],fun(x:Val Â)=>Aj x⟩
def WH:List (Nat×Ø):=[(246,Zt)]
def Bx (ρ:Type):List (Ü ρ):=[]
def Ky (ρ:Type):Env ρ:=Ù WH (Bx ρ)
def Zp:Ø:=⟨[Ä,Í],[Â],fun(x:Val aB)=>tF x.1 x.2⟩
def Z3:List (Nat×Ø):=[(205,NM),(206,T2),(207,Zv),(208,T6)]
def EP (ρ:Type):List (Ü ρ):=[]
def Ov (ρ:Type):Env ρ:=Ù Z3 (EP ρ)
def Vz:Ø:=⟨[Ä],[wd],fun(x:Val Ä)=>vF x⟩
def Wd:È:={pin:=0,cs:=[aa,tI,tI,tI,ac,aa,af,ab,aa,tI,tI,tI,tI,tI,tI,tI,tI],vs:=[tI,ah,aa],head:=⟨182,[.any,.box 0 0,.box 1 0,.box 2 0,.con aa,.con tI,.box 3 0,.var tI],[bm,bR,.cells [.own 4,.own 5],bn,.rowv ÿ,.rowv Â]⟩,exits:=[(.exit 2,⟨182,[.any,.box 0 0,.box 1 0,.box 2 0,.con aa,.con tI,.box 3 0],[bm,bR,.cells [.own 4,.own 5],bn,.rowv ÿ,.rowv Â]⟩,[ah,aa])]}
def EM (ρ:Type):Ü ρ:=⟨[],103,2,Wd,fun(p:Val (.pair aa aA)) (v:Val aM) a b=>let A:=p.2.2.2.2;let B:=A.2.2.2.2;pj p.1 p.2.1 p.2.2.1 p.2.2.2.1 A.1 A.2.1 A.2.2.1 A.2.2.2.1 B.1 B.2.1 B.2.2.1 B.2.2.2.1 B.2.2.2.2.1 B.2.2.2.2.2.1 v.1 v.2.1 v.2.2 (fun c d e=>a (c,d,e)) (b 0)⟩
def We:È:={pin:=0,cs:=[aa,tI,tI,ac,aa,af,ab,aa],vs:=[tI,ah,aa],head:=⟨182,[.any,.box 0 0,.box 1 0,.box 2 0,.con aa,.var tI],cG⟩,exits:=[(.exit 0,⟨182,[.any,.box 0 0,.box 1 0,.box 2 0,.con aa],cG⟩,[ah,aa])]}
def EN (ρ:Type):Ü ρ:=⟨[],103,0,We,fun(p:Val (.pair aa ai)) (v:Val aM) a b=>let A:=p.2.2.2.2;uA p.1 p.2.1 p.2.2.1 p.2.2.2.1 A.1 A.2.1 A.2.2.1 A.2.2.2 v.1 v.2.1 v.2.2 (fun c d e=>a (c,d,e)) (b 0)⟩
def Wc:È:={pin:=0,cs:=[tI,tI,ac,aa,af,ab,aa],vs:=[tI,ah,aa],head:=⟨182,.any::.box 0 0::.box 1 0::.box 2 0::aN 5 [.var tI],cG⟩,exits:=[(.exit 4,⟨182,[.any,.box 0 0,.box 1 0,.box 2 0],cG⟩,[ah,aa])]}
def EL (ρ:Type):Ü ρ:=⟨[],103,4,Wc,fun(p:Val ai) (v:Val aM) a b=>let A:=p.2.2.2.2;uz p.1 p.2.1 p.2.2.1 p.2.2.2.1 A.1 A.2.1 A.2.2 v.1 v.2.1 v.2.2 (fun c d e=>a (c,d,e)) (b 0)⟩
def ac0:List (Nat×Ø):=[(52,zJ),(102,sm),(158,MR),(170,Zr),(171,Zp)]
def Km (ρ:Type):List (Ü ρ):=[EM ρ,EN ρ,EL ρ]
def sL (ρ:Type):Env ρ:=Ù ac0 (Km ρ)
def H5:Ø:=⟨[Ä],[tI],fun(x:Val Ä)=>mr x⟩
def OV:È:={pin:=0,cs:=[tI,tI,ac,aa,af,ab,aa],vs:=[tI],head:=⟨170,[.any,.box 0 0,.any,.var tI],[bm]⟩,exits:=[(.ret,⟨170,[.any,.box 0 0,.var tI],[bm]⟩,[tI]),(.exit 0,⟨170,[.any,.box 0 0],[bm]⟩,[])]}
def xP (ρ:Type):Ü ρ:=⟨[],41,0,OV,fun(p:Val ai) (v:Val tI) b a=>oo p.2.2.1 v (fun c=>b c) (a 0) (a 1)⟩
def OT:È:={pin:=0,cs:=[tI,tI,tI,ac,aa,af,ab,aa],vs:=[tI],head:=⟨170,.any::.box 0 0::aN 4 [.con tI,.any,.var tI],[bm]⟩,exits:=[(.ret,⟨170,[.any,.box 0 0,.var tI,.any,.any,.any,.con tI],[bm]⟩,[tI]),(.exit 4,⟨170,.any::.box 0 0::aN 4 [.con tI],[bm]⟩,[])]}
def xN (ρ:Type):Ü ρ:=⟨[],41,4,OT,fun(p:Val aC) (v:Val tI) b a=>om p.1 p.2.2.2.2.2.2.1 v (fun c=>b c) (a 0) (a 1)⟩
def OU:È:={pin:=0,cs:=[tI,tI,ac,aa,af,ab,aa],vs:=[tI],head:=⟨170,.any::.box 0 0::aN 4 [.var tI],[bm]⟩,exits:=[(.ret,⟨170,[.any,.box 0 0,.var tI],[bm]⟩,[tI]),(.exit 2,⟨170,[.any,.box 0 0],[bm]⟩,[])]}
def xO (ρ:Type):Ü ρ:=⟨[],41,2,OU,fun(p:Val ai) (v:Val tI) b a=>let A:=p.2.2.2.2;jq p.1 p.2.1 p.2.2.1 p.2.2.2.1 A.1 A.2.1 A.2.2 v (fun c=>b c) (a 0) (a 1)⟩
def OS:È:={pin:=0,cs:=[tI,tI,ac,aa,af,ab,aa],vs:=[tI],head:=⟨170,.any::.box 0 0::aN 7 [.var tI],[bm]⟩,exits:=[(.ret,⟨170,[.any,.box 0 0,.var tI],[bm]⟩,[tI]),(.exit 6,⟨170,[.any,.box 0 0],[bm]⟩,[])]}
def xM (ρ:Type):Ü ρ:=⟨[],41,6,OS,fun(p:Val ai) (v:Val tI) b a=>let A:=p.2.2.2.2;jp p.1 p.2.1 p.2.2.1 p.2.2.2.1 A.1 A.2.1 A.2.2 v (fun c=>b c) (a 0) (a 1)⟩
def Ww:List (Nat×Ø):=[(94,mN),(95,T1),(96,Zm),(97,TZ),(98,TY),(99,Ee),(100,Ef),(101,sl),(102,sm),(103,Vz)]
def Bt (ρ:Type):List (Ü ρ):=[xP ρ,xN ρ,xO ρ,xM ρ]
def ky (ρ:Type):Env ρ:=Ù Ww (Bt ρ)
def NJ:Ø:=⟨[Ä],[Ì],fun(x:Val Ä)=>pI x⟩
def RW:List (Nat×Ø):=[(102,sm),(103,Vz)]
def xz (ρ:Type):List (Ü ρ):=[]
def EO (ρ:Type):Env ρ:=Ù RW (xz ρ)
def Zs:Ø:=⟨[Ä,Â],[Ä,tI],fun(x:Val aD)=>tJ x.1 x.2⟩
def Z6:List (Nat×Ø):=[(41,H5)]
def ES (ρ:Type):List (Ü ρ):=[]
def OE (ρ:Type):Env ρ:=Ù Z6 (ES ρ)
def T3:Ø:=⟨[Ì],[am,.bool],fun(x:Val Ì)=>tK x⟩
def xX:È:={pin:=1,cs:=[tI,tI,tI,ah,am],vs:=[tI,ae],head:=⟨33,[.con tI,.any,.any,.dp 1,.con tI,.own 2,.var tI],[bu,.deepc .i64,.rowv tI]⟩,exits:=[(.exit 2,⟨33,[.con tI,.any,.any,.dp 1,.con tI,.own 2],[bu,.deepc .i64,.rowv tI]⟩,[ae])]}
def xW (ρ:Type):Ü ρ:=⟨[1,2],115,2,xX,fun(p:Val (tyL xX.cs)) (v:Val ay) a b=>lh p.1 p.2.1 v.1 v.2 (fun c d=>a (c,d)) (b 0)⟩
def O0:È:={pin:=1,cs:=[tI,tI,ah],vs:=[tI,am],head:=⟨33,[.con tI,.any,.any,.dp 1,.var tI],cH⟩,exits:=[(.exit 0,⟨33,[.con tI,.any,.any,.dp 1],cH⟩,[am])]}
def xY (ρ:Type):Ü ρ:=⟨[1,2],115,0,O0,fun(p:Val aG) (v:Val aO) a b=>lm p.1 v.1 v.2 (fun c d=>a (c,d)) (b 0)⟩
def OZ:È:={pin:=0,cs:=[tI,ah],vs:=[tI,am],head:=⟨124,[.any,.box 0 0,.any,.any,.dp 1,.var tI],cH⟩,exits:=[(.exit 0,⟨124,[.any,.box 0 0,.any,.any,.dp 1],cH⟩,[am])]}
def xV (ρ:Type):Ü ρ:=⟨[],54,0,OZ,fun(p:Val Ì) (v:Val aO) a b=>lg p.2 v.1 v.2 (fun c d=>a (c,d)) (b 0)⟩
def OW:È:={pin:=0,cs:=[tI,tI,tI,ah],vs:=[tI,am],head:=⟨124,[.any,.box 0 0,.any,.any,.dp 1,.any,.any,.con tI,.con tI,.var tI],cH⟩,exits:=[(.exit 6,⟨124,[.any,.box 0 0,.any,.any,.dp 1,.any,.any,.con tI,.con tI],cH⟩,[am])]}
def xS (ρ:Type):Ü ρ:=⟨[],54,6,OW,fun(p:Val (.pair tI aG)) (v:Val aO) a b=>ld p.1 p.2.1 p.2.2.1 v.1 v.2 (fun c d=>a (c,d)) (b 0)⟩
def OX:È:={pin:=0,cs:=[tI,tI,ah],vs:=[tI,am],head:=⟨124,[.any,.box 0 0,.any,.any,.dp 1,.any,.any,.con tI,.var tI],cH⟩,exits:=[(.exit 4,⟨124,[.any,.box 0 0,.any,.any,.dp 1,.any,.any,.con tI],cH⟩,[am])]}
def xT (ρ:Type):Ü ρ:=⟨[],54,4,OX,fun(p:Val aG) (v:Val aO) a b=>lf p.1 p.2.1 v.1 v.2 (fun c d=>a (c,d)) (b 0)⟩
def xR:È:={pin:=0,cs:=[tI,tI,ah,am],vs:=[tI],head:=⟨124,[.any,.box 0 0,.any,.any,.dp 1,.any,.any,.con tI,.any,.any,.var tI],[bu,.deepc .i64]⟩,exits:=[(.ret,⟨124,[.any,.box 0 0,.nils,.var .bool,.dp 1,.any,.any,.con tI],[bu,.deepc .i64]⟩,[.bool]),(.exit 8,⟨124,[.any,.box 0 0,.any,.any,.dp 1,.any,.any,.con tI],[bu,.deepc .i64]⟩,[])]}
def xQ (ρ:Type):Ü ρ:=⟨[],54,8,xR,fun(p:Val (tyL xR.cs)) (v:Val tI) b a=>iB p.2.1 p.2.2.2 v (fun c=>b c) (a 0) (a 1)⟩
def OY:È:={pin:=0,cs:=[tI,ah],vs:=[tI,am],head:=⟨124,[.any,.box 0 0,.any,.any,.dp 1,.any,.any,.var tI],cH⟩,exits:=[(.ret,⟨124,[.any,.box 0 0,.nils,.var .bool,.dp 1],cH⟩,[.bool,am]),(.exit 2,⟨124,[.any,.box 0 0,.any,.any,.dp 1],cH⟩,[am])]}
def xU (ρ:Type):Ü ρ:=⟨[],54,2,OY,fun(p:Val Ì) (v:Val aO) b a=>jr p.1 v.1 v.2 (fun c d=>b (c,d)) (a 0) (a 1)⟩
def Wx:List (Nat×Ø):=[]
def Bu (ρ:Type):List (Ü ρ):=[xW ρ,xY ρ,xV ρ,xS ρ,xT ρ,xQ ρ,xU ρ]
def Ω (ρ:Type):Env ρ:=Ù Wx (Bu ρ)
def Zl:Ø:=⟨[Ä,aa],[Ŷ],fun(x:Val (.pair Ä aa))=>G7 x.1 x.2⟩
def RI:È:={pin:=0,cs:=[aa],vs:=[tI,tI,tI,ac,aa,af,ab,aa,tI,tI,tI,tI],head:=⟨59,[.any,.con aa,.box 0 0,.any,.box 1 0,.any,.var tI],[bD,bT]⟩,exits:=[(.ret,⟨59,[.any,.con aa,.box 0 0,.any,.box 1 0],[bD,bT]⟩,[tI,tI,ac,aa,af,ab,aa,tI,tI,tI,tI]),(.exit 0,⟨59,[.any,.con aa,.box 0 0,.any,.box 1 0],[bD,bT]⟩,[tI,tI,ac,aa,af,ab,aa,tI,tI,tI,tI])]}
def A7 (ρ:Type):Ü ρ:=⟨[],15,0,RI,fun(p:Val aa) (v:Val (.pair tI aw)) b a=>mV p v.1 v.2.1 v.2.2.1 v.2.2.2.1 v.2.2.2.2.1 v.2.2.2.2.2.1 v.2.2.2.2.2.2.1 v.2.2.2.2.2.2.2.1 v.2.2.2.2.2.2.2.2.1 v.2.2.2.2.2.2.2.2.2.1 v.2.2.2.2.2.2.2.2.2.2.1 v.2.2.2.2.2.2.2.2.2.2.2 (fun c d e f g h i j k l m n=>b (c,d,e,f,g,h,i,j,k,l,m,n)) (a 0) (a 1)⟩
def ZX:List (Nat×Ø):=[(41,H5),(43,NJ),(52,zJ),(53,Zs),(54,T3)]
def EE (ρ:Type):List (Ü ρ):=[A7 ρ]
def CP (ρ:Type):Env ρ:=Ù ZX (EE ρ)
def o9:Ø:=⟨[Ŷ,tI],[Â],fun(x:Val (.pair Ŷ tI))=>ž x.1 x.2⟩
def wU:List (Nat×Ø):=[]
def kX (ρ:Type):List (Ü ρ):=[]
def mU (ρ:Type):Env ρ:=Ù wU (kX ρ)
def Ed:Ø:=⟨[Ŷ,Â],[tI],fun(x:Val (.pair Ŷ Â))=>Ħ x.1 x.2⟩
def LJ:List (Nat×Ø):=[(52,zJ)]
def sJ (ρ:Type):List (Ü ρ):=[]
def xu (ρ:Type):Env ρ:=Ù LJ (sJ ρ)
def NN:Ø:=⟨[Ì,ae],[.bool],fun(x:Val aU)=>vI x.1 x.2⟩
def L9:È:={pin:=0,cs:=[ae,tI,ah],vs:=[tI],head:=⟨44,[.any,.con ae,.box 0 0,.any,.any,.var tI],[bu]⟩,exits:=[(.ret,⟨44,[.any,.con ae,.box 0 0,.any,.var .bool],[bu]⟩,[.bool]),(.exit 0,⟨44,[.any,.con ae,.box 0 0],[bu]⟩,[])]}
def wj (ρ:Type):Ü ρ:=⟨[],56,0,L9,fun(p:Val (.pair ae Ì)) (v:Val tI) b a=>mF p.1 p.2.2 v (fun c=>b c) (a 0) (a 1)⟩
def Sk:List (Nat×Ø):=[]
def xZ (ρ:Type):List (Ü ρ):=[wj ρ]
def uC (ρ:Type):Env ρ:=Ù Sk (xZ ρ)
def xg:Ø:=⟨[Ŷ,ae],[.bool],fun(x:Val (.pair Ŷ ae))=>Đ x.1 x.2⟩
def ED:List (Nat×Ø):=[(56,NN)]
def pf (ρ:Type):List (Ü ρ):=[]
def sI (ρ:Type):Env ρ:=Ù ED (pf ρ)
def Eg:Ø:=⟨[Ì,tI],[ah],fun(x:Val (.pair Ì tI))=>ů x.1 x.2⟩
def Fe:È:={pin:=3,cs:=[tI,tI,ah,tI,ah],vs:=[tI],head:=⟨19,.own 2::.fn 119 [(1,0)]::aN 5 [.con tI,.var tI],[bu,bq,.rowc ÿ]⟩,exits:=[(.ret,⟨19,[.own 2,.fn 119 [(1,0)],.any,.any,.var tI,.any,.any,.con tI],[bu,bq,.rowc ÿ]⟩,[tI]),(.exit 0,⟨19,.own 2::.fn 119 [(1,0)]::aN 5 [.con tI],[bu,bq,.rowc ÿ]⟩,[])]}
def qE (ρ:Type):Ü ρ:=⟨[1,4,1,2],184,0,Fe,fun(p:Val bj) (v:Val tI) b a=>j5 p.1 p.2.2.2.1 p.2.2.2.2 v (fun c=>b c) (a 0) (a 1)⟩
def qD:È:={pin:=3,cs:=[tI,ah,tI],vs:=[tI,tI,ah],head:=⟨42,[.own 2,.fn 119 [(1,0)],.any,.any,.any,.var tI,.var tI],[bu,bq,.rowv ÿ]⟩,exits:=[(.exit 0,⟨42,[.own 2,.fn 119 [(1,0)],.any,.any,.any,.var tI],[bu,bq,.rowv ÿ]⟩,[tI,ah])]}
def qC (ρ:Type):Ü ρ:=⟨[1,4],118,0,qD,fun(p:Val (tyL qD.cs)) (v:Val aG) a b=>Ū p.2.2 v.1 v.2.1 v.2.2 (fun c d e=>a (c,d,e)) (b 0)⟩
def Ma:List (Nat×Ø):=[]
def sM (ρ:Type):List (Ü ρ):=[qE ρ,qC ρ]
def ln (ρ:Type):Env ρ:=Ù Ma (sM ρ)
def Ke:Ø:=⟨[Ì],[ae,tI],fun(x:Val Ì)=>ų x⟩
def PE:List (Nat×Ø):=[(112,NV),(120,H7),(121,gU)]
def wH (ρ:Type):List (Ü ρ):=[]
def BL (ρ:Type):Env ρ:=Ù PE (wH ρ)
def NP:Ø:=⟨[Ä,Â,Â,.bool],[ae,tI],fun(x:Val aQ)=>vK x.1 x.2.1 x.2.2.1 x.2.2.2⟩
def Mi:È:={pin:=4,cs:=[tI,tI,tI,ac,aa,af,ab,aa,tI,tI,tI,tI,aa],vs:=[tI,tI,tI,ac,aa,af,ab,aa],head:=⟨68,aN 2 (.box 4 0::aN 20 [.own 3,.con tI,.var tI]),b9⟩,exits:=[(.ret,⟨68,aN 2 (.box 4 0::.any::.nilp::.var tI::aN 17 [.own 3,.con tI]),b9⟩,[tI,tI,tI,ac,aa,af,ab,aa]),(.exit 0,⟨68,aN 2 (.box 4 0::aN 20 [.own 3,.con tI]),b9⟩,[tI,tI,ac,aa,af,ab,aa])]}
def ww (ρ:Type):Ü ρ:=⟨[1,3],47,0,Mi,fun(p:Val aH) (v:Val aC) b a=>rG p.1 p.2.2.2.2.2.2.2.2.2.2.2.2 v.1 v.2.1 v.2.2.1 v.2.2.2.1 v.2.2.2.2.1 v.2.2.2.2.2.1 v.2.2.2.2.2.2.1 v.2.2.2.2.2.2.2 (fun c d e f g h i j=>b (c,d,e,f,g,h,i,j)) (a 0) (a 1)⟩
def SN:List (Nat×Ø):=[(48,gY),(50,ja),(58,Eg),(59,Ke),(66,Ś),(67,jb),(68,Ţ),(110,oa),(111,Ŗ)]
def yo (ρ:Type):List (Ü ρ):=[ww ρ]
def uL (ρ:Type):Env ρ:=Ù SN (yo ρ)
def TX:Ø:=⟨[Â,Â],[tI],fun(x:Val ä)=>tD x.1 x.2⟩
def V2:List (Nat×Ø):=[]
def A8 (ρ:Type):List (Ü ρ):=[]
def Kh (ρ:Type):Env ρ:=Ù V2 (A8 ρ)
def jZ:Ø:=⟨[Ä,Â,Â,.bool],[.bool],fun(x:Val aQ)=>nO x.1 x.2.1 x.2.2.1 x.2.2.2⟩
def CN:List (Nat×Ø):=[(10,ae1),(11,NI),(15,Zl),(16,o9),(17,Ed),(20,xg),(21,NR),(22,NP),(23,TX)]
def nQ (ρ:Type):List (Ü ρ):=[]
def qn (ρ:Type):Env ρ:=Ù CN (nQ ρ)
end Go.Proofs.ZzM
end
