/- lemmas -/
import Derived.Test.YtmadligicacpkaaGreatAmF
import Derived.KernelRfl
import Derived.Test.YtmadligicacpkaaGreatMdTA
import Derived.Test.YtmadligicacpkaaGreatProg
set_option linter.all false
set_option linter.unusedSectionVars false
set_option linter.unusedVariables false
set_option linter.unusedSimpArgs false
noncomputable section
set_option maxRecDepth 100000
namespace Go.Proofs.ZzM
open Go Go.Am
def PY:Nat→Bool
  |116=>true
  |130=>true
  |253=>true
  |254=>true
  |255=>true
  |256=>true
  |257=>true
  |_=>false
def aaJ:Nat→Bool
  |232=>true
  |_=>false
def yJ:Nat→Bool
  |233=>true
  |_=>false
def isInl:Nat→Bool
  |2=>true
  |47=>true
  |79=>true
  |85=>true
  |87=>true
  |113=>true
  |115=>true
  |118=>true
  |119=>true
  |123=>true
  |124=>true
  |125=>true
  |126=>true
  |127=>true
  |128=>true
  |129=>true
  |134=>true
  |153=>true
  |155=>true
  |161=>true
  |172=>true
  |173=>true
  |174=>true
  |175=>true
  |176=>true
  |177=>true
  |178=>true
  |179=>true
  |180=>true
  |181=>true
  |182=>true
  |183=>true
  |184=>true
  |185=>true
  |186=>true
  |191=>true
  |195=>true
  |196=>true
  |201=>true
  |213=>true
  |214=>true
  |215=>true
  |217=>true
  |218=>true
  |220=>true
  |221=>true
  |223=>true
  |224=>true
  |225=>true
  |228=>true
  |229=>true
  |230=>true
  |234=>true
  |236=>true
  |237=>true
  |247=>true
  |249=>true
  |251=>true
  |260=>true
  |261=>true
  |272=>true
  |273=>true
  |274=>true
  |275=>true
  |276=>true
  |277=>true
  |279=>true
  |280=>true
  |286=>true
  |287=>true
  |289=>true
  |290=>true
  |292=>true
  |293=>true
  |296=>true
  |297=>true
  |299=>true
  |301=>true
  |302=>true
  |_=>false
def isFz:Nat→Bool
  |62=>true
  |81=>true
  |108=>true
  |_=>false
def isEat:Nat→Nat→Bool
  |24,4=>true
  |24,5=>true
  |47,67=>true
  |115,30=>true
  |147,8=>true
  |147,11=>true
  |153,25=>true
  |225,0=>true
  |_,_=>false
def Ù {ρ:Type} (pt:List (Nat×Ø)) (tab:List (Û ρ)):Env ρ :=
  {P:=Tryz.prog,eat:=isEat,clone:=PY,sort:=aaJ,compact:=yJ,inl:=isInl,fz:=isFz,pure:=agj pt,loops:=n0 tab}
def amj {ρ:Type} (pt:List (Nat×Ø)) (tab:List (Û ρ)) (us:List akh):Env ρ :=
  {P:=Tryz.prog,eat:=isEat,clone:=PY,sort:=aaJ,compact:=yJ,inl:=isInl,fz:=isFz,pure:=agj pt,loops:=aaA (Ù pt tab) us}
abbrev bi:iJ:=.cells [.con tI,.con tI,.con ac,.con aa,.con af,.con ab,.con aa]
abbrev bj:iJ:=.cells [.con tI,.con tI,.con tI,.con tI,.con tI,.con tI,.con tI,.con tI]
abbrev bm:iJ:=.cells [.con tI,.con tI,.con tI,.con tI]
abbrev bn:iJ:=.cells [.con ae]
abbrev bo:iJ:=.cells [.con tI]
abbrev bp:iJ:=.cells [.con tI,.con tI,.con ae,.con ae,.con tI,.con tI,.con tI,.con tI]
abbrev bq:iJ:=.cells [.con tI,.con tI]
abbrev br:iJ:=.cells [.con tI,.con ah]
abbrev bt:iJ:=.cells [.own 6]
abbrev bu:iJ:=.cells [.con tI,.con tI,.con ac,.con aa,.con af,.con ab,.con aa,.con aa,.con tI,.own 3,.own 4]
abbrev bv:iJ:=.cells [.con tI,.con tI,.con ac,.con aa,.con af,.con ab,.con aa,.con aa,.con tI,.own 2,.own 3]
abbrev bw:iJ:=.cells [.con tI,.con tI,.nils,.nils,.nils,.nils,.nils]
abbrev bz:iJ:=.cells [.con tI,.con tI,.own 9,.own 10,.own 11,.con ab,.own 12]
abbrev bB:iJ:=.cells [.var tI,.var tI,.var ac,.var aa,.var af,.var ab,.var aa]
abbrev bC:iJ:=.cells [.con tI,.con tI,.nils,.nils,.nils,.nils,.nils,.con tI,.con tI,.con .bool,.con tI,.nils]
abbrev bD:iJ:=.cells [.con tI,.con tI,.own 11,.own 12,.own 13,.con ab,.own 14]
abbrev bE:iJ:=.cells [.con tI,.con tI,.con ac,.con aa,.con af,.con ab,.con aa,.con tI,.own 6]
abbrev bG:iJ:=.cells [.con tI,.con tI,.con tI]
abbrev bH:iJ:=.cells [.omp 3]
abbrev bI:iJ:=.cells [.con ac]
abbrev bJ:iJ:=.cells [.fn 172 []]
abbrev bK:iJ:=.cells [.con aa]
abbrev bL:iJ:=.cells [.fn 173 [(2,0)]]
abbrev bM:iJ:=.cells [.con af]
abbrev bN:iJ:=.cells [.fn 174 [(2,0)]]
abbrev bO:iJ:=.cells [.var tI,.var tI,.var tI,.var tI]
abbrev bP:iJ:=.cells [.nils,.nils]
abbrev bQ:iJ:=.cells [.own 3,.own 4]
abbrev bR:iJ:=.cells [.var tI,.var tI,.nils,.nils,.nils,.nils,.nils,.var tI,.nils,.nils,.var tI]
abbrev bS:List iJ:=[bj,.rowv tI]
abbrev bT:List iJ:=[bi,bm]
abbrev bU:List iJ:=[bi,bp,.rowc tI]
abbrev bV:List iJ:=[br,.rowc tI,br,bt,.rowv .bool,.rowc tI,.rowv tI]
abbrev bW:List iJ:=[br,.rowv tI,br,bt,.rowv .bool,.rowc tI,.rowv tI]
abbrev bX:List iJ:=[br,.rowv tI,br,bt,.rowv .bool,.rowv tI,.rowv tI]
abbrev bY:List iJ:=[bi,bv,.rowv Ą,.rowv Â]
abbrev bZ:List iJ:=[bi,bq,bw,bi,bw,.dead,bz,bw,.rowv Ì,.rowc Ð,.rowc Â,.rowc ņ,.rowc Â]
abbrev b7:List iJ:=[bi,bq,bq,.rowc Â,bB]
abbrev b8:List iJ:=[bi,bq,bq,bq,.rowc Â,bB]
abbrev b9:List iJ:=[.rowc ae,br,.dead,.dead,.rowv tI]
abbrev ca:List iJ:=[br,bo,bo,br,.rowv tI]
abbrev cd:List iJ:=[bi,.dead,.dead,bC,.rowc Â,bB]
abbrev ce:List iJ:=[bi,.dead,.dead,bC,.rowc Â,bi,br,.dead,.rowf Â 0,bi,bi]
abbrev cf:List iJ:=[bi,bp,bw,.dead,.dead,bi,bw,.dead,bD,bw,.rowv Ì,.rowc Ð,.rowc Â,.rowc ņ,.rowc Â]
abbrev cg:List iJ:=[bi,bq,bp,.rowc Â,bB]
abbrev ci:List iJ:=[bi,bq,bq,bp,.rowc Â,bB]
abbrev cj:List iJ:=[bi,bq,bq,bp,.rowc Â,bi,br,.dead,bj,.rowf ae 0,.rowf ae 0,.rowf ae 0]
abbrev cm:List iJ:=[br,.rowc am,bG,br,.rowv tI]
abbrev cn:List iJ:=[bi,bi,bH,.mapc tI .bool,bp,bp]
abbrev cp:List iJ:=[bi,bi,bH,.mapc tI .bool,bp]
abbrev cq:List iJ:=[bi,bi,bH,.mapc tI .bool]
abbrev cr:List iJ:=[bi,bi,bH,.mapc tI .bool,bI,bJ]
abbrev cu:List iJ:=[bi,bi,bH,.mapc tI .bool,bI,bJ,bK,bL]
abbrev cw:List iJ:=[bi,bi,bH,.mapc tI .bool,bI,bJ,bK,bL,bK,bL]
abbrev cz:List iJ:=[bi,bi,bH,.mapc tI .bool,bI,bJ,bK,bL,bK,bL,bM,bN]
abbrev cA:List iJ:=[bi,bi,bH,.mapc tI .bool,bI,bJ,bK,bL,bK,bL,bM,bN,bM,bN]
abbrev cB:List iJ:=[bi,.rowv tI]
abbrev cD:List iJ:=[bi,.rowc tI,.rowv Â]
abbrev cE:List iJ:=[bi,bP,bQ,.rowv Ą,.rowv Â]
abbrev cF:List iJ:=[br,.deepv .i64]
def Ś:Ø:=⟨[am],[ae],fun(x:Val am)=>ì x⟩
def kv:È:={pin:=0,cs:=[am,am,tI],vs:=[tI,tI],head:=⟨36,.con am::aN 2 (.var tI::aN 5 [.con am,.con tI,.var tI]),[]⟩,exits:=[(.exit 0,⟨36,.con am::aN 2 (.var tI::aN 5 [.con am,.con tI]),[]⟩,[tI])]}
def ku (ρ:Type):Û ρ:=⟨[],81,0,kv,fun(p:Val (tyL kv.cs)) (v:Val Â) a b=>Į p.2.1 p.2.2 v.1 v.2 (fun c d=>a (c,d)) (b 0)⟩
def tR:È:={pin:=0,cs:=[am,tI],vs:=[tI,ae],head:=⟨36,aN 6 (.own 0::aN 18 [.con am,.con tI,.var tI]),[.rowv tI]⟩,exits:=[(.exit 2,⟨36,aN 6 (.own 0::aN 18 [.con am,.con tI]),[.rowv tI]⟩,[ae])]}
def ks (ρ:Type):Û ρ:=⟨[],81,2,tR,fun(p:Val (.pair am tI)) (v:Val ay) a b=>ï p.1 p.2 v.1 v.2 (fun c d=>a (c,d)) (b 0)⟩
def w9:List (Nat×Ø):=[]
def lu (ρ:Type):List (Û ρ):=[ku ρ,ks ρ]
def ς (ρ:Type):Env ρ:=Ù w9 (lu ρ)
def oM:Ø:=⟨[Ä,aa,aa],[Ä],fun(x:Val (.pair Ä (.pair aa aa)))=>Qf x.1 x.2.1 x.2.2⟩
noncomputable def ZV:È:={pin:=8,cs:=[ae,tI,tI,tI,ac,aa,af,ab,aa,tI,tI,ak,tI,tI],vs:=[tI,ak],head:=⟨34,.any::.any::.any::.box 2 0::aN 21 [.con ae,.con tI,.var tI],[.cells [.con tI,.con tI,.con ac,.con aa,.con af,.con ab,.con aa],.cells [.con tI,.con tI,.nils,.nils,.nils,.nils,.nils],.cells [.omp 5],.cells [.omp 6],.cells [.nilfn,.fn 127 [(2,0),(0,0)],.fn 127 [(2,0),(0,0)],.fn 128 [(3,0),(0,0),(2,0)]],.mapv tI .bool,.mapc tI .bool,.cells [.con tI,.con tI]]⟩,exits:=[(.exit 0,⟨34,.any::.any::.any::.box 2 0::aN 21 [.con ae,.con tI],[.cells [.con tI,.con tI,.con ac,.con aa,.con af,.con ab,.con aa],.cells [.con tI,.con tI,.nils,.nils,.nils,.nils,.nils],.cells [.omp 5],.cells [.omp 6],.cells [.nilfn,.fn 127 [(2,0),(0,0)],.fn 127 [(2,0),(0,0)],.fn 128 [(3,0),(0,0),(2,0)]],.mapv tI .bool,.mapc tI .bool,.cells [.con tI,.con tI]]⟩,[ak])]}
noncomputable def Kb (ρ:Type):Û ρ:=⟨[7,5],128,0,ZV,fun(p:Val (.pair ae (.pair tI (.pair tI (.pair tI (.pair ac (.pair aa (.pair af (.pair ab (.pair aa (.pair tI (.pair tI (.pair ak Â))))))))))))) (v:Val (.pair tI ak)) kn kx=>sq p.1 p.2.1 v.1 v.2 (fun u0 u1=>kn (u0,u1)) (kx 0)⟩
noncomputable def ZW:È:={pin:=0,cs:=[aa,aa,tI,tI,tI,ac,aa,af,ab,aa,tI,tI],vs:=[tI,ak,ak],head:=⟨130,.any::.any::.con aa::.box 0 0::.any::.any::.box 1 0::.box 2 0::.box 3 0::.any::.box 4 0::aN 19 [.con aa,.con tI,.var tI],[.cells [.con tI,.con tI,.con ac,.con aa,.con af,.con ab,.con aa],.cells [.con tI,.con tI,.nils,.nils,.nils,.nils,.nils],.cells [.omp 5],.cells [.omp 6],.cells [.nilfn,.fn 127 [(2,0),(0,0)],.fn 127 [(2,0),(0,0)],.fn 128 [(3,0),(0,0),(2,0)]],.mapv tI .bool,.mapv tI .bool]⟩,exits:=[(.exit 0,⟨130,.any::.any::.con aa::.box 0 0::.any::.any::.box 1 0::.box 2 0::.box 3 0::.any::.box 4 0::aN 19 [.con aa,.con tI],[.cells [.con tI,.con tI,.con ac,.con aa,.con af,.con ab,.con aa],.cells [.con tI,.con tI,.nils,.nils,.nils,.nils,.nils],.cells [.omp 5],.cells [.omp 6],.cells [.nilfn,.fn 127 [(2,0),(0,0)],.fn 127 [(2,0),(0,0)],.fn 128 [(3,0),(0,0),(2,0)]],.mapv tI .bool,.mapv tI .bool]⟩,[ak,ak])]}
noncomputable def Kc (ρ:Type):Û ρ:=⟨[],62,0,ZW,fun(p:Val (.pair aa (.pair aa (.pair tI (.pair tI (.pair tI (.pair ac (.pair aa (.pair af (.pair ab aY)))))))))) (v:Val (.pair tI (.pair ak ak))) kn kx=>zw p.2.1 p.2.2.1 p.2.2.2.2.2.1 p.2.2.2.2.2.2.2.2.1 v.1 v.2.1 v.2.2 (fun u0 u1 u2=>kn (u0,u1,u2)) (kx 0)⟩
noncomputable def ZU:È:={pin:=0,cs:=[aa,aa,tI,tI,tI,ac,aa,af,ab,aa,tI,tI,ak],vs:=[tI,ak],head:=⟨130,.any::.any::.con aa::.box 0 0::.any::.any::.box 1 0::.box 2 0::.box 3 0::aN 34 [.con aa,.con tI,.var tI],[.cells [.con tI,.con tI,.con ac,.con aa,.con af,.con ab,.con aa],.cells [.con tI,.con tI,.nils,.nils,.nils,.nils,.nils],.cells [.omp 4],.cells [.omp 5],.mapv tI .bool,.mapc tI .bool]⟩,exits:=[(.exit 2,⟨130,.any::.any::.con aa::.box 0 0::.any::.any::.box 1 0::.box 2 0::.box 3 0::aN 34 [.con aa,.con tI],[.cells [.con tI,.con tI,.con ac,.con aa,.con af,.con ab,.con aa],.cells [.con tI,.con tI,.nils,.nils,.nils,.nils,.nils],.cells [.omp 4],.cells [.omp 5],.mapv tI .bool,.mapc tI .bool]⟩,[ak])]}
noncomputable def Ka (ρ:Type):Û ρ:=⟨[],62,2,ZU,fun(p:Val (.pair aa (.pair aa (.pair tI (.pair tI (.pair tI (.pair ac (.pair aa (.pair af (.pair ab (.pair aa (.pair tI (.pair tI ak))))))))))))) (v:Val (.pair tI ak)) kn kx=>sn p.2.1 p.2.2.1 v.1 v.2 (fun u0 u1=>kn (u0,u1)) (kx 0)⟩
noncomputable def ZT:È:={pin:=0,cs:=[aa,tI,tI,tI,ac,aa,af,ab,aa,tI,tI,ac,aa,af,ab,aa,tI,tI,aa,ak,ak,ac],vs:=[tI,aa],head:=⟨130,.any::.any::.any::.box 0 0::.any::.any::.box 1 0::.box 2 0::.box 3 0::aN 6 (.box 4 0::aN 52 [.con aa,.con tI,.var tI]),[.cells [.con tI,.con tI,.con ac,.con aa,.con af,.con ab,.con aa],.cells [.con tI,.con tI,.con ac,.con aa,.con af,.con ab,.con aa],.cells [.omp 5],.cells [.omp 6],.cells [.con tI,.con tI,.own 7,.own 8,.nils,.nils,.con aa],.mapc tI .bool,.mapc tI .bool,.rowc Ð,.rowv Â]⟩,exits:=[(.exit 6,⟨130,.any::.any::.any::.box 0 0::.any::.any::.box 1 0::.box 2 0::.box 3 0::aN 6 (.box 4 0::aN 52 [.con aa,.con tI]),[.cells [.con tI,.con tI,.con ac,.con aa,.con af,.con ab,.con aa],.cells [.con tI,.con tI,.con ac,.con aa,.con af,.con ab,.con aa],.cells [.omp 5],.cells [.omp 6],.cells [.con tI,.con tI,.own 7,.own 8,.nils,.nils,.con aa],.mapc tI .bool,.mapc tI .bool,.rowc Ð,.rowv Â]⟩,[aa])]}
noncomputable def qt (ρ:Type):Û ρ:=⟨[],62,6,ZT,fun(p:Val (.pair aa (.pair tI (.pair tI (.pair tI (.pair ac (.pair aa (.pair af (.pair ab (.pair aa (.pair tI (.pair tI (.pair ac (.pair aa (.pair af (.pair ab (.pair aa (.pair tI (.pair tI (.pair aa (.pair ak (.pair ak ac)))))))))))))))))))))) (v:Val aF) kn kx=>sm p.1 p.2.1 p.2.2.2.2.2.2.2.2.2.2.2.2.2.2.2.2.2.2.2.1 v.1 v.2 (fun u0 u1=>kn (u0,u1)) (kx 0)⟩
noncomputable def ZS:È:={pin:=0,cs:=[af,tI,tI,tI,ac,aa,af,ab,aa,tI,tI,ac,aa,af,ab,aa,tI,tI,aa,ak,ak,ac,aa],vs:=[tI,af],head:=⟨130,.any::.any::.any::.box 0 0::.any::.any::.box 1 0::.box 2 0::.box 3 0::aN 6 (.box 4 0::aN 70 [.con af,.con tI,.var tI]),[.cells [.con tI,.con tI,.con ac,.con aa,.con af,.con ab,.con aa],.cells [.con tI,.con tI,.con ac,.con aa,.con af,.con ab,.con aa],.cells [.omp 5],.cells [.omp 6],.cells [.con tI,.con tI,.own 7,.own 8,.own 9,.nils,.con aa],.mapc tI .bool,.mapc tI .bool,.rowc Ð,.rowc Â,.rowv ņ]⟩,exits:=[(.exit 8,⟨130,.any::.any::.any::.box 0 0::.any::.any::.box 1 0::.box 2 0::.box 3 0::aN 6 (.box 4 0::aN 70 [.con af,.con tI]),[.cells [.con tI,.con tI,.con ac,.con aa,.con af,.con ab,.con aa],.cells [.con tI,.con tI,.con ac,.con aa,.con af,.con ab,.con aa],.cells [.omp 5],.cells [.omp 6],.cells [.con tI,.con tI,.own 7,.own 8,.own 9,.nils,.con aa],.mapc tI .bool,.mapc tI .bool,.rowc Ð,.rowc Â,.rowv ņ]⟩,[af])]}
noncomputable def qr (ρ:Type):Û ρ:=⟨[],62,8,ZS,fun(p:Val (.pair af (.pair tI (.pair tI (.pair tI (.pair ac (.pair aa (.pair af (.pair ab (.pair aa (.pair tI (.pair tI (.pair ac (.pair aa (.pair af (.pair ab (.pair aa (.pair tI (.pair tI (.pair aa (.pair ak (.pair ak (.pair ac aa))))))))))))))))))))))) (v:Val (.pair tI af)) kn kx=>sl p.1 p.2.1 p.2.2.2.2.2.2.2.2.2.2.2.2.2.2.2.2.2.2.2.1 v.1 v.2 (fun u0 u1=>kn (u0,u1)) (kx 0)⟩
noncomputable def ZR:È:={pin:=0,cs:=[ab,tI,tI,tI,ac,aa,af,ab,aa,tI,tI,aa,ak,ac,aa,af],vs:=[tI,ab],head:=⟨130,aN 6 (.box 0 0::.any::.box 1 0::aN 6 (.box 2 0::aN 88 [.con ab,.con tI,.var tI])),[.cells [.con tI,.con tI,.con ac,.con aa,.con af,.con ab,.con aa],.cells [.omp 3],.cells [.con tI,.con tI,.own 4,.own 5,.own 6,.own 7,.con aa],.mapc tI .bool,.rowc Ð,.rowc Â,.rowc ņ,.rowv Ì]⟩,exits:=[(.exit 10,⟨130,aN 6 (.box 0 0::.any::.box 1 0::aN 6 (.box 2 0::aN 88 [.con ab,.con tI])),[.cells [.con tI,.con tI,.con ac,.con aa,.con af,.con ab,.con aa],.cells [.omp 3],.cells [.con tI,.con tI,.own 4,.own 5,.own 6,.own 7,.con aa],.mapc tI .bool,.rowc Ð,.rowc Â,.rowc ņ,.rowv Ì]⟩,[ab])]}
noncomputable def qq (ρ:Type):Û ρ:=⟨[],62,10,ZR,fun(p:Val (.pair ab (.pair tI (.pair tI (.pair tI (.pair ac (.pair aa (.pair af (.pair ab (.pair aa (.pair tI (.pair tI (.pair aa (.pair ak (.pair ac (.pair aa af)))))))))))))))) (v:Val (.pair tI ab)) kn kx=>sk p.1 p.2.1 p.2.2.2.2.2.2.2.2.2.2.2.2.1 v.1 v.2 (fun u0 u1=>kn (u0,u1)) (kx 0)⟩
noncomputable def Ik:List (Nat×Ø):=[(81,Ś)]
noncomputable def CQ (ρ:Type):List (Û ρ):=[Kb ρ,Kc ρ,Ka ρ,qt ρ,qr ρ,qq ρ]
noncomputable def ų (ρ:Type):Env ρ:=Ù Ik (CQ ρ)
noncomputable def sj:Tpl:=⟨130,.any::.any::.any::.box 0 0::.any::.any::.box 1 0::.box 2 0::.box 3 0::aN 6 (.box 4 0::aN 43 [.fn 186 [(5,0),(6,0)]]),[.cells [.var tI,.var tI,.var ac,.var aa,.var af,.var ab,.var aa],.cells [.var tI,.var tI,.var ac,.var aa,.var af,.var ab,.var aa],.cells [.omp 7],.cells [.omp 8],.cells [.con tI,.con tI,.own 9,.nils,.nils,.nils,.con aa],.cells [.var tI,.var tI,.var ac,.var aa,.var af,.var ab,.var aa],.cells [.omp 7],.mapv tI .bool,.mapv tI .bool,.rowv Ð]⟩
noncomputable def OJ:Tpl:=⟨130,.any::.any::.any::.box 0 0::.any::.any::.box 1 0::.box 2 0::.box 3 0::aN 6 (.box 4 0::.box 10 0::aN 42 [.fn 186 [(5,0),(6,0)]]),[.cells [.var tI,.var tI,.var ac,.var aa,.var af,.var ab,.var aa],.cells [.var tI,.var tI,.var ac,.var aa,.var af,.var ab,.var aa],.cells [.omp 7],.cells [.omp 8],.cells [.con tI,.con tI,.own 9,.nils,.nils,.nils,.con aa],.cells [.var tI,.var tI,.var ac,.var aa,.var af,.var ab,.var aa],.cells [.omp 7],.mapv tI .bool,.mapv tI .bool,.rowv Ð,.cells [.var tI,.var tI,.var tI,.var tI,.var tI,.var tI,.var tI,.var tI]]⟩
noncomputable def qo (ρ:Type):List (Û ρ):=[qt ρ,qr ρ,qq ρ]
noncomputable def ę (ρ:Type):Env ρ:={Ù Ik (qo ρ) with inl:=fun _=>false}
noncomputable def o9:Tpl:=⟨130,aN 6 [.box 0 0],[.cells [.var tI,.var tI,.var ac,.var aa,.var af,.var ab,.var aa]]⟩
abbrev jb:List Ty:=[tI,tI,ac,aa,af,ab,aa]
noncomputable def j5 (y:Val Ä):Val ai:=(y.1.1,y.1.2,y.2.1,y.2.2.1,y.2.2.2.1,y.2.2.2.2.1,y.2.2.2.2.2)
noncomputable def ĝ:Code:=(qS Tryz.prog 62).getD .skip
abbrev iy:List Ty:=[tI,tI,aa]
abbrev lS:List Ty:=[tI,tI,ac,aa,af,ab,aa,tI,tI,ac,aa,af,ab,aa,tI,tI,ac,aa,af,ab,aa,ak,ak,ac]
abbrev zu:List Ty:=[tI,tI,ac,aa,af,ab,aa,tI,tI,ac,aa,af,ab,aa,tI,tI,ac,aa,af,ab,aa,ak,ak,ac,tI,tI,tI,tI,tI,tI,tI,tI]
abbrev ñ (v:Val aj):List (Val Ð):=v.2.2.2.2.2.2.2.2.2.2.2.2.2.2.2.2.1
abbrev Ŝ (v:Val aj):List (Int×Bool):=v.2.2.2.2.2.2.2.2.2.2.2.2.2.2.2.2.2.2.2.2.2.1
abbrev uh (v:Val aj):List (Val Ð):=v.2.2.2.2.2.2.2.2.2.2.2.2.2.2.2.2.2.2.2.2.2.2.2
noncomputable def Ĝ (v:Val aj) (z:List (Val Ð)):Val aj:=(v.1,v.2.1,v.2.2.1,v.2.2.2.1,v.2.2.2.2.1,v.2.2.2.2.2.1,v.2.2.2.2.2.2.1,v.2.2.2.2.2.2.2.1,v.2.2.2.2.2.2.2.2.1,v.2.2.2.2.2.2.2.2.2.1,v.2.2.2.2.2.2.2.2.2.2.1,v.2.2.2.2.2.2.2.2.2.2.2.1,v.2.2.2.2.2.2.2.2.2.2.2.2.1,v.2.2.2.2.2.2.2.2.2.2.2.2.2.1,v.2.2.2.2.2.2.2.2.2.2.2.2.2.2.1,v.2.2.2.2.2.2.2.2.2.2.2.2.2.2.2.1,v.2.2.2.2.2.2.2.2.2.2.2.2.2.2.2.2.1,v.2.2.2.2.2.2.2.2.2.2.2.2.2.2.2.2.2.1,v.2.2.2.2.2.2.2.2.2.2.2.2.2.2.2.2.2.2.1,v.2.2.2.2.2.2.2.2.2.2.2.2.2.2.2.2.2.2.2.1,v.2.2.2.2.2.2.2.2.2.2.2.2.2.2.2.2.2.2.2.2.1,v.2.2.2.2.2.2.2.2.2.2.2.2.2.2.2.2.2.2.2.2.2.1,v.2.2.2.2.2.2.2.2.2.2.2.2.2.2.2.2.2.2.2.2.2.2.1,z)
noncomputable def CS (v:Val aj) (x:Val Ð):Val (.pair tI (.pair tI (.pair ac (.pair aa (.pair af (.pair ab (.pair aa (.pair tI (.pair tI (.pair ac (.pair aa (.pair af (.pair ab (.pair aa (.pair tI (.pair tI (.pair ac (.pair aa (.pair af (.pair ab (.pair aa (.pair ak (.pair ak (.pair ac Mc)))))))))))))))))))))))):=(v.1,v.2.1,v.2.2.1,v.2.2.2.1,v.2.2.2.2.1,v.2.2.2.2.2.1,v.2.2.2.2.2.2.1,v.2.2.2.2.2.2.2.1,v.2.2.2.2.2.2.2.2.1,v.2.2.2.2.2.2.2.2.2.1,v.2.2.2.2.2.2.2.2.2.2.1,v.2.2.2.2.2.2.2.2.2.2.2.1,v.2.2.2.2.2.2.2.2.2.2.2.2.1,v.2.2.2.2.2.2.2.2.2.2.2.2.2.1,v.2.2.2.2.2.2.2.2.2.2.2.2.2.2.1,v.2.2.2.2.2.2.2.2.2.2.2.2.2.2.2.1,v.2.2.2.2.2.2.2.2.2.2.2.2.2.2.2.2.1,v.2.2.2.2.2.2.2.2.2.2.2.2.2.2.2.2.2.1,v.2.2.2.2.2.2.2.2.2.2.2.2.2.2.2.2.2.2.1,v.2.2.2.2.2.2.2.2.2.2.2.2.2.2.2.2.2.2.2.1,v.2.2.2.2.2.2.2.2.2.2.2.2.2.2.2.2.2.2.2.2.1,v.2.2.2.2.2.2.2.2.2.2.2.2.2.2.2.2.2.2.2.2.2.1,v.2.2.2.2.2.2.2.2.2.2.2.2.2.2.2.2.2.2.2.2.2.2.1,v.2.2.2.2.2.2.2.2.2.2.2.2.2.2.2.2.2.2.2.2.2.2.2,x.1,x.2.1,x.2.2.1,x.2.2.2.1.1,x.2.2.2.1.2,x.2.2.2.2.1.1,x.2.2.2.2.1.2,x.2.2.2.2.2)
def rV:Ø:=⟨[Â,tI,tI],[.bool],fun(x:Val ã)=>Η x.1 x.2.1 x.2.2⟩
def WV:List (Nat×Ø):=[]
def BT (ρ:Type):List (Û ρ):=[]
def Ky (ρ:Type):Env ρ:=Ù WV (BT ρ)
def jX:Ø:=⟨[tI,tI,tI],[.bool],fun(x:Val Ą)=>Ě x.1 x.2.1 x.2.2⟩
def WJ:List (Nat×Ø):=[]
def BM (ρ:Type):List (Û ρ):=[]
def Kt (ρ:Type):Env ρ:=Ù WJ (BM ρ)
def D0:Ø:=⟨[tI],[.bool],fun(x:Val tI)=>m6 x⟩
def aas:List (Nat×Ø):=[(227,jX)]
def Gc (ρ:Type):List (Û ρ):=[]
def PK (ρ:Type):Env ρ:=Ù aas (Gc ρ)
def U1:Ø:=⟨[tI],[(.int .u64)],fun(x:Val tI)=>qP x⟩
def acO:List (Nat×Ø):=[]
def Kn (ρ:Type):List (Û ρ):=[]
def T0 (ρ:Type):Env ρ:=Ù acO (Kn ρ)
def acf:Ø:=⟨[(.int .u64),(.int .u64)],[(.int .u64)],fun(x:Val bf)=>Qg x.1 x.2⟩
def aac:È:={pin:=0,cs:=[],vs:=[(.int .u64),(.int .u64)],head:=⟨12,[.var (.int .u64),.var (.int .u64)],[]⟩,exits:=[(.exit 0,⟨12,[.var (.int .u64)],[]⟩,[(.int .u64)])]}
def Ko (ρ:Type):Û ρ:=⟨[],259,0,aac,fun(p:Unit) (v:Val bf) a b=>zz v.1 v.2 (fun c d=>a (c,d)) (b 0)⟩
def af2:List (Nat×Ø):=[]
def Pm (ρ:Type):List (Û ρ):=[Ko ρ]
def Pn (ρ:Type):Env ρ:=Ù af2 (Pm ρ)
def DW:Ø:=⟨[Â],[.bool],fun(x:Val Â)=>tk x⟩
def aaf:List (Nat×Ø):=[(258,U1),(259,acf)]
def FR (ρ:Type):List (Û ρ):=[]
def Pq (ρ:Type):Env ρ:=Ù aaf (FR ρ)
def No:Ø:=⟨[Ð],[.bool],fun(x:Val Ð)=>vx x⟩
def SE:List (Nat×Ø):=[(131,rV),(189,D0),(226,DW),(227,jX)]
def yA (ρ:Type):List (Û ρ):=[]
def Gb (ρ:Type):Env ρ:=Ù SE (yA ρ)
def wU:Ø:=⟨[Ä],[tI],fun(x:Val Ä)=>Ŷ x⟩
def As:È:={pin:=0,cs:=[ac,tI,tI,tI,ac,aa,af,ab,aa],vs:=[tI],head:=⟨31,.any::.box 0 0::aN 4 [.con ac,.con tI,.var tI],[bi]⟩,exits:=[(.ret,⟨31,[.any,.box 0 0,.var tI,.any,.any,.any,.con ac,.con tI],[bi]⟩,[tI]),(.exit 0,⟨31,.any::.box 0 0::aN 4 [.con ac,.con tI],[bi]⟩,[])]}
def nz (ρ:Type):Û ρ:=⟨[],132,0,As,fun(p:Val (.pair ac aC)) (v:Val tI) b a=>iG p.1 p.2.1 p.2.2.2.2.1 v (fun c=>b c) (a 0) (a 1)⟩
def Gg:List (Nat×Ø):=[(187,No)]
def pf (ρ:Type):List (Û ρ):=[nz ρ]
def lT (ρ:Type):Env ρ:=Ù Gg (pf ρ)
def Cn:Ø:=⟨[Ä],[aq],fun(x:Val Ä)=>Ω x⟩
def LV:È:={pin:=0,cs:=[ac,tI],vs:=[tI,aq],head:=⟨20,aN 3 (.omp 0::aN 4 [.con ac,.con tI,.var tI]),[.mapv tI Ð]⟩,exits:=[(.exit 0,⟨20,aN 3 (.omp 0::aN 4 [.con ac,.con tI]),[.mapv tI Ð]⟩,[aq])]}
def wo (ρ:Type):Û ρ:=⟨[],133,0,LV,fun(p:Val (.pair ac tI)) (v:Val (.pair tI aq)) a b=>ml p.1 p.2 v.1 v.2 (fun c d=>a (c,d)) (b 0)⟩
def Ss:List (Nat×Ø):=[]
def yr (ρ:Type):List (Û ρ):=[wo ρ]
def uG (ρ:Type):Env ρ:=Ù Ss (yr ρ)
def rP:Ø:=⟨[ae,tI],[tI],fun(x:Val aE)=>jf x.1 x.2⟩
def wx:È:={pin:=0,cs:=[ae,tI,tI],vs:=[tI],head:=⟨19,.con ae::.con tI::aN 5 [.con tI,.var tI],[]⟩,exits:=[(.ret,⟨19,[.con ae,.con tI,.any,.any,.var tI,.any,.any,.con tI],[]⟩,[tI]),(.exit 0,⟨19,.con ae::.con tI::aN 5 [.con tI],[]⟩,[])]}
def lq (ρ:Type):Û ρ:=⟨[],78,0,wx,fun(p:Val (.pair ae Â)) (v:Val tI) b a=>π p.1 p.2.1 p.2.2 v (fun c=>b c) (a 0) (a 1)⟩
def Aj:List (Nat×Ø):=[]
def mA (ρ:Type):List (Û ρ):=[lq ρ]
def jM (ρ:Type):Env ρ:=Ù Aj (mA ρ)
def jm:Ø:=⟨[ae,tI],[.bool],fun(x:Val aE)=>Ģ x.1 x.2⟩
def tQ:List (Nat×Ø):=[(78,rP)]
def j3 (ρ:Type):List (Û ρ):=[]
def lr (ρ:Type):Env ρ:=Ù tQ (j3 ρ)
def U5:Ø:=⟨[Ä,Ð],[ae],fun(x:Val (.pair Ä Ð))=>og x.1 x.2⟩
def WZ:È:={pin:=0,cs:=[ab,tI,tI,tI,ac,aa,af,ab,aa,tI,tI,tI,tI,tI,tI,tI,tI],vs:=[tI,ae],head:=⟨59,aN 2 (.box 0 0::.box 1 0::.any::.own 2::aN 8 [.con ab,.con tI,.var tI]),[bi,bj,.rowv tI]⟩,exits:=[(.exit 0,⟨59,aN 2 (.box 0 0::.box 1 0::.any::.own 2::aN 8 [.con ab,.con tI]),[bi,bj,.rowv tI]⟩,[ae])]}
def Gf (ρ:Type):Û ρ:=⟨[],194,0,WZ,fun(p:Val (.pair ab aA)) (v:Val ay) a b=>uR p.1 p.2.1 p.2.2.2.2.2.2.2.2.2.1 v.1 v.2 (fun c d=>a (c,d)) (b 0)⟩
def WY:È:={pin:=0,cs:=[aa,tI,tI,tI,tI,tI,tI,tI,tI,tI],vs:=[tI,ae],head:=⟨59,aN 3 (.box 0 0::.any::.own 1::aN 32 [.con aa,.con tI,.var tI]),bS⟩,exits:=[(.exit 2,⟨59,aN 3 (.box 0 0::.any::.own 1::aN 32 [.con aa,.con tI]),bS⟩,[ae])]}
def Ge (ρ:Type):Û ρ:=⟨[],194,2,WY,fun(p:Val (.pair aa aZ)) (v:Val ay) a b=>uQ p.1 p.2.1 p.2.2.1 v.1 v.2 (fun c d=>a (c,d)) (b 0)⟩
def ac2:List (Nat×Ø):=[(121,jm)]
def KA (ρ:Type):List (Û ρ):=[Gf ρ,Ge ρ]
def zC (ρ:Type):Env ρ:=Ù ac2 (KA ρ)
def DZ:Ø:=⟨[Ä],[aa],fun(x:Val Ä)=>pB x⟩
def BO:È:={pin:=0,cs:=[ac,tI,tI,ae,tI,tI,tI,ac,aa,af,ab,aa,tI,tI,tI,tI,tI,tI,tI,tI],vs:=[tI,aa],head:=⟨33,.any::.box 0 0::.any::.own 1::.any::.box 2 0::aN 3 (.con ac::.con tI::.con tI::aN 5 [.con ae,.con tI,.var tI]),[bi,.rowv Â,bj]⟩,exits:=[(.exit 2,⟨33,.any::.box 0 0::.any::.own 1::.any::.box 2 0::aN 3 (.con ac::.con tI::.con tI::aN 5 [.con ae,.con tI]),[bi,.rowv Â,bj]⟩,[aa])]}
def BN (ρ:Type):Û ρ:=⟨[],135,2,BO,fun(p:Val (tyL BO.cs)) (v:Val aF) a b=>qG p.2.2.2.1 p.2.2.2.2.1 p.2.2.2.2.2.2.2.2.2.2.2.2.1 v.1 v.2 (fun c d=>a (c,d)) (b 0)⟩
def Sv:È:={pin:=0,cs:=[ac,tI,tI,tI,ac,aa,af,ab,aa],vs:=[tI,aa],head:=⟨33,.any::.box 0 0::.any::.own 1::aN 5 [.con ac,.con tI,.var tI],[bi,.rowv Â]⟩,exits:=[(.exit 0,⟨33,.any::.box 0 0::.any::.own 1::aN 5 [.con ac,.con tI],[bi,.rowv Â]⟩,[aa])]}
def BP (ρ:Type):Û ρ:=⟨[],135,0,Sv,fun(p:Val (.pair ac aC)) (v:Val aF) a b=>let A:=p.2.2.2.2;qH p.1 p.2.1 p.2.2.1 p.2.2.2.1 A.1 A.2.1 A.2.2.1 A.2.2.2.1 A.2.2.2.2 v.1 v.2 (fun c d=>a (c,d)) (b 0)⟩
def aao:List (Nat×Ø):=[(194,U5)]
def FY (ρ:Type):List (Û ρ):=[BN ρ,BP ρ]
def uJ (ρ:Type):Env ρ:=Ù aao (FY ρ)
def mc:Ø:=⟨[aq,tI,tI],[tI],fun(x:Val (.pair aq Â))=>iz x.1 x.2.1 x.2.2⟩
def IL:List (Nat×Ø):=[]
def qF (ρ:Type):List (Û ρ):=[]
def wp (ρ:Type):Env ρ:=Ù IL (qF ρ)
def ach:Ø:=⟨[tI,tI,(.ptr aq)],[tI],fun(x:Val (.pair tI (.pair tI (.ptr aq))))=>ļ x.1 x.2.1 x.2.2⟩
def Su:List (Nat×Ø):=[(189,D0),(190,mc)]
def yw (ρ:Type):List (Û ρ):=[]
def FX (ρ:Type):Env ρ:=Ù Su (yw ρ)
def U6:Ø:=⟨[Ä,aq,tI],[tI],fun(x:Val bh)=>Ν x.1 x.2.1 x.2.2⟩
def qL:È:={pin:=2,cs:=[af,tI,tI,tI,ac,aa,af,ab,aa,tI,tI,tI,tI],vs:=[tI],head:=⟨19,.con af::.fn 228 [(1,0)]::aN 5 [.con tI,.var tI],bT⟩,exits:=[(.ret,⟨19,[.con af,.fn 228 [(1,0)],.any,.any,.var tI,.any,.any,.con tI],bT⟩,[tI]),(.exit 0,⟨19,.con af::.fn 228 [(1,0)]::aN 5 [.con tI],bT⟩,[])]}
def qK (ρ:Type):Û ρ:=⟨[9,5,1,2],251,0,qL,fun(p:Val (tyL qL.cs)) (v:Val tI) b a=>let A:=p.2.2.2.2.2.2.2.2.2;jH p.1 p.2.1 A.1 A.2.1 A.2.2.1 v (fun c=>b c) (a 0) (a 1)⟩
def qJ:È:={pin:=2,cs:=[aa,tI,tI,tI,ac,aa,af,ab,aa,tI,tI,tI,tI],vs:=[tI],head:=⟨19,.con aa::.fn 229 [(1,0)]::aN 5 [.con tI,.var tI],bT⟩,exits:=[(.ret,⟨19,[.con aa,.fn 229 [(1,0)],.any,.any,.var tI,.any,.any,.con tI],bT⟩,[tI]),(.exit 0,⟨19,.con aa::.fn 229 [(1,0)]::aN 5 [.con tI],bT⟩,[])]}
def qI (ρ:Type):Û ρ:=⟨[9,10,1,2],249,0,qJ,fun(p:Val (tyL qJ.cs)) (v:Val tI) b a=>let A:=p.2.2.2.2.2.2.2.2.2;Ζ p.1 p.2.1 A.1 A.2.1 A.2.2.1 v (fun c=>b c) (a 0) (a 1)⟩
def L1:List (Nat×Ø):=[(131,rV),(190,mc),(227,jX)]
def sS (ρ:Type):List (Û ρ):=[qK ρ,qI ρ]
def kK (ρ:Type):Env ρ:=Ù L1 (sS ρ)
def zp:Ø:=⟨[ae,ae],[ae],fun(x:Val ba)=>ŧ x.1 x.2⟩
def WR:È:={pin:=2,cs:=[tI,ae,ae],vs:=[tI],head:=⟨19,.own 1::.fn 237 [(0,0)]::aN 5 [.con tI,.var tI],[bn,.rowc tI]⟩,exits:=[(.ret,⟨19,[.own 1,.fn 237 [(0,0)],.any,.any,.var tI,.any,.any,.con tI],[bn,.rowc tI]⟩,[tI]),(.exit 0,⟨19,.own 1::.fn 237 [(0,0)]::aN 5 [.con tI],[bn,.rowc tI]⟩,[])]}
def Ga (ρ:Type):Û ρ:=⟨[1,3,1,2],155,0,WR,fun(p:Val (.pair tI ba)) (v:Val tI) b a=>uP p.1 p.2.1 p.2.2 v (fun c=>b c) (a 0) (a 1)⟩
def WQ:È:={pin:=2,cs:=[ae],vs:=[tI,tI,ae],head:=⟨42,[.own 1,.fn 237 [(0,0)],.any,.any,.any,.var tI,.var tI],[bn,.rowv tI]⟩,exits:=[(.exit 0,⟨42,[.own 1,.fn 237 [(0,0)],.any,.any,.any,.var tI],[bn,.rowv tI]⟩,[tI,ae])]}
def F9 (ρ:Type):Û ρ:=⟨[1,3],236,0,WQ,fun(p:Val ae) (v:Val (.pair tI ay)) a b=>jT p v.1 v.2.1 v.2.2 (fun c d e=>a (c,d,e)) (b 0)⟩
def ac1:List (Nat×Ø):=[(121,jm)]
def Kx (ρ:Type):List (Û ρ):=[Ga ρ,F9 ρ]
def zB (ρ:Type):Env ρ:=Ù ac1 (Kx ρ)
def HF:Ø:=⟨[ae],[.bool],fun(x:Val ae)=>l5 x⟩
def PI:È:={pin:=0,cs:=[ae,ae,tI],vs:=[tI],head:=⟨32,.con ae::aN 4 [.con ae,.con tI,.var tI],[]⟩,exits:=[(.ret,⟨32,[.con ae,.any,.var .bool,.any,.any,.con ae,.con tI],[]⟩,[.bool]),(.exit 0,⟨32,.con ae::aN 4 [.con ae,.con tI],[]⟩,[])]}
def yy (ρ:Type):Û ρ:=⟨[],204,0,PI,fun(p:Val (.pair ae aE)) (v:Val tI) b a=>nZ p.1 p.2.1 p.2.2 v (fun c=>b c) (a 0) (a 1)⟩
def WT:List (Nat×Ø):=[(227,jX)]
def BS (ρ:Type):List (Û ρ):=[yy ρ]
def yz (ρ:Type):Env ρ:=Ù WT (BS ρ)
def aez:Ø:=⟨[Ä,tI,tI],[ņ,.bool],fun(x:Val aD)=>zU x.1 x.2.1 x.2.2⟩
def Gi:È:={pin:=4,cs:=[af,tI,tI,tI,ac,aa,af,ab,aa,tI,tI,tI,tI,tI,tI],vs:=[tI],head:=⟨19,.con af::.fn 260 [(1,0),(2,0)]::aN 5 [.con tI,.var tI],[bi,bo,bo,bm]⟩,exits:=[(.ret,⟨19,[.con af,.fn 260 [(1,0),(2,0)],.any,.any,.var tI,.any,.any,.con tI],[bi,bo,bo,bm]⟩,[tI]),(.exit 0,⟨19,.con af::.fn 260 [(1,0),(2,0)]::aN 5 [.con tI],[bi,bo,bo,bm]⟩,[])]}
def Gh (ρ:Type):Û ρ:=⟨[1,3],251,0,Gi,fun(p:Val (tyL Gi.cs)) (v:Val tI) b a=>uT p.1 p.2.1 p.2.2.2.2.2.2.2.2.2.1 p.2.2.2.2.2.2.2.2.2.2.1 v (fun c=>b c) (a 0) (a 1)⟩
def ac3:List (Nat×Ø):=[(227,jX)]
def KB (ρ:Type):List (Û ρ):=[Gh ρ]
def IV (ρ:Type):Env ρ:=Ù ac3 (KB ρ)
def K6:Ø:=⟨[Ä,aq,tI],[tI],fun(x:Val bh)=>Ł x.1 x.2.1 x.2.2⟩
def mS:È:={pin:=2,cs:=[ab,tI,tI,tI,ac,aa,af,ab,aa,tI,tI,ae,ae,tI,tI,tI,tI],vs:=[tI],head:=⟨19,.con ab::.fn 230 [(1,0)]::aN 5 [.con tI,.var tI],[bi,bp]⟩,exits:=[(.ret,⟨19,[.con ab,.fn 230 [(1,0)],.any,.any,.var tI,.any,.any,.con tI],[bi,bp]⟩,[tI]),(.exit 0,⟨19,.con ab::.fn 230 [(1,0)]::aN 5 [.con tI],[bi,bp]⟩,[])]}
def mR (ρ:Type):Û ρ:=⟨[4,5,1,2],213,0,mS,fun(p:Val (tyL mS.cs)) (v:Val tI) b a=>g9 p.1 p.2.1 p.2.2.2.2.2.2.2.2.2.1 v (fun c=>b c) (a 0) (a 1)⟩
def mO:È:={pin:=0,cs:=[aq,ae,tI,tI,tI,ae,tI,tI,tI,ac,aa,af,ab,aa,tI,tI,ae,ae,tI,tI,tI,tI,ae],vs:=[tI],head:=⟨140,.any::.con aq::.any::.box 0 0::aN 3 (.box 1 0::.con ae::.any::.con tI::aN 65 [.own 2,.con tI,.con tI,.any,.any,.any,.con ae,.con tI,.var tI]),bU⟩,exits:=[(.ret,⟨140,.any::.con aq::.any::.box 0 0::aN 2 (.var tI::.box 1 0::.con ae::.any::.con tI::aN 65 [.own 2,.con tI,.con tI,.any,.any,.any,.con ae,.con tI]),bU⟩,[tI]),(.exit 2,⟨140,.any::.con aq::.any::.box 0 0::aN 3 (.box 1 0::.con ae::.any::.con tI::aN 65 [.own 2,.con tI,.con tI,.any,.any,.any,.con ae,.con tI]),bU⟩,[])]}
def mN (ρ:Type):Û ρ:=⟨[],193,2,mO,fun(p:Val (tyL mO.cs)) (v:Val tI) b a=>let A:=p.2.2.2.2.2;g8 p.1 p.2.2.1 A.1 A.2.1 A.2.2.2.2.2.2.2.2.2.2.1 v (fun c=>b c) (a 0) (a 1)⟩
def mQ:È:={pin:=0,cs:=[aq,ae,tI,tI,tI,ac,aa,af,ab,aa,tI,tI,ae,ae,tI,tI,tI,tI,ae],vs:=[tI],head:=⟨140,.any::.con aq::.any::.box 0 0::aN 3 (.box 1 0::.con ae::aN 67 [.own 2,.con tI,.var tI]),bU⟩,exits:=[(.ret,⟨140,.any::.con aq::.any::.box 0 0::aN 2 (.var tI::.box 1 0::.con ae::aN 67 [.own 2,.con tI]),bU⟩,[tI]),(.exit 0,⟨140,.any::.con aq::.any::.box 0 0::aN 3 (.box 1 0::.con ae::aN 67 [.own 2,.con tI]),bU⟩,[])]}
def mP (ρ:Type):Û ρ:=⟨[],193,0,mQ,fun(p:Val (tyL mQ.cs)) (v:Val tI) b a=>Ō p.1 p.2.1 p.2.2.1 p.2.2.2.2.2.2.2.2.2.2.2.1 p.2.2.2.2.2.2.2.2.2.2.2.2.2.2.2.2.2.2 v (fun c=>b c) (a 0) (a 1)⟩
def mM:È:={pin:=0,cs:=[ae,tI,tI,tI,ac,aa,af,ab,aa,tI,tI,ae,ae,tI,tI,tI,tI],vs:=[tI],head:=⟨140,aN 3 (.box 0 0::aN 3 (.box 1 0::aN 90 [.con ae,.con tI,.var tI])),[bi,bp]⟩,exits:=[(.ret,⟨140,aN 3 (.box 0 0::aN 2 (.var tI::.box 1 0::aN 90 [.con ae,.con tI])),[bi,bp]⟩,[tI]),(.exit 4,⟨140,aN 3 (.box 0 0::aN 3 (.box 1 0::aN 90 [.con ae,.con tI])),[bi,bp]⟩,[])]}
def mL (ρ:Type):Û ρ:=⟨[],193,4,mM,fun(p:Val (tyL mM.cs)) (v:Val tI) b a=>let A:=p.2.2.2.2;ŋ p.1 p.2.1 p.2.2.1 p.2.2.2.1 A.1 A.2.1 A.2.2.1 A.2.2.2.1 A.2.2.2.2.1 A.2.2.2.2.2.2.1 v (fun c=>b c) (a 0) (a 1)⟩
def Dc:List (Nat×Ø):=[(81,Ś),(131,rV),(189,D0),(190,mc),(199,zp),(204,HF),(227,jX),(231,aez)]
def nA (ρ:Type):List (Û ρ):=[mR ρ,mN ρ,mP ρ,mL ρ]
def ŝ (ρ:Type):Env ρ:=Ù Dc (nA ρ)
def œ:Ø:=⟨[Ä],[tI],fun(x:Val Ä)=>û x⟩
def Tl:Ø:=⟨[Ì],[.bool],fun(x:Val Ì)=>zI x⟩
def Vn:List (Nat×Ø):=[]
def AM (ρ:Type):List (Û ρ):=[]
def JN (ρ:Type):Env ρ:=Ù Vn (AM ρ)
def aep:Ø:=⟨[Ä],[.bool],fun(x:Val Ä)=>MB x⟩
def Vl:È:={pin:=0,cs:=[tI,tI,ac,aa,af,ab,aa],vs:=[tI],head:=⟨50,[.any,.box 0 0,.any,.var tI],[bi]⟩,exits:=[(.ret,⟨50,[.any,.box 0 0,.var .bool],[bi]⟩,[.bool]),(.exit 0,⟨50,[.any,.box 0 0],[bi]⟩,[])]}
def Eb (ρ:Type):Û ρ:=⟨[],10,0,Vl,fun(p:Val ai) (v:Val tI) b a=>tO p.2.2.2.2.2.1 v (fun c=>b c) (a 0) (a 1)⟩
def acn:List (Nat×Ø):=[(30,Tl)]
def JM (ρ:Type):List (Û ρ):=[Eb ρ]
def HL (ρ:Type):Env ρ:=Ù acn (JM ρ)
def ů:Ø:=⟨[aa,Â],[tI],fun(x:Val aY)=>ú x.1 x.2⟩
def ld:È:={pin:=0,cs:=[aa,tI,tI,tI],vs:=[tI],head:=⟨19,[.con aa,.any,.any,.box 0 0,.any,.any,.any,.con tI,.var tI],[bq]⟩,exits:=[(.ret,⟨19,[.con aa,.any,.any,.box 0 0,.var tI,.any,.any,.con tI],[bq]⟩,[tI]),(.exit 0,⟨19,[.con aa,.any,.any,.box 0 0,.any,.any,.any,.con tI],[bq]⟩,[])]}
def ι (ρ:Type):Û ρ:=⟨[],136,0,ld,fun(p:Val (.pair aa Ą)) (v:Val tI) b a=>Ĥ p.1 p.2.1 p.2.2.1 p.2.2.2 v (fun c=>b c) (a 0) (a 1)⟩
def mC:List (Nat×Ø):=[]
def χ (ρ:Type):List (Û ρ):=[ι ρ]
def Š (ρ:Type):Env ρ:=Ù mC (χ ρ)
def iM:Ø:=⟨[Ä,Â],[tI,tI],fun(x:Val aD)=>ŗ x.1 x.2⟩
def aaz:List (Nat×Ø):=[(66,œ),(135,DZ),(136,ů)]
def Gp (ρ:Type):List (Û ρ):=[]
def PP (ρ:Type):Env ρ:=Ù aaz (Gp ρ)
def iL:Ø:=⟨[ax,Â],[tI],fun(x:Val aR)=>ŵ x.1 x.2⟩
def RH:List (Nat×Ø):=[(67,iM)]
def xO (ρ:Type):List (Û ρ):=[]
def EK (ρ:Type):Env ρ:=Ù RH (xO ρ)
def mr:Ø:=⟨[Í,ak],[ae,.bool],fun(x:Val (.pair Í ak))=>iV x.1 x.2⟩
def sO:È:={pin:=2,cs:=[ak,ah,tI,tI,ah,ae,tI,ah,az,ae],vs:=[tI,tI],head:=⟨140,.any::.con ak::.own 1::.box 2 0::aN 3 (.box 3 0::.own 4::.own 5::.var tI::aN 14 [.con ah,.con tI,.var tI]),[br,.rowc tI,br,.cells [.nils],.rowc .bool,.rowc tI]⟩,exits:=[(.exit 0,⟨140,.any::.con ak::.own 1::.box 2 0::aN 3 (.box 3 0::.own 4::.own 5::.var tI::aN 14 [.con ah,.con tI]),[br,.rowc tI,br,.cells [.nils],.rowc .bool,.rowc tI]⟩,[tI])]}
def sN (ρ:Type):Û ρ:=⟨[2,3],183,0,sO,fun(p:Val (tyL sO.cs)) (v:Val Â) a b=>gH p.2.1 p.2.2.1 v.1 v.2 (fun c d=>a (c,d)) (b 0)⟩
def sM:È:={pin:=2,cs:=[ak,tI,tI,tI,ah,ae,tI,ah,ae],vs:=[tI,az,ae],head:=⟨140,.any::.con ak::.own 1::.box 2 0::aN 3 (.box 3 0::.own 4::.own 5::.con tI::aN 27 [.con tI,.var tI]),bV⟩,exits:=[(.exit 2,⟨140,.any::.con ak::.own 1::.box 2 0::aN 3 (.box 3 0::.own 4::.own 5::.con tI::aN 27 [.con tI]),bV⟩,[az,ae])]}
def sL (ρ:Type):Û ρ:=⟨[2,3],183,2,sM,fun(p:Val (tyL sM.cs)) (v:Val (.pair tI aJ)) a b=>ŕ p.2.2.1 p.2.2.2.2.2.1 v.1 v.2.1 v.2.2 (fun c d e=>a (c,d,e)) (b 0)⟩
def sI:È:={pin:=2,cs:=[ak,tI,tI,ah,tI,tI,ah,tI,ah,ae],vs:=[tI,ae,az,ae],head:=⟨140,.any::.con ak::.own 1::.box 2 0::aN 3 (.box 3 0::.own 4::.own 5::.con tI::aN 3 (.con tI::aN 62 [.con ah,.con tI,.var tI])),bW⟩,exits:=[(.ret,⟨140,.any::.con ak::.own 1::.box 2 0::aN 2 (.var .bool::.box 3 0::.own 4::.own 5::.con tI::aN 3 (.con tI::aN 62 [.con ah,.con tI])),bW⟩,[.bool,ae,az,ae]),(.exit 6,⟨140,.any::.con ak::.own 1::.box 2 0::aN 3 (.box 3 0::.own 4::.own 5::.con tI::aN 3 (.con tI::aN 62 [.con ah,.con tI])),bW⟩,[ae,az,ae])]}
def sH (ρ:Type):Û ρ:=⟨[2,3],183,6,sI,fun(p:Val (tyL sI.cs)) (v:Val (.pair tI (.pair ae aJ))) b a=>iP p.1 p.2.1 p.2.2.1 p.2.2.2.1 p.2.2.2.2.1 v.1 v.2.1 v.2.2.1 v.2.2.2 (fun c d e f=>b (c,d,e,f)) (a 0) (a 1)⟩
def sK:È:={pin:=2,cs:=[ak,tI,tI,ah,tI,ah],vs:=[ae,az,ae,ae],head:=⟨140,[.any,.con ak,.own 1,.box 2 0,.any,.any,.any,.box 3 0,.own 4,.own 5,.con tI],bX⟩,exits:=[(.ret,⟨140,[.any,.con ak,.own 1,.box 2 0,.any,.any,.var .bool,.box 3 0,.own 4,.own 5,.con tI],bX⟩,[.bool,ae,az,ae,ae])]}
def sJ (ρ:Type):Û ρ:=⟨[2,3],183,4,sK,fun(p:Val (tyL sK.cs)) (v:Val aK) a b=>Ħ p.1 p.2.1 p.2.2.2.2.1 p.2.2.2.2.2 v.1 v.2.1 v.2.2.1 v.2.2.2 (fun c d e f=>a (c,d,e,f)) (b 0)⟩
def IA:È:={pin:=0,cs:=[tI,tI],vs:=[tI,ae],head:=⟨34,aN 6 (.own 0::.con tI::aN 13 [.con tI,.var tI]),[.rowv tI]⟩,exits:=[(.exit 0,⟨34,aN 6 (.own 0::.con tI::aN 13 [.con tI]),[.rowv tI]⟩,[ae])]}
def sG (ρ:Type):Û ρ:=⟨[],117,0,IA,fun(p:Val Â) (v:Val ay) a b=>iO p.1 p.2 v.1 v.2 (fun c d=>a (c,d)) (b 0)⟩
def OX:List (Nat×Ø):=[]
def wg (ρ:Type):List (Û ρ):=[sN ρ,sL ρ,sH ρ,sJ ρ,sG ρ]
def Υ (ρ:Type):Env ρ:=Ù OX (wg ρ)
def Mk:Ø:=⟨[Í,tI],[.bool],fun(x:Val (.pair Í tI))=>qO x.1 x.2⟩
def acJ:List (Nat×Ø):=[]
def Kg (ρ:Type):List (Û ρ):=[]
def TS (ρ:Type):Env ρ:=Ù acJ (Kg ρ)
def rS:Ø:=⟨[Í],[tI,tI],fun(x:Val Í)=>mZ x⟩
def Sl:È:={pin:=0,cs:=[ah,tI,tI,ah],vs:=[tI],head:=⟨57,.any::.box 0 0::aN 17 [.con ah,.con tI,.var tI],[br]⟩,exits:=[(.ret,⟨57,.any::.box 0 0::.var tI::.var tI::aN 15 [.con ah,.con tI],[br]⟩,[tI,tI]),(.exit 0,⟨57,.any::.box 0 0::aN 17 [.con ah,.con tI],[br]⟩,[])]}
def BD (ρ:Type):Û ρ:=⟨[],138,0,Sl,fun(p:Val (.pair ah aH)) (v:Val tI) b a=>qx p.1 p.2.1 p.2.2.1 p.2.2.2 v (fun c=>b c) (a 0) (a 1)⟩
def Z7:List (Nat×Ø):=[(139,Mk)]
def FI (ρ:Type):List (Û ρ):=[BD ρ]
def C1 (ρ:Type):Env ρ:=Ù Z7 (FI ρ)
def YX:Ø:=⟨[Í,ae],[tI],fun(x:Val aV)=>GV x.1 x.2⟩
def Sj:È:={pin:=0,cs:=[ae,tI,tI,ah],vs:=[tI],head:=⟨37,aN 2 (.box 0 0::aN 16 [.con ae,.con tI,.var tI]),[br]⟩,exits:=[(.ret,⟨37,aN 2 (.box 0 0::.any::.var tI::aN 14 [.con ae,.con tI]),[br]⟩,[tI]),(.exit 0,⟨37,aN 2 (.box 0 0::aN 16 [.con ae,.con tI]),[br]⟩,[])]}
def Bt (ρ:Type):Û ρ:=⟨[],112,0,Sj,fun(p:Val (.pair ae aH)) (v:Val tI) b a=>qv p.1 p.2.1 p.2.2.1 p.2.2.2 v (fun c=>b c) (a 0) (a 1)⟩
def Z4:List (Nat×Ø):=[(117,mr),(138,rS),(139,Mk)]
def FE (ρ:Type):List (Û ρ):=[Bt ρ]
def C0 (ρ:Type):Env ρ:=Ù Z4 (FE ρ)
def Tz:Ø:=⟨[Í,ak,tI],[ae],fun(x:Val (.pair Í (.pair ak tI)))=>zS x.1 x.2.1 x.2.2⟩
def yp:È:={pin:=0,cs:=[ak,tI,tI,tI,ah],vs:=[tI,ae],head:=⟨29,.any::.con ak::.con tI::.box 0 0::aN 3 (.own 1::aN 5 [.con tI,.var tI]),[br,.rowv tI]⟩,exits:=[(.exit 0,⟨29,.any::.con ak::.con tI::.box 0 0::aN 3 (.own 1::aN 5 [.con tI]),[br,.rowv tI]⟩,[ae])]}
def yo (ρ:Type):Û ρ:=⟨[],120,0,yp,fun(p:Val (tyL yp.cs)) (v:Val ay) a b=>nY p.2.2.1 v.1 v.2 (fun c d=>a (c,d)) (b 0)⟩
def yn:È:={pin:=2,cs:=[ak,ah,tI,tI,ah,ae,tI,ah,az,ae],vs:=[tI,tI],head:=⟨140,.any::.con ak::.own 1::.box 2 0::aN 3 (.box 3 0::.own 4::.own 5::.var tI::aN 14 [.con ah,.con tI,.var tI]),[br,.rowc tI,br,.cells [.nils],.rowc .bool,.rowc tI]⟩,exits:=[(.exit 0,⟨140,.any::.con ak::.own 1::.box 2 0::aN 3 (.box 3 0::.own 4::.own 5::.var tI::aN 14 [.con ah,.con tI]),[br,.rowc tI,br,.cells [.nils],.rowc .bool,.rowc tI]⟩,[tI])]}
def ym (ρ:Type):Û ρ:=⟨[8,3],183,0,yn,fun(p:Val (tyL yn.cs)) (v:Val Â) a b=>uE p.2.1 p.2.2.1 v.1 v.2 (fun c d=>a (c,d)) (b 0)⟩
def yl:È:={pin:=2,cs:=[ak,tI,tI,tI,ah,ae,tI,ah,ae],vs:=[tI,az,ae],head:=⟨140,.any::.con ak::.own 1::.box 2 0::aN 3 (.box 3 0::.own 4::.own 5::.con tI::aN 27 [.con tI,.var tI]),bV⟩,exits:=[(.exit 2,⟨140,.any::.con ak::.own 1::.box 2 0::aN 3 (.box 3 0::.own 4::.own 5::.con tI::aN 27 [.con tI]),bV⟩,[az,ae])]}
def yk (ρ:Type):Û ρ:=⟨[8,3],183,2,yl,fun(p:Val (tyL yl.cs)) (v:Val (.pair tI aJ)) a b=>uD p.2.2.1 p.2.2.2.2.2.1 v.1 v.2.1 v.2.2 (fun c d e=>a (c,d,e)) (b 0)⟩
def yh:È:={pin:=2,cs:=[ak,tI,tI,ah,tI,tI,ah,tI,ah,ae],vs:=[tI,ae,az,ae],head:=⟨140,.any::.con ak::.own 1::.box 2 0::aN 3 (.box 3 0::.own 4::.own 5::.con tI::aN 3 (.con tI::aN 62 [.con ah,.con tI,.var tI])),bW⟩,exits:=[(.ret,⟨140,.any::.con ak::.own 1::.box 2 0::aN 2 (.var .bool::.box 3 0::.own 4::.own 5::.con tI::aN 3 (.con tI::aN 62 [.con ah,.con tI])),bW⟩,[.bool,ae,az,ae]),(.exit 6,⟨140,.any::.con ak::.own 1::.box 2 0::aN 3 (.box 3 0::.own 4::.own 5::.con tI::aN 3 (.con tI::aN 62 [.con ah,.con tI])),bW⟩,[ae,az,ae])]}
def yg (ρ:Type):Û ρ:=⟨[8,3],183,6,yh,fun(p:Val (tyL yh.cs)) (v:Val (.pair tI (.pair ae aJ))) b a=>FD p.1 p.2.1 p.2.2.1 p.2.2.2.1 p.2.2.2.2.1 v.1 v.2.1 v.2.2.1 v.2.2.2 (fun c d e f=>b (c,d,e,f)) (a 0) (a 1)⟩
def yj:È:={pin:=2,cs:=[ak,tI,tI,ah,tI,ah],vs:=[ae,az,ae,ae],head:=⟨140,[.any,.con ak,.own 1,.box 2 0,.any,.any,.any,.box 3 0,.own 4,.own 5,.con tI],bX⟩,exits:=[(.ret,⟨140,[.any,.con ak,.own 1,.box 2 0,.any,.any,.var .bool,.box 3 0,.own 4,.own 5,.con tI],bX⟩,[.bool,ae,az,ae,ae])]}
def yi (ρ:Type):Û ρ:=⟨[8,3],183,4,yj,fun(p:Val (tyL yj.cs)) (v:Val aK) a b=>uC p.1 p.2.1 p.2.2.2.2.1 p.2.2.2.2.2 v.1 v.2.1 v.2.2.1 v.2.2.2 (fun c d e f=>a (c,d,e,f)) (b 0)⟩
def Wt:List (Nat×Ø):=[]
def Bs (ρ:Type):List (Û ρ):=[yo ρ,ym ρ,yk ρ,yg ρ,yi ρ]
def iQ (ρ:Type):Env ρ:=Ù Wt (Bs ρ)
def wS:Ø:=⟨[Í,tI,tI],[tI,tI],fun(x:Val aP)=>m5 x.1 x.2.1 x.2.2⟩
def Z9:List (Nat×Ø):=[(112,YX),(120,Tz)]
def FM (ρ:Type):List (Û ρ):=[]
def Pg (ρ:Type):Env ρ:=Ù Z9 (FM ρ)
def jr:Ø:=⟨[ax,tI,tI],[tI],fun(x:Val aR)=>Ć x.1 x.2.1 x.2.2⟩
def If:List (Nat×Ø):=[(114,wS)]
def ql (ρ:Type):List (Û ρ):=[]
def vR (ρ:Type):Env ρ:=Ù If (ql ρ)
def qW:Ø:=⟨[ax,Â],[tI],fun(x:Val aR)=>Ψ x.1 x.2⟩
def Ie:List (Nat×Ø):=[(50,iL),(51,jr)]
def qk (ρ:Type):List (Û ρ):=[]
def vQ (ρ:Type):Env ρ:=Ù Ie (qk ρ)
def lG:Ø:=⟨[ax,Â],[tI],fun(x:Val aR)=>gL x.1 x.2⟩
def Aq:List (Nat×Ø):=[(50,iL),(51,jr)]
def mJ (ρ:Type):List (Û ρ):=[]
def oX (ρ:Type):Env ρ:=Ù Aq (mJ ρ)
def i5:Ø:=⟨[ax,Â],[Â],fun(x:Val aR)=>ū x.1 x.2⟩
def Ap:List (Nat×Ø):=[(64,qW),(65,lG)]
def mI (ρ:Type):List (Û ρ):=[]
def jQ (ρ:Type):Env ρ:={Ù Ap (mI ρ) with hint:=I7 [(12,64),(16,65)]}
def wT:Ø:=⟨[aU,ae,tI],[tI],fun(x:Val (.pair aU aE))=>gT x.1 x.2.1 x.2.2⟩
def PH:List (Nat×Ø):=[(136,ů)]
def wq (ρ:Type):List (Û ρ):=[]
def BQ (ρ:Type):Env ρ:=Ù PH (wq ρ)
def vK:Ø:=⟨[aq,ae],[Â],fun(x:Val (.pair aq ae))=>ix x.1 x.2⟩
def C6:List (Nat×Ø):=[]
def ny (ρ:Type):List (Û ρ):=[]
def qE (ρ:Type):Env ρ:=Ù C6 (ny ρ)
def rU:Ø:=⟨[aa],[tI],fun(x:Val aa)=>jB x⟩
def Sn:È:={pin:=0,cs:=[aa,tI],vs:=[tI],head:=⟨15,aN 5 [.con aa,.con tI,.var tI],[]⟩,exits:=[(.ret,⟨15,[.any,.any,.var tI,.any,.any,.con aa,.con tI],[]⟩,[tI]),(.exit 0,⟨15,aN 5 [.con aa,.con tI],[]⟩,[])]}
def BL (ρ:Type):Û ρ:=⟨[],266,0,Sn,fun(p:Val (.pair aa tI)) (v:Val tI) b a=>qC p.1 p.2 v (fun c=>b c) (a 0) (a 1)⟩
def aaa:List (Nat×Ø):=[(226,DW)]
def FN (ρ:Type):List (Û ρ):=[BL ρ]
def C2 (ρ:Type):Env ρ:=Ù aaa (FN ρ)
def Cm:Ø:=⟨[tI,tI],[Â,tI],fun(x:Val Â)=>pA x.1 x.2⟩
def Sq:List (Nat×Ø):=[(258,U1),(259,acf)]
def yq (ρ:Type):List (Û ρ):=[]
def FO (ρ:Type):Env ρ:=Ù Sq (yq ρ)
def ahF:Ø:=⟨[Â,Â],[Â,tI],fun(x:Val ã)=>Xt x.1 x.2⟩
def af4:List (Nat×Ø):=[(266,rU),(294,Cm)]
def Ps (ρ:Type):List (Û ρ):=[]
def aag (ρ:Type):Env ρ:=Ù af4 (Ps ρ)
def DY:Ø:=⟨[Â,Â],[Â],fun(x:Val ã)=>vw x.1 x.2⟩
def LX:List (Nat×Ø):=[(283,ahF)]
def sQ (ρ:Type):List (Û ρ):=[]
def yv (ρ:Type):Env ρ:=Ù LX (sQ ρ)
def acg:Ø:=⟨[Â,Â],[tI],fun(x:Val ã)=>Qh x.1 x.2⟩
def af3:List (Nat×Ø):=[]
def Pp (ρ:Type):List (Û ρ):=[]
def aae (ρ:Type):Env ρ:=Ù af3 (Pp ρ)
def AJ:Ø:=⟨[ã],[.bool],fun(x:Val ã)=>rE x⟩
def II:List (Nat×Ø):=[(266,rU),(300,acg)]
def qD (ρ:Type):List (Û ρ):=[]
def wn (ρ:Type):Env ρ:=Ù II (qD ρ)
def ahG:Ø:=⟨[Â,Â],[Â,tI],fun(x:Val ã)=>Qj x.1 x.2⟩
def af5:List (Nat×Ø):=[(266,rU),(294,Cm)]
def Pv (ρ:Type):List (Û ρ):=[]
def aai (ρ:Type):Env ρ:=Ù af5 (Pv ρ)
def Y1:Ø:=⟨[ã,Â],[ã,tI],fun(x:Val (.pair ã Â))=>Qi x.1 x.2⟩
def Kr:List (Nat×Ø):=[(226,DW),(295,AJ),(298,ahG),(300,acg)]
def uF (ρ:Type):List (Û ρ):=[]
def Kq:List akh:=[⟨[3,2],296,0,4⟩]
def aah (ρ:Type):Env ρ:=Ù Kr (uF ρ)
def C4 (ρ:Type):Env ρ:=amj Kr (uF ρ) Kq
def DX:Ø:=⟨[Â,Â],[ã],fun(x:Val ã)=>oe x.1 x.2⟩
def LW:List (Nat×Ø):=[(284,Y1)]
def sP (ρ:Type):List (Û ρ):=[]
def yu (ρ:Type):Env ρ:=Ù LW (sP ρ)
def HG:Ø:=⟨[Ä,Ì],[ã],fun(x:Val aB)=>oC x.1 x.2⟩
def WW:List (Nat×Ø):=[(133,Cn),(199,zp),(263,vK),(264,DY),(265,DX)]
def BU (ρ:Type):List (Û ρ):=[]
def Kz (ρ:Type):Env ρ:=Ù WW (BU ρ)
def Np:Ø:=⟨[Ä,Ì],[Â],fun(x:Val aB)=>tp x.1 x.2⟩
def aat:List (Nat×Ø):=[]
def Gd (ρ:Type):List (Û ρ):=[]
def PM (ρ:Type):Env ρ:=Ù aat (Gd ρ)
def Nl:Ø:=⟨[tI,tI],[tI],fun(x:Val Â)=>tj x.1 x.2⟩
def aad:List (Nat×Ø):=[]
def FP (ρ:Type):List (Û ρ):=[]
def Po (ρ:Type):Env ρ:=Ù aad (FP ρ)
def U2:Ø:=⟨[Â],[tI,tI],fun(x:Val Â)=>GW x⟩
def acX:List (Nat×Ø):=[(266,rU),(267,Nl)]
def Ks (ρ:Type):List (Û ρ):=[]
def T1 (ρ:Type):Env ρ:=Ù acX (Ks ρ)
def Nn:Ø:=⟨[Â],[tI,tI],fun(x:Val Â)=>yU x⟩
def aaj:List (Nat×Ø):=[(266,rU),(267,Nl)]
def FT (ρ:Type):List (Û ρ):=[]
def Pw (ρ:Type):Env ρ:=Ù aaj (FT ρ)
def U3:Ø:=⟨[Ä,Ì],[Â],fun(x:Val aB)=>vv x.1 x.2⟩
def acY:List (Nat×Ø):=[(238,HG),(239,Np),(240,U2),(241,Nn)]
def Ku (ρ:Type):List (Û ρ):=[]
def T2 (ρ:Type):Env ρ:=Ù acY (Ku ρ)
def aey:Ø:=⟨[Ä,Ð,tI,tI],[tI],fun(x:Val (.pair Ä (.pair Ð Â)))=>zT x.1 x.2.1 x.2.2.1 x.2.2.2⟩
def F8:È:={pin:=0,cs:=[tI,tI,af,tI,tI,tI,ac,aa,af,ab,aa,tI,tI,tI,tI,tI,tI,tI,tI],vs:=[tI,tI],head:=⟨88,aN 2 (.con tI::.con tI::.box 0 0::.box 1 0::aN 3 (.var tI::aN 7 [.con af,.con tI,.var tI])),[bi,bj]⟩,exits:=[(.exit 0,⟨88,aN 2 (.con tI::.con tI::.box 0 0::.box 1 0::aN 3 (.var tI::aN 7 [.con af,.con tI])),[bi,bj]⟩,[tI])]}
def F7 (ρ:Type):Û ρ:=⟨[],235,0,F8,fun(p:Val (tyL F8.cs)) (v:Val Â) a b=>uO p.1 p.2.1 p.2.2.1 p.2.2.2.1 p.2.2.2.2.2.2.2.2.2.2.2.1 v.1 v.2 (fun c d=>a (c,d)) (b 0)⟩
def F6:È:={pin:=0,cs:=[tI,tI,tI,aa,tI,tI,tI,tI,tI,tI,tI,tI,tI],vs:=[tI,ae],head:=⟨88,aN 2 (.con tI::.con tI::.any::.box 0 0::aN 3 (.con tI::aN 3 (.own 1::aN 39 [.con aa,.con tI,.var tI]))),bS⟩,exits:=[(.exit 2,⟨88,aN 2 (.con tI::.con tI::.any::.box 0 0::aN 3 (.con tI::aN 3 (.own 1::aN 39 [.con aa,.con tI]))),bS⟩,[ae])]}
def F5 (ρ:Type):Û ρ:=⟨[],235,2,F6,fun(p:Val (tyL F6.cs)) (v:Val ay) a b=>uN p.1 p.2.1 p.2.2.2.1 p.2.2.2.2.1 p.2.2.2.2.2.1 v.1 v.2 (fun c d=>a (c,d)) (b 0)⟩
def ac0:List (Nat×Ø):=[(227,jX)]
def Kw (ρ:Type):List (Û ρ):=[F7 ρ,F5 ρ]
def zA (ρ:Type):Env ρ:=Ù ac0 (Kw ρ)
def U4:Ø:=⟨[Ä],[aU],fun(x:Val Ä)=>GY x⟩
def F2:È:={pin:=2,cs:=[tI,ae,tI,ac,tI,tI,tI,tI,ac,aa,af,ab,aa,tI,tI,ac,aa,af,ab,aa,aa,tI,tI,tI,tI,tI,tI,tI,tI,tI],vs:=[tI,ah,aa],head:=⟨144,.box 1 0::.any::.con tI::.box 2 0::.con ae::.con tI::.var tI::aN 24 [.con ac,.con tI,.con tI],[bi,bu,bj,.rowv Ą,.rowv Â]⟩,exits:=[(.exit 2,⟨144,.box 1 0::.any::.con tI::.box 2 0::.con ae::.con tI::aN 25 [.con ac,.con tI,.con tI],[bi,bu,bj,.rowv Ą,.rowv Â]⟩,[ah,aa])]}
def F1 (ρ:Type):Û ρ:=⟨[2,1],195,2,F2,fun(p:Val (tyL F2.cs)) (v:Val aL) a b=>let A:=p.2.2.2.2.2.2.2.2.2.2.2.2.2;let B:=A.2.2.2.2;let C:=B.2.2.2.2.2;let D:=C.2.2.2.2;uL p.1 p.2.1 p.2.2.1 A.1 A.2.1 A.2.2.1 A.2.2.2.1 B.1 B.2.1 B.2.2.1 C.1 C.2.1 C.2.2.1 C.2.2.2.1 D.1 D.2.1 D.2.2.1 D.2.2.2 v.1 v.2.1 v.2.2 (fun c d e=>a (c,d,e)) (b 0)⟩
def F4:È:={pin:=2,cs:=[ac,tI,tI,tI,ac,aa,af,ab,aa,tI,tI,ac,aa,af,ab,aa,aa,tI],vs:=[tI,ah,aa],head:=⟨144,.box 1 0::aN 30 [.con ac,.con tI,.var tI],bY⟩,exits:=[(.exit 0,⟨144,.box 1 0::aN 30 [.con ac,.con tI],bY⟩,[ah,aa])]}
def F3 (ρ:Type):Û ρ:=⟨[2,1],195,0,F4,fun(p:Val (tyL F4.cs)) (v:Val aL) a b=>let A:=p.2.2.2.2.2.2.2.2.2;let B:=A.2.2.2.2;uM p.1 p.2.1 A.1 A.2.1 A.2.2.1 A.2.2.2.1 B.1 B.2.1 B.2.2.1 B.2.2.2.1 B.2.2.2.2 v.1 v.2.1 v.2.2 (fun c d e=>a (c,d,e)) (b 0)⟩
def F0:È:={pin:=2,cs:=[ab,tI,tI,tI,ac,aa,af,ab,aa,tI,tI,ac,aa,af,ab,aa,aa,tI],vs:=[tI,ah,aa],head:=⟨144,.box 1 0::aN 107 [.con ab,.con tI,.var tI],bY⟩,exits:=[(.exit 4,⟨144,.box 1 0::aN 107 [.con ab,.con tI],bY⟩,[ah,aa])]}
def FZ (ρ:Type):Û ρ:=⟨[2,1],195,4,F0,fun(p:Val (tyL F0.cs)) (v:Val aL) a b=>let A:=p.2.2.2.2.2.2.2.2.2;let B:=A.2.2.2.2;uK p.1 p.2.1 A.1 A.2.1 A.2.2.1 A.2.2.2.1 B.1 B.2.1 B.2.2.1 B.2.2.2.1 B.2.2.2.2 v.1 v.2.1 v.2.2 (fun c d e=>a (c,d,e)) (b 0)⟩
def acZ:List (Nat×Ø):=[(135,DZ),(194,U5),(198,wT),(199,zp),(203,U3),(235,aey)]
def Kv (ρ:Type):List (Û ρ):=[F1 ρ,F3 ρ,FZ ρ]
def sR (ρ:Type):Env ρ:=Ù acZ (Kv ρ)
def ś:Ø:=⟨[Ä],[Í,aa,tI],fun(x:Val Ä)=>Ġ x⟩
def W6:List (Nat×Ø):=[(66,œ),(137,U4)]
def BV (ρ:Type):List (Û ρ):=[]
def KD (ρ:Type):Env ρ:=Ù W6 (BV ρ)
def nI:Ø:=⟨[Ä,Â],[Ä,tI],fun(x:Val aD)=>ji x.1 x.2⟩
def Gn:È:={pin:=6,cs:=[tI,tI,tI,ac,aa,af,ab,aa,tI,tI,tI,tI,tI,tI,ac,aa,af,ab,aa,tI,tI,tI,tI,ab,tI,tI,ac,aa,af,aa],vs:=[tI,ab],head:=⟨50,.any::.box 6 0::.box 7 0::.own 8::aN 21 [.own 8,.con tI,.var tI],bZ⟩,exits:=[(.exit 0,⟨50,.any::.box 6 0::.box 7 0::.own 8::aN 21 [.own 8,.con tI],bZ⟩,[ab])]}
def Gm (ρ:Type):Û ρ:=⟨[1,2,4,1],223,0,Gn,fun(p:Val (tyL Gn.cs)) (v:Val (.pair tI ab)) a b=>uV p.1 v.1 v.2 (fun c d=>a (c,d)) (b 0)⟩
def ac6:List (Nat×Ø):=[(66,œ)]
def KG (ρ:Type):List (Û ρ):=[Gm ρ]
def IY (ρ:Type):Env ρ:=Ù ac6 (KG ρ)
def ŏ:Ø:=⟨[Í],[.bool,tI],fun(x:Val Í)=>Đ x⟩
def IF:List (Nat×Ø):=[(117,mr),(138,rS)]
def qw (ρ:Type):List (Û ρ):=[]
def wi (ρ:Type):Env ρ:=Ù IF (qw ρ)
def JL:Ø:=⟨[Ä,Â],[Â,tI],fun(x:Val aD)=>mY x.1 x.2⟩
def sv:È:={pin:=4,cs:=[tI,tI,tI,ac,aa,af,ab,aa,tI,tI,tI,tI,aa],vs:=[tI,tI,tI,ac,aa,af,ab,aa],head:=⟨68,aN 2 (.box 4 0::aN 20 [.own 3,.con tI,.var tI]),b7⟩,exits:=[(.ret,⟨68,aN 2 (.box 4 0::.any::.nilp::.var tI::aN 17 [.own 3,.con tI]),b7⟩,[tI,tI,tI,ac,aa,af,ab,aa]),(.exit 0,⟨68,aN 2 (.box 4 0::aN 20 [.own 3,.con tI]),b7⟩,[tI,tI,ac,aa,af,ab,aa])]}
def su (ρ:Type):Û ρ:=⟨[1,3],47,0,sv,fun(p:Val (tyL sv.cs)) (v:Val aC) b a=>Ă p.1 p.2.2.2.2.2.2.2.2.2.2.2.2 v.1 v.2.1 v.2.2.1 v.2.2.2.1 v.2.2.2.2.1 v.2.2.2.2.2.1 v.2.2.2.2.2.2.1 v.2.2.2.2.2.2.2 (fun c d e f g h i j=>b (c,d,e,f,g,h,i,j)) (a 0) (a 1)⟩
def OQ:List (Nat×Ø):=[(48,i5),(66,œ),(67,iM),(68,ś),(110,nI),(111,ŏ)]
def vU (ρ:Type):List (Û ρ):=[su ρ]
def rg (ρ:Type):Env ρ:=Ù OQ (vU ρ)
def Nj:Ø:=⟨[Ä,Â,Â],[Â,tI],fun(x:Val (.pair Ä ã))=>vu x.1 x.2.1 x.2.2⟩
def we:È:={pin:=5,cs:=[tI,tI,tI,ac,aa,af,ab,aa,tI,tI,tI,tI,tI,tI,aa],vs:=[tI,tI,tI,ac,aa,af,ab,aa],head:=⟨68,aN 2 (.box 5 0::aN 20 [.own 4,.con tI,.var tI]),b8⟩,exits:=[(.ret,⟨68,aN 2 (.box 5 0::.any::.nilp::.var tI::aN 17 [.own 4,.con tI]),b8⟩,[tI,tI,tI,ac,aa,af,ab,aa]),(.exit 0,⟨68,aN 2 (.box 5 0::aN 20 [.own 4,.con tI]),b8⟩,[tI,tI,ac,aa,af,ab,aa])]}
def wd (ρ:Type):Û ρ:=⟨[1,4],47,0,we,fun(p:Val (tyL we.cs)) (v:Val aC) b a=>rl p.1 p.2.2.2.2.2.2.2.2.2.2.2.2.2.2 v.1 v.2.1 v.2.2.1 v.2.2.2.1 v.2.2.2.2.1 v.2.2.2.2.2.1 v.2.2.2.2.2.2.1 v.2.2.2.2.2.2.2 (fun c d e f g h i j=>b (c,d,e,f,g,h,i,j)) (a 0) (a 1)⟩
def Sf:List (Nat×Ø):=[(50,iL),(51,jr),(66,œ),(67,iM),(68,ś),(110,nI),(111,ŏ)]
def yd (ρ:Type):List (Û ρ):=[wd ρ]
def uz (ρ:Type):Env ρ:=Ù Sf (yd ρ)
def Cj:Ø:=⟨[Â,Â],[tI],fun(x:Val ã)=>pu x.1 x.2⟩
def RF:List (Nat×Ø):=[]
def xK (ρ:Type):List (Û ρ):=[]
def EH (ρ:Type):Env ρ:=Ù RF (xK ρ)
def YV:Ø:=⟨[Ä,Â,Â],[tI,tI],fun(x:Val (.pair Ä ã))=>GR x.1 x.2.1 x.2.2⟩
def Br:È:={pin:=4,cs:=[tI,tI,tI,ac,aa,af,ab,aa,tI,tI,tI,tI,aa],vs:=[tI,tI,tI,ac,aa,af,ab,aa],head:=⟨68,aN 2 (.box 4 0::aN 20 [.own 3,.con tI,.var tI]),b7⟩,exits:=[(.ret,⟨68,aN 2 (.box 4 0::.any::.nilp::.var tI::aN 17 [.own 3,.con tI]),b7⟩,[tI,tI,tI,ac,aa,af,ab,aa]),(.exit 0,⟨68,aN 2 (.box 4 0::aN 20 [.own 3,.con tI]),b7⟩,[tI,tI,ac,aa,af,ab,aa])]}
def Bq (ρ:Type):Û ρ:=⟨[1,3],47,0,Br,fun(p:Val (tyL Br.cs)) (v:Val aC) b a=>xX p.1 p.2.2.2.2.2.2.2.2.2.2.2.2 v.1 v.2.1 v.2.2.1 v.2.2.2.1 v.2.2.2.2.1 v.2.2.2.2.2.1 v.2.2.2.2.2.2.1 v.2.2.2.2.2.2.2 (fun c d e f g h i j=>b (c,d,e,f,g,h,i,j)) (a 0) (a 1)⟩
def ZZ:List (Nat×Ø):=[(48,i5),(57,Cj),(66,œ),(67,iM),(68,ś),(110,nI),(111,ŏ)]
def Fs (ρ:Type):List (Û ρ):=[Bq ρ]
def CV (ρ:Type):Env ρ:=Ù ZZ (Fs ρ)
def Nk:Ø:=⟨[Í,tI,tI],[am],fun(x:Val aP)=>yQ x.1 x.2.1 x.2.2⟩
def TZ:È:={pin:=0,cs:=[tI,tI,tI,tI,ah],vs:=[tI,ae],head:=⟨45,.any::.con tI::.con tI::.box 0 0::aN 3 (.own 1::aN 7 [.con tI,.var tI]),[br,.rowv tI]⟩,exits:=[(.exit 0,⟨45,.any::.con tI::.con tI::.box 0 0::aN 3 (.own 1::aN 7 [.con tI]),[br,.rowv tI]⟩,[ae])]}
def TY (ρ:Type):Û ρ:=⟨[],122,0,TZ,fun(p:Val (tyL TZ.cs)) (v:Val ay) a b=>zy p.2.2.1 v.1 v.2 (fun c d=>a (c,d)) (b 0)⟩
def TW:È:={pin:=4,cs:=[ae,tI,am,tI,ah],vs:=[tI,ae],head:=⟨53,.con ae::.box 1 0::aN 2 (.own 4::aN 7 [.con tI,.var tI]),b9⟩,exits:=[(.exit 0,⟨53,.con ae::.box 1 0::aN 2 (.own 4::aN 7 [.con tI]),b9⟩,[ae])]}
def TV (ρ:Type):Û ρ:=⟨[12,8],185,0,TW,fun(p:Val (tyL TW.cs)) (v:Val ay) a b=>Ws p.2.1 v.1 v.2 (fun c d=>a (c,d)) (b 0)⟩
def TU:È:={pin:=4,cs:=[ae,ah,tI,am,tI,ah],vs:=[tI,ae],head:=⟨53,.con ae::aN 3 (.own 4::aN 16 [.con ah,.con tI,.var tI]),b9⟩,exits:=[(.exit 2,⟨53,.con ae::aN 3 (.own 4::aN 16 [.con ah,.con tI]),b9⟩,[ae])]}
def TT (ρ:Type):Û ρ:=⟨[12,8],185,2,TU,fun(p:Val (tyL TU.cs)) (v:Val ay) a b=>FC p.1 p.2.1 p.2.2.1 v.1 v.2 (fun c d=>a (c,d)) (b 0)⟩
def af1:È:={pin:=0,cs:=[tI,tI,ah],vs:=[tI,am],head:=⟨45,aN 9 (.own 0::.fn 185 [(1,0)]::aN 18 [.con tI,.var tI]),[.rowv ae,br]⟩,exits:=[(.exit 2,⟨45,aN 9 (.own 0::.fn 185 [(1,0)]::aN 18 [.con tI]),[.rowv ae,br]⟩,[am])]}
def TX (ρ:Type):Û ρ:=⟨[],122,2,af1,fun(p:Val aH) (v:Val aO) a b=>Mr p.1 p.2.1 p.2.2 v.1 v.2 (fun c d=>a (c,d)) (b 0)⟩
def akX:List (Nat×Ø):=[]
def Z3 (ρ:Type):List (Û ρ):=[TY ρ,TV ρ,TT ρ,TX ρ]
def IC (ρ:Type):Env ρ:=Ù akX (Z3 ρ)
def Y0:Ø:=⟨[Í,tI,tI],[ae,tI],fun(x:Val aP)=>yT x.1 x.2.1 x.2.2⟩
def BK:È:={pin:=3,cs:=[am,tI,tI,ah,tI,tI],vs:=[tI],head:=⟨19,.con am::.fn 124 [(1,0),(2,0)]::aN 5 [.con tI,.var tI],[br,bo,bo]⟩,exits:=[(.ret,⟨19,[.con am,.fn 124 [(1,0),(2,0)],.any,.any,.var tI,.any,.any,.con tI],[br,bo,bo]⟩,[tI]),(.exit 0,⟨19,.con am::.fn 124 [(1,0),(2,0)]::aN 5 [.con tI],[br,bo,bo]⟩,[])]}
def BJ (ρ:Type):Û ρ:=⟨[5,2],123,0,BK,fun(p:Val (tyL BK.cs)) (v:Val tI) b a=>qB p.1 p.2.1 p.2.2.2.2.1 p.2.2.2.2.2 v (fun c=>b c) (a 0) (a 1)⟩
def BG:È:={pin:=3,cs:=[tI,am,ah,tI,tI,ah,tI,tI,tI,ah],vs:=[tI,tI,tI,ae],head:=⟨73,.any::.var tI::.con tI::.con am::.fn 126 [(2,0)]::.box 3 0::aN 5 (.own 4::.var tI::aN 7 [.con ah,.con tI,.var tI]),ca⟩,exits:=[(.exit 2,⟨73,.any::.var tI::.con tI::.con am::.fn 126 [(2,0)]::.box 3 0::aN 5 (.own 4::.var tI::aN 7 [.con ah,.con tI]),ca⟩,[tI,tI,ae])]}
def BF (ρ:Type):Û ρ:=⟨[6,5],125,2,BG,fun(p:Val (tyL BG.cs)) (v:Val aI) a b=>Km p.1 p.2.1 p.2.2.1 p.2.2.2.1 p.2.2.2.2.2.2.2.1 v.1 v.2.1 v.2.2.1 v.2.2.2 (fun c d e f=>a (c,d,e,f)) (b 0)⟩
def BI:È:={pin:=3,cs:=[am,tI,ah,tI,tI,tI,ah],vs:=[tI,tI,tI,ae],head:=⟨73,.any::.var tI::.var tI::.con am::.fn 126 [(2,0)]::.box 3 0::aN 5 [.own 4,.var tI],ca⟩,exits:=[(.exit 0,⟨73,aN 3 (.con am::.fn 126 [(2,0)]::.box 3 0::aN 5 [.own 4]),ca⟩,[ae])]}
def BH (ρ:Type):Û ρ:=⟨[6,5],125,0,BI,fun(p:Val (tyL BI.cs)) (v:Val aI) a b=>qA p.1 p.2.2.2.2.1 p.2.2.2.2.2.2 v.1 v.2.1 v.2.2.1 v.2.2.2 (fun c d e f=>a (c,d,e,f)) (b 0)⟩
def Z8:List (Nat×Ø):=[(114,wS),(122,Nk)]
def FL (ρ:Type):List (Û ρ):=[BJ ρ,BF ρ,BH ρ]
def pd (ρ:Type):Env ρ:=Ù Z8 (FL ρ)
def DU:Ø:=⟨[ax,aT,(.ptr .bool)],[ae],fun(x:Val (.pair ax (.pair aT (.ptr .bool))))=>kU x.1 x.2.1 x.2.2⟩
def LM:List (Nat×Ø):=[(50,iL),(61,Y0)]
def sF (ρ:Type):List (Û ρ):=[]
def yc (ρ:Type):Env ρ:=Ù LM (sF ρ)
def Ck:Ø:=⟨[Ä,ae],[aa],fun(x:Val (.pair Ä ae))=>pv x.1 x.2⟩
def LC:È:={pin:=0,cs:=[aa,ae,tI],vs:=[tI,aa],head:=⟨32,aN 6 (.con aa::.any::.own 0::aN 8 [.con ae,.con tI,.var tI]),[.rowv Â]⟩,exits:=[(.exit 0,⟨32,aN 6 (.con aa::.any::.own 0::aN 8 [.con ae,.con tI]),[.rowv Â]⟩,[aa])]}
def vP (ρ:Type):Û ρ:=⟨[],63,0,LC,fun(p:Val (.pair aa aE)) (v:Val aF) a b=>mh p.1 p.2.1 p.2.2 v.1 v.2 (fun c d=>a (c,d)) (b 0)⟩
def RG:List (Nat×Ø):=[(68,ś)]
def xL (ρ:Type):List (Û ρ):=[vP ρ]
def t8 (ρ:Type):Env ρ:=Ù RG (xL ρ)
def Ni:Ø:=⟨[Ä,Â,.bool],[ε,tI],fun(x:Val aM)=>vt x.1 x.2.1 x.2.2⟩
def wc:È:={pin:=5,cs:=[tI,tI,tI,ac,aa,af,ab,aa,tI,tI,tI,tI,.bool,tI,aa],vs:=[tI,tI,tI,ac,aa,af,ab,aa],head:=⟨68,aN 2 (.box 5 0::aN 20 [.own 4,.con tI,.var tI]),cd⟩,exits:=[(.ret,⟨68,aN 2 (.box 5 0::.any::.nilp::.var tI::aN 17 [.own 4,.con tI]),cd⟩,[tI,tI,tI,ac,aa,af,ab,aa]),(.exit 0,⟨68,aN 2 (.box 5 0::aN 20 [.own 4,.con tI]),cd⟩,[tI,tI,ac,aa,af,ab,aa])]}
def wa (ρ:Type):Û ρ:=⟨[1,3],47,0,wc,fun(p:Val (tyL wc.cs)) (v:Val aC) b a=>rk p.1 p.2.2.2.2.2.2.2.2.2.2.2.2.2.2 v.1 v.2.1 v.2.2.1 v.2.2.2.1 v.2.2.2.2.1 v.2.2.2.2.2.1 v.2.2.2.2.2.2.1 v.2.2.2.2.2.2.2 (fun c d e f g h i j=>b (c,d,e,f,g,h,i,j)) (a 0) (a 1)⟩
def vZ:È:={pin:=10,cs:=[tI,tI,tI,ac,aa,af,ab,aa,tI,tI,tI,tI,.bool,tI,aa,tI,tI,ac,aa,af,ab,aa,tI,ah,aa,tI,tI,ac,aa,af,ab,aa,tI,tI,ac,aa,af,ab,aa],vs:=[tI],head:=⟨68,aN 2 (.box 10 0::aN 20 [.nils,.con tI,.var tI]),ce⟩,exits:=[(.exit 0,⟨68,aN 2 (.box 10 0::aN 20 [.nils,.con tI]),ce⟩,[])]}
def vY (ρ:Type):Û ρ:=⟨[6,1],47,0,vZ,fun(p:Val (tyL vZ.cs)) (v:Val tI) a b=>rj p.1 v (fun c=>a c) (b 0)⟩
def Se:List (Nat×Ø):=[(60,DU),(62,oM),(63,Ck),(64,qW),(65,lG),(66,œ),(67,iM),(68,ś),(110,nI),(111,ŏ)]
def yb (ρ:Type):List (Û ρ):=[wa ρ,vY ρ]
def kJ (ρ:Type):Env ρ:={Ù Se (yb ρ) with hint:=I7 [(34,60),(56,60)]}
def Cl:Ø:=⟨[Í,ae],[tI],fun(x:Val aV)=>pz x.1 x.2⟩
def LO:È:={pin:=1,cs:=[ae,tI,tI,ah],vs:=[tI],head:=⟨19,.con ae::.fn 196 [(0,0)]::aN 5 [.con tI,.var tI],[br]⟩,exits:=[(.ret,⟨19,[.con ae,.fn 196 [(0,0)],.any,.any,.var tI,.any,.any,.con tI],[br]⟩,[tI]),(.exit 0,⟨19,.con ae::.fn 196 [(0,0)]::aN 5 [.con tI],[br]⟩,[])]}
def wh (ρ:Type):Û ρ:=⟨[3,2,1,2],155,0,LO,fun(p:Val (.pair ae aH)) (v:Val tI) b a=>mj p.1 p.2.1 p.2.2.2 v (fun c=>b c) (a 0) (a 1)⟩
def Sh:List (Nat×Ø):=[]
def yf (ρ:Type):List (Û ρ):=[wh ρ]
def uB (ρ:Type):Env ρ:=Ù Sh (yf ρ)
def U0:Ø:=⟨[Í,tI,ae],[tI,tI,.bool],fun(x:Val (.pair Í ay))=>GU x.1 x.2.1 x.2.2⟩
def Wp:È:={pin:=0,cs:=[ae,tI,tI,ah],vs:=[tI,tI,tI],head:=⟨37,.any::.var tI::.any::.box 0 0::aN 5 [.var tI,.any,.any,.any,.con ae,.con tI,.var tI],[br]⟩,exits:=[(.ret,⟨37,aN 3 (.box 0 0::aN 2 (.var tI::.var tI::.var .bool::aN 4 [.con ae,.con tI])),[br]⟩,[tI,tI,.bool]),(.exit 0,⟨37,.any::.var tI::.any::.box 0 0::aN 5 [.var tI,.any,.any,.any,.con ae,.con tI],[br]⟩,[tI,tI])]}
def Fw (ρ:Type):Û ρ:=⟨[],141,0,Wp,fun(p:Val (.pair ae aH)) (v:Val Ą) b a=>uA p.1 p.2.1 p.2.2.2 v.1 v.2.1 v.2.2 (fun c d e=>b (c,d,e)) (a 0) (a 1)⟩
def acI:List (Nat×Ø):=[]
def Kf (ρ:Type):List (Û ρ):=[Fw ρ]
def Iz (ρ:Type):Env ρ:=Ù acI (Kf ρ)
def AI:Ø:=⟨[Í,tI,tI,ae],[tI,tI],fun(x:Val (.pair Í (.pair tI ay)))=>jA x.1 x.2.1 x.2.2.1 x.2.2.2⟩
def IH:List (Nat×Ø):=[(138,rS),(139,Mk),(140,Cl),(141,U0)]
def qz (ρ:Type):List (Û ρ):=[]
def wm (ρ:Type):Env ρ:=Ù IH (qz ρ)
def tJ:Ø:=⟨[ε],[tI],fun(x:Val ε)=>kT x⟩
def LL:List (Nat×Ø):=[(66,œ),(67,iM),(68,ś),(69,AI)]
def sw (ρ:Type):List (Û ρ):=[]
def ya (ρ:Type):Env ρ:=Ù LL (sw ρ)
def U7:Ø:=⟨[Ä,Ì],[Ä,tI],fun(x:Val aB)=>oh x.1 x.2⟩
def Gk:È:={pin:=8,cs:=[tI,tI,tI,ac,aa,af,ab,aa,tI,tI,ae,ae,tI,tI,tI,tI,tI,tI,tI,tI,ac,aa,af,ab,aa,tI,tI,tI,tI,ab,tI,tI,ac,aa,af,aa],vs:=[tI,ab],head:=⟨50,.any::.box 8 0::.box 9 0::.own 10::aN 21 [.own 10,.con tI,.var tI],cf⟩,exits:=[(.exit 0,⟨50,.any::.box 8 0::.box 9 0::.own 10::aN 21 [.own 10,.con tI],cf⟩,[ab])]}
def Gj (ρ:Type):Û ρ:=⟨[2,2,4,1],223,0,Gk,fun(p:Val (tyL Gk.cs)) (v:Val (.pair tI ab)) a b=>uU p.1 v.1 v.2 (fun c d=>a (c,d)) (b 0)⟩
def ac4:List (Nat×Ø):=[(66,œ)]
def KC (ρ:Type):List (Û ρ):=[Gj ρ]
def IW (ρ:Type):Env ρ:=Ù ac4 (KC ρ)
def Y3:Ø:=⟨[Ä,Ì,Â],[Â,tI],fun(x:Val (.pair Ä (.pair Ì Â)))=>tm x.1 x.2.1 x.2.2⟩
def aam:List (Nat×Ø):=[(238,HG),(239,Np),(240,U2),(241,Nn)]
def FV (ρ:Type):List (Û ρ):=[]
def PA (ρ:Type):Env ρ:=Ù aam (FV ρ)
def Nq:Ø:=⟨[Ä,Ì],[Â,tI],fun(x:Val aB)=>vy x.1 x.2⟩
def SM:List (Nat×Ø):=[(114,wS),(137,U4),(147,U7),(198,wT),(199,zp),(200,Y3)]
def yC (ρ:Type):List (Û ρ):=[]
def Gl (ρ:Type):Env ρ:=Ù SM (yC ρ)
def Y2:Ø:=⟨[Ä,tI],[Ì,tI],fun(x:Val aG)=>GX x.1 x.2⟩
def aal:List (Nat×Ø):=[(66,œ)]
def FU (ρ:Type):List (Û ρ):=[]
def Py (ρ:Type):Env ρ:=Ù aal (FU ρ)
def aeA:Ø:=⟨[Ä,tI],[Â,tI],fun(x:Val aG)=>MG x.1 x.2⟩
def ac5:List (Nat×Ø):=[(202,Y2),(203,U3)]
def KE (ρ:Type):List (Û ρ):=[]
def T3 (ρ:Type):Env ρ:=Ù ac5 (KE ρ)
def HH:Ø:=⟨[ae,ae],[ae,ae,tI],fun(x:Val ba)=>tq x.1 x.2⟩
def Xa:List (Nat×Ø):=[(199,zp),(204,HF)]
def BW (ρ:Type):List (Û ρ):=[]
def KH (ρ:Type):Env ρ:=Ù Xa (BW ρ)
def JK:Ø:=⟨[ae,ax,(.ptr Ì)],[tI],fun(x:Val (.pair ae (.pair ax (.ptr Ì))))=>mX x.1 x.2.1 x.2.2⟩
def OE:List (Nat×Ø):=[(50,iL)]
def vT (ρ:Type):List (Û ρ):=[]
def Bk (ρ:Type):Env ρ:=Ù OE (vT ρ)
def JJ:Ø:=⟨[tI,tI,ax,(.ptr tI),aT,(.ptr tI)],[Ą],fun(x:Val (.pair tI (.pair tI (.pair ax (.pair (.ptr tI) (.pair aT (.ptr tI)))))))=>mW x.1 x.2.1 x.2.2.1 x.2.2.2.1 x.2.2.2.2.1 x.2.2.2.2.2⟩
def OD:List (Nat×Ø):=[(51,jr)]
def vS (ρ:Type):List (Û ρ):=[]
def Bj (ρ:Type):Env ρ:=Ù OD (vS ρ)
def HE:Ø:=⟨[ax,Â,Ì],[Ŭ,tI],fun(x:Val (.pair ax aX))=>tf x.1 x.2.1 x.2.2⟩
def xQ:È:={pin:=0,cs:=[tI,ae,ae,aa,ah,tI,tI,tI,tI,tI,ae,ae,tI,tI,tI,tI,tI,tI,tI,tI,tI,tI,tI,tI,tI,tI,tI,tI,tI,tI,ac,aa,af,ab,aa,tI],vs:=[tI,ah],head:=⟨127,aN 4 (.box 0 0::.box 1 0::.box 2 0::.any::.box 3 0::aN 2 (.con tI::.box 4 0::.any::.con ae::.con ae::aN 2 (.con aa::.any::.box 5 0::aN 65 [.con ah,.con tI,.var tI]))),[bq,bp,bj,bq,bq,bE,.rowv Ą]⟩,exits:=[(.exit 0,⟨127,aN 4 (.box 0 0::.box 1 0::.box 2 0::.any::.box 3 0::aN 2 (.con tI::.box 4 0::.any::.con ae::.con ae::aN 2 (.con aa::.any::.box 5 0::aN 65 [.con ah,.con tI]))),[bq,bp,bj,bq,bq,bE,.rowv Ą]⟩,[ah])]}
def xP (ρ:Type):Û ρ:=⟨[],76,0,xQ,fun(p:Val (tyL xQ.cs)) (v:Val Í) a b=>kI p.1 p.2.2.2.1 p.2.2.2.2.1 p.2.2.2.2.2.1 v.1 v.2 (fun c d=>a (c,d)) (b 0)⟩
def V8:List (Nat×Ø):=[(50,iL),(68,ś),(146,Nq),(147,U7),(148,aeA),(149,HH),(150,JK),(151,JJ)]
def Bi (ρ:Type):List (Û ρ):=[xP ρ]
def qn (ρ:Type):Env ρ:={Ù V8 (Bi ρ) with hint:=I7 [(110,150),(113,150),(120,151),(123,151)]}
def tG:Ø:=⟨[Ą],[ae],fun(x:Val Ą)=>ii x⟩
def LH:List (Nat×Ø):=[]
def sh (ρ:Type):List (Û ρ):=[]
def xT (ρ:Type):Env ρ:=Ù LH (sh ρ)
def Tw:Ø:=⟨[Ą,tI],[tI],fun(x:Val (.pair Ą tI))=>tg x.1 x.2⟩
def Wb:List (Nat×Ø):=[]
def Bl (ρ:Type):List (Û ρ):=[]
def J8 (ρ:Type):Env ρ:=Ù Wb (Bl ρ)
def qU:Ø:=⟨[Ŭ,tI],[Â],fun(x:Val (.pair Ŭ tI))=>Ő x.1 x.2⟩
def Ia:List (Nat×Ø):=[(154,Tw)]
def qi (ρ:Type):List (Û ρ):=[]
def vO (ρ:Type):Env ρ:=Ù Ia (qi ρ)
def qV:Ø:=⟨[Ŭ,ae],[ae],fun(x:Val (.pair Ŭ ae))=>jz x.1 x.2⟩
def oV:È:={pin:=0,cs:=[tI,ae,tI,tI,tI,tI,tI,tI,tI,tI,tI,tI],vs:=[tI,ae],head:=⟨48,aN 2 (.box 0 0::aN 2 (.own 1::.any::.con tI::.var tI::aN 7 [.con ae,.con tI,.con tI])),bS⟩,exits:=[(.exit 2,⟨48,aN 2 (.box 0 0::aN 2 (.own 1::.any::.con tI::aN 8 [.con ae,.con tI,.con tI])),bS⟩,[ae])]}
def oU (ρ:Type):Û ρ:=⟨[],88,2,oV,fun(p:Val (tyL oV.cs)) (v:Val ay) a b=>ω p.1 p.2.2.2.2.1 p.2.2.2.2.2.1 v.1 v.2 (fun c d=>a (c,d)) (b 0)⟩
def CL:È:={pin:=0,cs:=[ae,tI,tI,tI,tI,tI,tI,tI,tI,tI],vs:=[tI,ae],head:=⟨48,aN 2 (.box 0 0::aN 2 (.own 1::aN 10 [.con ae,.con tI,.var tI])),bS⟩,exits:=[(.exit 0,⟨48,aN 2 (.box 0 0::aN 2 (.own 1::aN 10 [.con ae,.con tI])),bS⟩,[ae])]}
def oW (ρ:Type):Û ρ:=⟨[],88,0,CL,fun(p:Val (.pair ae aZ)) (v:Val ay) a b=>ja p.1 p.2.1 p.2.2.1 p.2.2.2.1 v.1 v.2 (fun c d=>a (c,d)) (b 0)⟩
def Ib:List (Nat×Ø):=[]
def qj (ρ:Type):List (Û ρ):=[oU ρ,oW ρ]
def jG (ρ:Type):Env ρ:=Ù Ib (qj ρ)
def wR:Ø:=⟨[Ŭ],[tI],fun(x:Val Ŭ)=>kR x⟩
def Ak:È:={pin:=0,cs:=[ae,tI,tI,tI,tI,tI,tI,tI,tI,tI],vs:=[tI,tI],head:=⟨34,.any::.box 0 0::.any::.var tI::aN 12 [.con ae,.con tI,.var tI],[bj]⟩,exits:=[(.exit 0,⟨34,.any::.box 0 0::.any::.var tI::aN 12 [.con ae,.con tI],[bj]⟩,[tI])]}
def nw (ρ:Type):Û ρ:=⟨[],77,0,Ak,fun(p:Val (.pair ae aZ)) (v:Val Â) a b=>let A:=p.2.2.2.2;iF p.1 p.2.1 p.2.2.1 p.2.2.2.1 A.1 A.2.1 A.2.2.1 A.2.2.2.1 A.2.2.2.2.1 A.2.2.2.2.2 v.1 v.2 (fun c d=>a (c,d)) (b 0)⟩
def EE:List (Nat×Ø):=[(81,Ś),(82,tG),(86,qU),(88,qV)]
def oS (ρ:Type):List (Û ρ):=[nw ρ]
def lN (ρ:Type):Env ρ:=Ù EE (oS ρ)
def YU:Ø:=⟨[Ä,Â,Ì],[tI,tI],fun(x:Val (.pair Ä aX))=>yP x.1 x.2.1 x.2.2⟩
def Bn:È:={pin:=4,cs:=[tI,tI,tI,ac,aa,af,ab,aa,tI,tI,tI,tI,ae,ae,tI,tI,tI,tI,aa],vs:=[tI,tI,tI,ac,aa,af,ab,aa],head:=⟨68,aN 2 (.box 4 0::aN 20 [.own 3,.con tI,.var tI]),cg⟩,exits:=[(.ret,⟨68,aN 2 (.box 4 0::.any::.nilp::.var tI::aN 17 [.own 3,.con tI]),cg⟩,[tI,tI,tI,ac,aa,af,ab,aa]),(.exit 0,⟨68,aN 2 (.box 4 0::aN 20 [.own 3,.con tI]),cg⟩,[tI,tI,ac,aa,af,ab,aa])]}
def Bm (ρ:Type):Û ρ:=⟨[1,3],47,0,Bn,fun(p:Val (tyL Bn.cs)) (v:Val aC) b a=>xV p.1 p.2.2.2.2.2.2.2.2.2.2.2.2.2.2.2.2.2.2 v.1 v.2.1 v.2.2.1 v.2.2.2.1 v.2.2.2.2.1 v.2.2.2.2.2.1 v.2.2.2.2.2.2.1 v.2.2.2.2.2.2.2 (fun c d e f g h i j=>b (c,d,e,f,g,h,i,j)) (a 0) (a 1)⟩
def ZX:List (Nat×Ø):=[(66,œ),(67,iM),(68,ś),(76,HE),(77,wR),(110,nI),(111,ŏ)]
def Fg (ρ:Type):List (Û ρ):=[Bm ρ]
def CT (ρ:Type):Env ρ:=Ù ZX (Fg ρ)
def DT:Ø:=⟨[tI],[tI],fun(x:Val tI)=>kS x⟩
def LJ:List (Nat×Ø):=[]
def sr (ρ:Type):List (Û ρ):=[]
def xW (ρ:Type):Env ρ:=Ù LJ (sr ρ)
def DS:Ø:=⟨[Ą,tI],[ae],fun(x:Val (.pair Ą tI))=>ij x.1 x.2⟩
def LI:List (Nat×Ø):=[]
def si (ρ:Type):List (Û ρ):=[]
def xU (ρ:Type):Env ρ:=Ù LI (si ρ)
def Ng:Ø:=⟨[Ä,Â,Â,Ì],[.bool,tI],fun(x:Val (.pair Ä (.pair Â aX)))=>pw x.1 x.2.1 x.2.2.1 x.2.2.2⟩
def Ε:È:={pin:=5,cs:=[tI,tI,tI,ac,aa,af,ab,aa,tI,tI,tI,tI,tI,tI,ae,ae,tI,tI,tI,tI,aa],vs:=[tI,tI,tI,ac,aa,af,ab,aa],head:=⟨68,aN 2 (.box 5 0::aN 20 [.own 4,.con tI,.var tI]),ci⟩,exits:=[(.ret,⟨68,aN 2 (.box 5 0::.any::.nilp::.var tI::aN 17 [.own 4,.con tI]),ci⟩,[tI,tI,tI,ac,aa,af,ab,aa]),(.exit 0,⟨68,aN 2 (.box 5 0::aN 20 [.own 4,.con tI]),ci⟩,[tI,tI,ac,aa,af,ab,aa])]}
def nk (ρ:Type):Û ρ:=⟨[1,3],47,0,Ε,fun(p:Val au) (v:Val aC) b a=>rf p.1 p.2.2.2.2.2.2.2.2.2.2.2.2.2.2.2.2.2.2.2.2 v.1 v.2.1 v.2.2.1 v.2.2.2.1 v.2.2.2.2.1 v.2.2.2.2.2.1 v.2.2.2.2.2.2.1 v.2.2.2.2.2.2.2 (fun c d e f g h i j=>b (c,d,e,f,g,h,i,j)) (a 0) (a 1)⟩
def Δ:È:={pin:=12,cs:=[ae,tI,tI,tI,ac,aa,af,ab,aa,tI,tI,tI,tI,tI,tI,ae,ae,tI,tI,tI,tI,aa,tI,tI,ac,aa,af,ab,aa,tI,ah,tI,tI,tI,tI,tI,tI,tI,tI,am,am,am],vs:=[tI],head:=⟨19,.con ae::.fn 85 [(8,0),(2,0)]::aN 5 [.con tI,.var tI],cj⟩,exits:=[(.ret,⟨19,[.con ae,.fn 85 [(8,0),(2,0)],.any,.any,.var tI,.any,.any,.con tI],cj⟩,[tI]),(.exit 0,⟨19,.con ae::.fn 85 [(8,0),(2,0)]::aN 5 [.con tI],cj⟩,[])]}
def nj (ρ:Type):Û ρ:=⟨[18,4,1,2],155,0,Δ,fun(p:Val ao) (v:Val tI) b a=>let A:=p.2.2.2.2.2.2.2.2.2.2.2;let B:=A.2.2.2.2.2.2.2.2.2.2.2.2.2.2.2.2.2.2.2.2;let C:=B.2.2.2.2;mi p.1 p.2.1 A.1 A.2.1 B.1 B.2.1 B.2.2.1 B.2.2.2.1 C.1 C.2.1 C.2.2.1 C.2.2.2.1 v (fun c=>b c) (a 0) (a 1)⟩
def Bp:List (Nat×Ø):=[(57,Cj),(66,œ),(67,iM),(68,ś),(76,HE),(81,Ś),(82,tG),(83,DT),(84,DS),(86,qU),(88,qV),(110,nI),(111,ŏ)]
def pb (ρ:Type):List (Û ρ):=[nk ρ,nj ρ]
def re:List akh:=[⟨[],35,0,4⟩]
def ď (ρ:Type):Env ρ:={Ù Bp (pb ρ) with hint:=I7 [(51,83),(55,83)]}
def uj (ρ:Type):Env ρ:={{amj Bp (pb ρ) re with loops:=aaA (ď ρ) re} with hint:=I7 [(51,83),(55,83)]}
def YZ:Ø:=⟨[Í],[ae,tI],fun(x:Val Í)=>yS x⟩
def Sk:È:={pin:=0,cs:=[tI,tI,ah],vs:=[tI,aQ],head:=⟨93,.any::.box 0 0::aN 6 (.own 1::aN 24 [.con tI,.var tI]),[br,.rowv am]⟩,exits:=[(.exit 0,⟨93,.any::.box 0 0::aN 6 (.own 1::aN 24 [.con tI]),[br,.rowv am]⟩,[aQ])]}
def BC (ρ:Type):Û ρ:=⟨[],91,0,Sk,fun(p:Val aH) (v:Val (.pair tI aQ)) a b=>Kl p.1 p.2.1 p.2.2 v.1 v.2 (fun c d=>a (c,d)) (b 0)⟩
def Bv:È:={pin:=3,cs:=[tI,am,ah,tI,tI,ah,aQ,tI,tI,tI,tI,ah],vs:=[tI,tI,tI,ae],head:=⟨73,.any::.var tI::.con tI::.con am::.fn 161 []::.box 3 0::aN 5 (.own 4::.var tI::aN 7 [.con ah,.con tI,.var tI]),cm⟩,exits:=[(.exit 2,⟨73,.any::.var tI::.con tI::.con am::.fn 161 []::.box 3 0::aN 5 (.own 4::.var tI::aN 7 [.con ah,.con tI]),cm⟩,[tI,tI,ae])]}
def Bu (ρ:Type):Û ρ:=⟨[22,10],125,2,Bv,fun(p:Val (tyL Bv.cs)) (v:Val aI) a b=>Kh p.1 p.2.1 p.2.2.1 p.2.2.2.1 v.1 v.2.1 v.2.2.1 v.2.2.2 (fun c d e f=>a (c,d,e,f)) (b 0)⟩
def Bx:È:={pin:=3,cs:=[am,tI,ah,aQ,tI,tI,tI,tI,ah],vs:=[tI,tI,tI,ae],head:=⟨73,.any::.var tI::.var tI::.con am::.fn 161 []::.box 3 0::aN 5 [.own 4,.var tI],cm⟩,exits:=[(.exit 0,⟨73,aN 3 (.con am::.fn 161 []::.box 3 0::aN 5 [.own 4]),cm⟩,[ae])]}
def Bw (ρ:Type):Û ρ:=⟨[22,10],125,0,Bx,fun(p:Val (tyL Bx.cs)) (v:Val aI) a b=>Ki p.1 p.2.2.2.2.2.2.2.2 v.1 v.2.1 v.2.2.1 v.2.2.2 (fun c d e f=>a (c,d,e,f)) (b 0)⟩
def Bz:È:={pin:=0,cs:=[tI,ah,tI,tI,ah,aQ],vs:=[tI],head:=⟨93,.any::.box 0 0::aN 6 (.own 1::.any::.fn 161 []::.con tI::aN 37 [.con ah,.con tI,.var tI]),[br,.rowc am]⟩,exits:=[(.exit 2,⟨93,.any::.box 0 0::aN 6 (.own 1::.any::.fn 161 []::.con tI::aN 37 [.con ah,.con tI]),[br,.rowc am]⟩,[]),(.ret,⟨93,.any::.box 0 0::.own 2::.var tI::aN 4 (.own 1::.any::.fn 161 []::.con tI::aN 37 [.con ah,.con tI]),[br,.rowc am,.rowv tI]⟩,[tI,ae]),(.exit 4,⟨93,.any::.box 0 0::aN 6 (.own 1::.any::.fn 161 []::.con tI::aN 37 [.con ah,.con tI]),[br,.rowc am]⟩,[])]}
def By (ρ:Type):Û ρ:=⟨[],91,4,Bz,fun(p:Val (tyL Bz.cs)) (v:Val tI) b a=>Kj p.1 p.2.1 p.2.2.1 p.2.2.2.1 p.2.2.2.2.1 p.2.2.2.2.2 v (fun c=>b c) (a 0) (a 1) (a 2)⟩
def BB:È:={pin:=0,cs:=[tI,ah,aQ],vs:=[tI],head:=⟨93,.any::.box 0 0::aN 6 [.own 1,.any,.fn 161 [],.var tI],[br,.rowc am]⟩,exits:=[(.exit 2,⟨93,.any::.box 0 0::aN 6 [.own 1,.any,.fn 161 []],[br,.rowc am]⟩,[]),(.ret,⟨93,.any::.box 0 0::.own 2::.var tI::aN 4 [.own 1,.any,.fn 161 []],[br,.rowc am,.rowv tI]⟩,[tI,ae])]}
def BA (ρ:Type):Û ρ:=⟨[],91,2,BB,fun(p:Val (tyL BB.cs)) (v:Val tI) b a=>Kk p.1 p.2.1 p.2.2 v (fun c=>b c) (a 0) (a 1)⟩
def Z6:List (Nat×Ø):=[(117,mr),(122,Nk),(138,rS)]
def FH (ρ:Type):List (Û ρ):=[BC ρ,Bu ρ,Bw ρ,By ρ,BA ρ]
def jS (ρ:Type):Env ρ:=Ù Z6 (FH ρ)
def YW:Ø:=⟨[Ä],[ε,tI],fun(x:Val Ä)=>GS x⟩
def Z0:List (Nat×Ø):=[(62,oM),(63,Ck),(68,ś),(91,YZ)]
def Fu (ρ:Type):List (Û ρ):=[]
def OT (ρ:Type):Env ρ:=Ù Z0 (Fu ρ)
def JI:Ø:=⟨[],[Ä],fun(_:Unit)=>yM⟩
def NB:List (Nat×Ø):=[]
def vL (ρ:Type):List (Û ρ):=[]
def AK (ρ:Type):Env ρ:=Ù NB (vL ρ)
def aev:Ø:=⟨[ae,tI],[.bool],fun(x:Val aE)=>ME x.1 x.2⟩
def acC:List (Nat×Ø):=[(149,HH)]
def J6 (ρ:Type):List (Û ρ):=[]
def TR (ρ:Type):Env ρ:=Ù acC (J6 ρ)
def YT:Ø:=⟨[tI],[.bool],fun(x:Val tI)=>GQ x⟩
def ZP:List (Nat×Ø):=[]
def Fc (ρ:Type):List (Û ρ):=[]
def OG (ρ:Type):Env ρ:=Ù ZP (Fc ρ)
def YS:Ø:=⟨[tI,am],[aa],fun(x:Val aO)=>GP x.1 x.2⟩
def RT:È:={pin:=0,cs:=[tI,ae,tI],vs:=[tI,aa],head:=⟨23,.con tI::aN 4 [.own 0,.any,.any,.any,.con ae,.con tI,.var tI],[.rowv Â]⟩,exits:=[(.exit 0,⟨23,.con tI::aN 4 [.own 0,.any,.any,.any,.con ae,.con tI],[.rowv Â]⟩,[aa])]}
def Bh (ρ:Type):Û ρ:=⟨[],108,0,RT,fun(p:Val (.pair tI aE)) (v:Val aF) a b=>qm p.1 p.2.1 p.2.2 v.1 v.2 (fun c d=>a (c,d)) (b 0)⟩
def ZO:List (Nat×Ø):=[(81,Ś)]
def E9 (ρ:Type):List (Û ρ):=[Bh ρ]
def CP (ρ:Type):Env ρ:=Ù ZO (E9 ρ)
def aex:Ø:=⟨[Ä,tI,ae],[Â,tI],fun(x:Val (.pair Ä ay))=>MF x.1 x.2.1 x.2.2⟩
def Fr:È:={pin:=3,cs:=[aa,tI,tI,tI,ac,aa,af,ab,aa,tI,tI,am],vs:=[tI,tI,tI,ac,aa,af,ab,aa],head:=⟨68,aN 2 (.box 3 0::aN 20 [.con aa,.con tI,.var tI]),[bi,bq,.rowf ae 0,bB]⟩,exits:=[(.ret,⟨68,aN 2 (.box 3 0::.any::.nilp::.var tI::aN 17 [.con aa,.con tI]),[bi,bq,.rowf ae 0,bB]⟩,[tI,tI,tI,ac,aa,af,ab,aa]),(.exit 0,⟨68,aN 2 (.box 3 0::aN 20 [.con aa,.con tI]),[bi,bq,.rowf ae 0,bB]⟩,[tI,tI,ac,aa,af,ab,aa])]}
def Fq (ρ:Type):Û ρ:=⟨[7,2],47,0,Fr,fun(p:Val (tyL Fr.cs)) (v:Val aC) b a=>uq p.1 p.2.1 v.1 v.2.1 v.2.2.1 v.2.2.2.1 v.2.2.2.2.1 v.2.2.2.2.2.1 v.2.2.2.2.2.2.1 v.2.2.2.2.2.2.2 (fun c d e f g h i j=>b (c,d,e,f,g,h,i,j)) (a 0) (a 1)⟩
def Fp:È:={pin:=0,cs:=[ax,aa,tI,tI,tI],vs:=[tI,tI,tI],head:=⟨87,aN 6 (.box 0 0::aN 3 (.con ax::aN 2 (.box 1 0::aN 51 [.con aa,.con tI,.var tI]))),[bq,.cells [.var tI,.var tI]]⟩,exits:=[(.exit 0,⟨87,aN 6 (.box 0 0::aN 3 (.con ax::aN 2 (.box 1 0::aN 51 [.con aa,.con tI]))),[bq,.cells [.var tI,.var tI]]⟩,[tI,tI])]}
def Fo (ρ:Type):Û ρ:=⟨[],45,0,Fp,fun(p:Val (tyL Fp.cs)) (v:Val Ą) a b=>un p.1 p.2.1 p.2.2.1 v.1 v.2.1 v.2.2 (fun c d e=>a (c,d,e)) (b 0)⟩
def acH:List (Nat×Ø):=[(48,i5),(66,œ),(67,iM),(68,ś),(106,aev),(107,YT),(108,YS),(110,nI),(111,ŏ)]
def Ke (ρ:Type):List (Û ρ):=[Fq ρ,Fo ρ]
def zx (ρ:Type):Env ρ:=Ù acH (Ke ρ)
def AH:Ø:=⟨[Í,ae],[tI],fun(x:Val aV)=>mn x.1 x.2⟩
def IG:List (Nat×Ø):=[(138,rS),(140,Cl),(141,U0)]
def qy (ρ:Type):List (Û ρ):=[]
def wj (ρ:Type):Env ρ:=Ù IG (qy ρ)
def AG:Ø:=⟨[ε],[tI],fun(x:Val ε)=>mm x⟩
def Ir:List (Nat×Ø):=[(66,œ),(68,ś),(92,AH)]
def qu (ρ:Type):List (Û ρ):=[]
def vX (ρ:Type):Env ρ:=Ù Ir (qu ρ)
def ir:Ø:=⟨[ac,Ð],[tI],fun(x:Val (.pair ac Ð))=>ţ x.1 x.2⟩
def kd:È:={pin:=0,cs:=[ac,tI,tI,tI,tI,tI,tI,tI,tI,tI],vs:=[tI],head:=⟨19,[.con ac,.any,.any,.box 0 0,.any,.any,.any,.con tI,.var tI],[bj]⟩,exits:=[(.ret,⟨19,[.con ac,.any,.any,.box 0 0,.var tI,.any,.any,.con tI],[bj]⟩,[tI]),(.exit 0,⟨19,[.con ac,.any,.any,.box 0 0,.any,.any,.any,.con tI],[bj]⟩,[])]}
def Ż (ρ:Type):Û ρ:=⟨[],248,0,kd,fun(p:Val (.pair ac aZ)) (v:Val tI) b a=>let A:=p.2.2.2.2;þ p.1 p.2.1 p.2.2.1 p.2.2.2.1 A.1 A.2.1 A.2.2.1 A.2.2.2.1 A.2.2.2.2.1 A.2.2.2.2.2 v (fun c=>b c) (a 0) (a 1)⟩
def lg:List (Nat×Ø):=[]
def Λ (ρ:Type):List (Û ρ):=[Ż ρ]
def Ŋ (ρ:Type):Env ρ:=Ù lg (Λ ρ)
def θ:Ø:=⟨[ac,Ð],[.bool],fun(x:Val (.pair ac Ð))=>ě x.1 x.2⟩
def jO:List (Nat×Ø):=[(248,ir)]
def ũ (ρ:Type):List (Û ρ):=[]
def Ž (ρ:Type):Env ρ:=Ù jO (ũ ρ)
def jq:Ø:=⟨[aa,Â],[tI],fun(x:Val aY)=>Χ x.1 x.2⟩
def mB:È:={pin:=0,cs:=[aa,tI,tI,tI],vs:=[tI],head:=⟨19,[.con aa,.any,.any,.box 0 0,.any,.any,.any,.con tI,.var tI],[bq]⟩,exits:=[(.ret,⟨19,[.con aa,.any,.any,.box 0 0,.var tI,.any,.any,.con tI],[bq]⟩,[tI]),(.exit 0,⟨19,[.con aa,.any,.any,.box 0 0,.any,.any,.any,.con tI],[bq]⟩,[])]}
def gO (ρ:Type):Û ρ:=⟨[],250,0,mB,fun(p:Val (.pair aa Ą)) (v:Val tI) b a=>Ĕ p.1 p.2.1 p.2.2.1 p.2.2.2 v (fun c=>b c) (a 0) (a 1)⟩
def nN:List (Nat×Ø):=[]
def iu (ρ:Type):List (Û ρ):=[gO ρ]
def Ű (ρ:Type):Env ρ:=Ù nN (iu ρ)
def iC:Ø:=⟨[aa,Â],[.bool],fun(x:Val aY)=>ė x.1 x.2⟩
def lM:List (Nat×Ø):=[(250,jq)]
def ξ (ρ:Type):List (Û ρ):=[]
def gP (ρ:Type):Env ρ:=Ù lM (ξ ρ)
def iK:Ø:=⟨[af,ņ],[tI],fun(x:Val (.pair af ņ))=>Ŵ x.1 x.2⟩
def lf:È:={pin:=0,cs:=[af,tI,tI,tI,tI,tI],vs:=[tI],head:=⟨19,[.con af,.any,.any,.box 0 0,.any,.any,.any,.con tI,.var tI],[bm]⟩,exits:=[(.ret,⟨19,[.con af,.any,.any,.box 0 0,.var tI,.any,.any,.con tI],[bm]⟩,[tI]),(.exit 0,⟨19,[.con af,.any,.any,.box 0 0,.any,.any,.any,.con tI],[bm]⟩,[])]}
def κ (ρ:Type):Û ρ:=⟨[],252,0,lf,fun(p:Val (.pair af bg)) (v:Val tI) b a=>ĉ p.1 p.2.1 p.2.2.1 p.2.2.2.1 p.2.2.2.2.1 p.2.2.2.2.2 v (fun c=>b c) (a 0) (a 1)⟩
def mD:List (Nat×Ø):=[]
def ψ (ρ:Type):List (Û ρ):=[κ ρ]
def š (ρ:Type):Env ρ:=Ù mD (ψ ρ)
def gN:Ø:=⟨[af,ņ],[.bool],fun(x:Val (.pair af ņ))=>Ċ x.1 x.2⟩
def kr:List (Nat×Ø):=[(252,iK)]
def ż (ρ:Type):List (Û ρ):=[]
def ο (ρ:Type):Env ρ:=Ù kr (ż ρ)
def aew:Ø:=⟨[Ä,Ä],[.bool],fun(x:Val (.pair Ä Ä))=>GO x.1 x.2⟩
def E8:È:={pin:=0,cs:=[ac,tI,tI,tI,ac,aa,af,ab,aa,tI,tI,ac,aa,af,ab,aa],vs:=[tI,ak],head:=⟨87,aN 2 (.box 0 0::.box 1 0::.any::.box 2 0::aN 10 [.con ac,.con tI,.var tI]),[bi,bi,bH,.mapv tI .bool]⟩,exits:=[(.exit 0,⟨87,aN 2 (.box 0 0::.box 1 0::.any::.box 2 0::aN 10 [.con ac,.con tI]),[bi,bi,bH,.mapv tI .bool]⟩,[ak])]}
def E7 (ρ:Type):Û ρ:=⟨[],109,0,E8,fun(p:Val (tyL E8.cs)) (v:Val (.pair tI ak)) a b=>ue p.1 p.2.1 v.1 v.2 (fun c d=>a (c,d)) (b 0)⟩
def EY:È:={pin:=6,cs:=[ae,ae,tI,tI,tI,ac,aa,af,ab,aa,tI,tI,ac,aa,af,ab,aa,ak,tI,tI,ae,ae,tI,tI,tI,tI,tI,tI,ae,ae,tI,tI,tI,tI],vs:=[tI],head:=⟨26,.con ae::.con ae::aN 10 [.con tI,.var tI],cn⟩,exits:=[(.ret,⟨26,.con ae::.con ae::aN 2 (.var .bool::aN 7 [.con tI]),cn⟩,[.bool]),(.exit 0,⟨26,.con ae::.con ae::aN 10 [.con tI],cn⟩,[])]}
def EX (ρ:Type):Û ρ:=⟨[14,3,1,2,4,5,1,38],176,0,EY,fun(p:Val (tyL EY.cs)) (v:Val tI) b a=>lR p.1 p.2.1 p.2.2.1 v (fun c=>b c) (a 0) (a 1)⟩
def EW:È:={pin:=6,cs:=[ae,ae,tI,tI,tI,ac,aa,af,ab,aa,tI,tI,ac,aa,af,ab,aa,ak,tI,tI,ae,ae,tI,tI,tI,tI,tI,tI,ae,ae,tI,tI,tI,tI],vs:=[tI],head:=⟨26,.con ae::.con ae::aN 10 [.con tI,.var tI],cn⟩,exits:=[(.ret,⟨26,.con ae::.con ae::aN 2 (.var .bool::aN 7 [.con tI]),cn⟩,[.bool]),(.exit 0,⟨26,.con ae::.con ae::aN 10 [.con tI],cn⟩,[])]}
def EV (ρ:Type):Û ρ:=⟨[14,3,1,2,4,5,1,45],176,0,EW,fun(p:Val (tyL EW.cs)) (v:Val tI) b a=>ud p.1 p.2.1 p.2.2.1 v (fun c=>b c) (a 0) (a 1)⟩
def E4:È:={pin:=5,cs:=[ab,tI,tI,tI,ac,aa,af,ab,aa,tI,tI,ac,aa,af,ab,aa,ak,tI,tI,ae,ae,tI,tI,tI,tI],vs:=[tI],head:=⟨19,.con ab::.fn 175 [(4,0)]::aN 5 [.con tI,.var tI],cp⟩,exits:=[(.ret,⟨19,[.con ab,.fn 175 [(4,0)],.any,.any,.var tI,.any,.any,.con tI],cp⟩,[tI]),(.exit 0,⟨19,.con ab::.fn 175 [(4,0)]::aN 5 [.con tI],cp⟩,[])]}
def EZ (ρ:Type):Û ρ:=⟨[14,3,1,2],213,0,E4,fun(p:Val (tyL E4.cs)) (v:Val tI) b a=>let A:=p.2.2.2.2.2.2.2.2.2.2.2.2.2.2.2.2.2;let B:=A.2.2.2.2;oZ p.1 p.2.1 A.1 A.2.1 A.2.2.1 A.2.2.2.1 B.1 B.2.1 B.2.2.1 B.2.2.2 v (fun c=>b c) (a 0) (a 1)⟩
def E6:È:={pin:=0,cs:=[ab,tI,tI,tI,ac,aa,af,ab,aa,tI,tI,ac,aa,af,ab,aa,ak],vs:=[tI],head:=⟨87,aN 2 (.box 0 0::.box 1 0::aN 4 (.fn 172 []::.fn 173 [(2,0)]::.fn 174 [(2,0)]::aN 18 [.con ab,.con tI,.var tI])),cq⟩,exits:=[(.ret,⟨87,aN 2 (.box 0 0::.box 1 0::.var .bool::aN 3 (.fn 172 []::.fn 173 [(2,0)]::.fn 174 [(2,0)]::aN 18 [.con ab,.con tI])),cq⟩,[.bool]),(.exit 2,⟨87,aN 2 (.box 0 0::.box 1 0::aN 4 (.fn 172 []::.fn 173 [(2,0)]::.fn 174 [(2,0)]::aN 18 [.con ab,.con tI])),cq⟩,[])]}
def E5 (ρ:Type):Û ρ:=⟨[],109,2,E6,fun(p:Val (tyL E6.cs)) (v:Val tI) b a=>o8 p.1 p.2.1 p.2.2.2.2.2.2.2.2.2.2.2.2.2.2.1 v (fun c=>b c) (a 0) (a 1)⟩
def EU:È:={pin:=6,cs:=[ac,tI,tI,tI,ac,aa,af,ab,aa,tI,tI,ac,aa,af,ab,aa,ak,ac],vs:=[tI],head:=⟨19,.con ac::.fn 215 [(5,0),(4,0)]::aN 5 [.con tI,.var tI],cr⟩,exits:=[(.ret,⟨19,[.con ac,.fn 215 [(5,0),(4,0)],.any,.any,.var tI,.any,.any,.con tI],cr⟩,[tI]),(.exit 0,⟨19,.con ac::.fn 215 [(5,0),(4,0)]::aN 5 [.con tI],cr⟩,[])]}
def ET (ρ:Type):Û ρ:=⟨[17,11,1,2,1,2],247,0,EU,fun(p:Val (tyL EU.cs)) (v:Val tI) b a=>oY p.1 p.2.1 p.2.2.2.2.2.2.2.2.2.2.2.2.2.2.2.2.2 v (fun c=>b c) (a 0) (a 1)⟩
def ES:È:={pin:=8,cs:=[aa,tI,tI,tI,ac,aa,af,ab,aa,tI,tI,ac,aa,af,ab,aa,ak,ac,aa],vs:=[tI],head:=⟨19,.con aa::.fn 218 [(7,0),(6,0)]::aN 5 [.con tI,.var tI],cu⟩,exits:=[(.ret,⟨19,[.con aa,.fn 218 [(7,0),(6,0)],.any,.any,.var tI,.any,.any,.con tI],cu⟩,[tI]),(.exit 0,⟨19,.con aa::.fn 218 [(7,0),(6,0)]::aN 5 [.con tI],cu⟩,[])]}
def ER (ρ:Type):Û ρ:=⟨[17,19,1,2,1,2],249,0,ES,fun(p:Val (tyL ES.cs)) (v:Val tI) b a=>jR p.1 p.2.1 p.2.2.2.2.2.2.2.2.2.2.2.2.2.2.2.2.1 p.2.2.2.2.2.2.2.2.2.2.2.2.2.2.2.2.2.2 v (fun c=>b c) (a 0) (a 1)⟩
def EQ:È:={pin:=10,cs:=[aa,tI,tI,tI,ac,aa,af,ab,aa,tI,tI,ac,aa,af,ab,aa,ak,ac,aa,aa],vs:=[tI],head:=⟨19,.con aa::.fn 218 [(9,0),(8,0)]::aN 5 [.con tI,.var tI],cw⟩,exits:=[(.ret,⟨19,[.con aa,.fn 218 [(9,0),(8,0)],.any,.any,.var tI,.any,.any,.con tI],cw⟩,[tI]),(.exit 0,⟨19,.con aa::.fn 218 [(9,0),(8,0)]::aN 5 [.con tI],cw⟩,[])]}
def EP (ρ:Type):Û ρ:=⟨[17,27,1,2,1,2],249,0,EQ,fun(p:Val (tyL EQ.cs)) (v:Val tI) b a=>lQ p.1 p.2.1 p.2.2.2.2.2.2.2.2.2.2.2.2.2.2.2.2.1 p.2.2.2.2.2.2.2.2.2.2.2.2.2.2.2.2.2.2.2 v (fun c=>b c) (a 0) (a 1)⟩
def EO:È:={pin:=12,cs:=[af,tI,tI,tI,ac,aa,af,ab,aa,tI,tI,ac,aa,af,ab,aa,ak,ac,aa,aa,af],vs:=[tI],head:=⟨19,.con af::.fn 221 [(11,0),(10,0)]::aN 5 [.con tI,.var tI],cz⟩,exits:=[(.ret,⟨19,[.con af,.fn 221 [(11,0),(10,0)],.any,.any,.var tI,.any,.any,.con tI],cz⟩,[tI]),(.exit 0,⟨19,.con af::.fn 221 [(11,0),(10,0)]::aN 5 [.con tI],cz⟩,[])]}
def EN (ρ:Type):Û ρ:=⟨[17,35,1,2,1,2],251,0,EO,fun(p:Val (tyL EO.cs)) (v:Val tI) b a=>Ĺ p.1 p.2.1 p.2.2.2.2.2.2.2.2.2.2.2.2.2.2.2.2.1 p.2.2.2.2.2.2.2.2.2.2.2.2.2.2.2.2.2.2.2.2 v (fun c=>b c) (a 0) (a 1)⟩
def EM:È:={pin:=14,cs:=[af,tI,tI,tI,ac,aa,af,ab,aa,tI,tI,ac,aa,af,ab,aa,ak,ac,aa,aa,af,af],vs:=[tI],head:=⟨19,.con af::.fn 221 [(13,0),(12,0)]::aN 5 [.con tI,.var tI],cA⟩,exits:=[(.ret,⟨19,[.con af,.fn 221 [(13,0),(12,0)],.any,.any,.var tI,.any,.any,.con tI],cA⟩,[tI]),(.exit 0,⟨19,.con af::.fn 221 [(13,0),(12,0)]::aN 5 [.con tI],cA⟩,[])]}
def EL (ρ:Type):Û ρ:=⟨[17,43,1,2,1,2],251,0,EM,fun(p:Val (tyL EM.cs)) (v:Val tI) b a=>Ē p.1 p.2.1 p.2.2.2.2.2.2.2.2.2.2.2.2.2.2.2.2.1 p.2.2.2.2.2.2.2.2.2.2.2.2.2.2.2.2.2.2.2.2.2 v (fun c=>b c) (a 0) (a 1)⟩
def acD:List (Nat×Ø):=[(216,θ),(219,iC),(222,gN)]
def J7 (ρ:Type):List (Û ρ):=[E7 ρ,EX ρ,EV ρ,EZ ρ,E5 ρ,ET ρ,ER ρ,EP ρ,EN ρ,EL ρ]
def Γ (ρ:Type):Env ρ:=Ù acD (J7 ρ)
def Tx:Ø:=⟨[Ä,ε],[.bool,tI],fun(x:Val (.pair Ä ε))=>zR x.1 x.2⟩
def Wj:List (Nat×Ø):=[(25,tJ),(39,AG),(66,œ),(109,aew)]
def Bo (ρ:Type):List (Û ρ):=[]
def Kd (ρ:Type):Env ρ:=Ù Wj (Bo ρ)
def M8:Ø:=⟨[],[.bool],fun(_:Unit)=>lW⟩
def Q6:List (Nat×Ø):=[(12,JL),(14,Nj),(21,YV),(24,Ni),(25,tJ),(31,YU),(35,Ng),(38,YW),(44,JI),(45,aex),(46,Tx)]
def wY (ρ:Type):List (Û ρ):=[]
def Ea (ρ:Type):Env ρ:=Ù Q6 (wY ρ)
def mq:Ø:=⟨[Â,tI,tI],[.bool],fun(x:Val ã)=>iU x.1 x.2.1 x.2.2⟩
def NG:List (Nat×Ø):=[]
def vM (ρ:Type):List (Û ρ):=[]
def AQ (ρ:Type):Env ρ:=Ù NG (vM ρ)
def HC:Ø:=⟨[tI,tI,tI],[.bool],fun(x:Val Ą)=>kQ x.1 x.2.1 x.2.2⟩
def afW:List (Nat×Ø):=[]
def N7 (ρ:Type):List (Û ρ):=[]
def Zy (ρ:Type):Env ρ:=Ù afW (N7 ρ)
def DR:Ø:=⟨[tI],[.bool],fun(x:Val tI)=>vn x⟩
def act:List (Nat×Ø):=[(164,HC)]
def JW (ρ:Type):List (Û ρ):=[]
def TL (ρ:Type):Env ρ:=Ù act (JW ρ)
def UY:Ø:=⟨[tI,tI],[tI],fun(x:Val Â)=>zP x.1 x.2⟩
def VZ:È:={pin:=0,cs:=[],vs:=[tI,tI],head:=⟨14,[.var tI,.var tI],[]⟩,exits:=[(.exit 0,⟨14,[.var tI],[]⟩,[tI])]}
def EC (ρ:Type):Û ρ:=⟨[],209,0,VZ,fun(p:Unit) (v:Val Â) a b=>t7 v.1 v.2 (fun c d=>a (c,d)) (b 0)⟩
def acz:List (Nat×Ø):=[]
def J2 (ρ:Type):List (Û ρ):=[EC ρ]
def H8 (ρ:Type):Env ρ:=Ù acz (J2 ρ)
def UZ:Ø:=⟨[tI],[tI],fun(x:Val tI)=>GN x⟩
def acB:List (Nat×Ø):=[]
def J5 (ρ:Type):List (Û ρ):=[]
def TQ (ρ:Type):Env ρ:=Ù acB (J5 ρ)
def Tt:Ø:=⟨[Â],[.bool],fun(x:Val Â)=>zN x⟩
def VU:List (Nat×Ø):=[(209,UY),(210,UZ)]
def Be (ρ:Type):List (Û ρ):=[]
def JX (ρ:Type):Env ρ:=Ù VU (Be ρ)
def Tq:Ø:=⟨[Ð],[.bool],fun(x:Val Ð)=>zL x⟩
def Vu:List (Nat×Ø):=[(94,mq),(100,DR),(163,Tt),(164,HC)]
def AX (ρ:Type):List (Û ρ):=[]
def JR (ρ:Type):Env ρ:=Ù Vu (AX ρ)
def wQ:Ø:=⟨[Ä,tI],[tI],fun(x:Val aG)=>pq x.1 x.2⟩
def Rv:È:={pin:=0,cs:=[tI,tI,tI,ac,aa,af,ab,aa],vs:=[tI],head:=⟨22,[.any,.con tI,.box 0 0,.any,.any,.var tI],[bi]⟩,exits:=[(.ret,⟨22,[.any,.con tI,.box 0 0,.any,.var tI],[bi]⟩,[tI]),(.exit 0,⟨22,[.any,.con tI,.box 0 0],[bi]⟩,[])]}
def A9 (ρ:Type):Û ρ:=⟨[],166,0,Rv,fun(p:Val aC) (v:Val tI) b a=>qg p.1 p.2.2.2.1 v (fun c=>b c) (a 0) (a 1)⟩
def ZA:List (Nat×Ø):=[]
def Ey (ρ:Type):List (Û ρ):=[A9 ρ]
def CF (ρ:Type):Env ρ:=Ù ZA (Ey ρ)
def rQ:Ø:=⟨[Ä,tI,tI],[tI],fun(x:Val aD)=>lY x.1 x.2.1 x.2.2⟩
def VB:List (Nat×Ø):=[(166,wQ)]
def A1 (ρ:Type):List (Û ρ):=[]
def JT (ρ:Type):Env ρ:=Ù VB (A1 ρ)
def YI:Ø:=⟨[Ä],[tI],fun(x:Val Ä)=>GH x⟩
def Ra:È:={pin:=0,cs:=[tI,tI,ac,aa,af,ab,aa],vs:=[tI],head:=⟨37,[.any,.box 0 0,.any,.var tI],[bi]⟩,exits:=[(.ret,⟨37,[.any,.box 0 0,.var tI],[bi]⟩,[tI]),(.exit 0,⟨37,[.any,.box 0 0],[bi]⟩,[])]}
def AP (ρ:Type):Û ρ:=⟨[],96,0,Ra,fun(p:Val ai) (v:Val tI) b a=>let A:=p.2.2.2.2;pT p.1 p.2.1 p.2.2.1 p.2.2.2.1 A.1 A.2.1 A.2.2 v (fun c=>b c) (a 0) (a 1)⟩
def Zn:List (Nat×Ø):=[(100,DR),(101,rQ)]
def Ee (ρ:Type):List (Û ρ):=[AP ρ]
def Cu (ρ:Type):Env ρ:=Ù Zn (Ee ρ)
def Tn:Ø:=⟨[Ä],[tI],fun(x:Val Ä)=>zK x⟩
def NI:È:={pin:=0,cs:=[tI,tI,tI,ac,aa,af,ab,aa,tI,tI,tI,tI],vs:=[tI],head:=⟨111,[.any,.box 0 0,.any,.con tI,.box 1 0,.any,.var tI],bT⟩,exits:=[(.ret,⟨111,[.any,.box 0 0,.var tI,.con tI,.box 1 0],bT⟩,[tI]),(.exit 2,⟨111,[.any,.box 0 0,.any,.con tI,.box 1 0],bT⟩,[])]}
def xd (ρ:Type):Û ρ:=⟨[],97,2,NI,fun(p:Val (.pair tI aw)) (v:Val tI) b a=>let A:=p.2.2.2.2.2;nO p.1 A.1 A.2.2.2.1 A.2.2.2.2.1 A.2.2.2.2.2.1 v (fun c=>b c) (a 0) (a 1)⟩
def NH:È:={pin:=0,cs:=[tI,tI,tI,ac,aa,af,ab,aa,tI,tI,tI,tI],vs:=[tI],head:=⟨111,[.any,.box 0 0,.any,.con tI,.box 1 0,.any,.any,.var tI],bT⟩,exits:=[(.ret,⟨111,[.any,.box 0 0,.var tI,.con tI,.box 1 0],bT⟩,[tI]),(.exit 4,⟨111,[.any,.box 0 0,.any,.con tI,.box 1 0],bT⟩,[])]}
def xc (ρ:Type):Û ρ:=⟨[],97,4,NH,fun(p:Val (.pair tI aw)) (v:Val tI) b a=>let A:=p.2.2.2.2;let B:=A.2.2.2.2;ky A.1 B.1 B.2.1 B.2.2.1 v (fun c=>b c) (a 0) (a 1)⟩
def NJ:È:={pin:=0,cs:=[tI,tI,ac,aa,af,ab,aa],vs:=[tI],head:=⟨111,[.any,.box 0 0,.any,.var tI],[bi]⟩,exits:=[(.ret,⟨111,[.any,.box 0 0,.var tI],[bi]⟩,[tI]),(.exit 0,⟨111,[.any,.box 0 0],[bi]⟩,[])]}
def xe (ρ:Type):Û ρ:=⟨[],97,0,NJ,fun(p:Val ai) (v:Val tI) b a=>let A:=p.2.2.2.2;nP p.1 p.2.1 p.2.2.1 p.2.2.2.1 A.1 A.2.1 A.2.2 v (fun c=>b c) (a 0) (a 1)⟩
def Vs:List (Nat×Ø):=[(94,mq),(101,rQ),(164,HC)]
def AU (ρ:Type):List (Û ρ):=[xd ρ,xc ρ,xe ρ]
def mG (ρ:Type):Env ρ:=Ù Vs (AU ρ)
def YM:Ø:=⟨[ae],[.bool],fun(x:Val ae)=>yN x⟩
def Ro:È:={pin:=0,cs:=[ae],vs:=[tI],head:=⟨35,[.con ae,.any,.any,.var tI],[]⟩,exits:=[(.ret,⟨35,[.con ae,.any,.var .bool],[]⟩,[.bool]),(.exit 0,⟨35,[.con ae],[]⟩,[])]}
def A2 (ρ:Type):Û ρ:=⟨[],165,0,Ro,fun(p:Val ae) (v:Val tI) b a=>pZ p v (fun c=>b c) (a 0) (a 1)⟩
def Zt:List (Nat×Ø):=[(164,HC)]
def Ep (ρ:Type):List (Û ρ):=[A2 ρ]
def CA (ρ:Type):Env ρ:=Ù Zt (Ep ρ)
def Tm:Ø:=⟨[Ì],[.bool],fun(x:Val Ì)=>zJ x⟩
def Vq:List (Nat×Ø):=[(94,mq),(100,DR),(164,HC),(165,YM)]
def AR (ρ:Type):List (Û ρ):=[]
def JO (ρ:Type):Env ρ:=Ù Vq (AR ρ)
def Na:Ø:=⟨[Ä,tI,tI],[ņ,.bool],fun(x:Val aD)=>yO x.1 x.2.1 x.2.2⟩
def Rq:È:={pin:=0,cs:=[tI,tI,tI,tI,ac,aa,af,ab,aa],vs:=[tI,tI,tI,tI,tI],head:=⟨42,[.any,.con tI,.con tI,.box 0 0,.any,.any,.box 1 0,.any,.var tI],[bi,bO]⟩,exits:=[(.ret,⟨42,[.any,.con tI,.con tI,.box 0 0,.any,.any,.box 1 0,.var .bool],[bi,bO]⟩,[.bool,tI,tI,tI,tI]),(.exit 0,⟨42,[.any,.con tI,.con tI,.box 0 0,.any,.any,.box 1 0],[bi,bO]⟩,[tI,tI,tI,tI])]}
def A6 (ρ:Type):Û ρ:=⟨[],167,0,Rq,fun(p:Val (.pair tI aC)) (v:Val bg) b a=>qe p.1 p.2.1 p.2.2.2.2.2.2.1 v.1 v.2.1 v.2.2.1 v.2.2.2.1 v.2.2.2.2 (fun c d e f g=>b (c,d,e,f,g)) (a 0) (a 1)⟩
def Zw:List (Nat×Ø):=[]
def Et (ρ:Type):List (Û ρ):=[A6 ρ]
def CC (ρ:Type):Env ρ:=Ù Zw (Et ρ)
def aeq:Ø:=⟨[ae,tI],[.bool],fun(x:Val aE)=>MC x.1 x.2⟩
def VK:È:={pin:=0,cs:=[ae,tI],vs:=[tI],head:=⟨18,[.con ae,.con tI,.any,.any,.any,.var tI],[]⟩,exits:=[(.ret,⟨18,[.con ae,.con tI,.any,.any,.var .bool],[]⟩,[.bool]),(.exit 0,⟨18,[.con ae,.con tI],[]⟩,[])]}
def Ew (ρ:Type):Û ρ:=⟨[],211,0,VK,fun(p:Val aE) (v:Val tI) b a=>tY p.1 p.2 v (fun c=>b c) (a 0) (a 1)⟩
def acs:List (Nat×Ø):=[]
def JU (ρ:Type):List (Û ρ):=[Ew ρ]
def HX (ρ:Type):Env ρ:=Ù acs (JU ρ)
def Nb:Ø:=⟨[ae,ae],[ae],fun(x:Val ba)=>jy x.1 x.2⟩
def Rr:È:={pin:=0,cs:=[ae,ae],vs:=[tI,ae],head:=⟨28,[.con ae,.con ae,.any,.any,.any,.own 0,.var tI],[.rowv tI]⟩,exits:=[(.exit 0,⟨28,[.con ae,.con ae,.any,.any,.any,.own 0],[.rowv tI]⟩,[ae])]}
def A7 (ρ:Type):Û ρ:=⟨[],168,0,Rr,fun(p:Val ba) (v:Val ay) a b=>qf p.1 p.2 v.1 v.2 (fun c d=>a (c,d)) (b 0)⟩
def Zx:List (Nat×Ø):=[(211,aeq)]
def Eu (ρ:Type):List (Û ρ):=[A7 ρ]
def CD (ρ:Type):Env ρ:=Ù Zx (Eu ρ)
def DQ:Ø:=⟨[Ä,Ì],[tI],fun(x:Val aB)=>jg x.1 x.2⟩
def Eh:È:={pin:=0,cs:=[tI,tI,ac,aa,af,ab,aa,tI,tI,ae,ae,tI,tI,tI,tI,ae],vs:=[tI],head:=⟨90,[.any,.any,.box 0 0,.box 1 0,.any,.own 2,.var tI],bU⟩,exits:=[(.ret,⟨90,[.any,.any,.box 0 0,.box 1 0,.var tI,.own 2],bU⟩,[tI]),(.exit 0,⟨90,[.any,.any,.box 0 0,.box 1 0,.any,.own 2],bU⟩,[])]}
def pW (ρ:Type):Û ρ:=⟨[],99,0,Eh,fun(p:Val ar) (v:Val tI) b a=>let A:=p.2.2.2.2;jF p.1 p.2.1 p.2.2.1 p.2.2.2.1 A.1 A.2.1 A.2.2.1 A.2.2.2.2.2.2.2.2.2.2.2 v (fun c=>b c) (a 0) (a 1)⟩
def Eg:È:={pin:=0,cs:=[tI,tI,ac,aa,af,ab,aa,tI,tI,ae,ae,tI,tI,tI,tI,ae],vs:=[tI],head:=⟨90,[.any,.any,.box 0 0,.box 1 0,.any,.own 2,.any,.var tI],bU⟩,exits:=[(.ret,⟨90,[.any,.any,.box 0 0,.box 1 0,.var tI,.own 2],bU⟩,[tI]),(.exit 2,⟨90,[.any,.any,.box 0 0,.box 1 0,.any,.own 2],bU⟩,[])]}
def pV (ρ:Type):Û ρ:=⟨[],99,2,Eg,fun(p:Val ar) (v:Val tI) b a=>let A:=p.2.2.2.2;iv p.1 p.2.1 p.2.2.1 p.2.2.2.1 A.1 A.2.1 A.2.2.1 A.2.2.2.2.1 A.2.2.2.2.2.2.2.2.2.2.2 v (fun c=>b c) (a 0) (a 1)⟩
def Ef:È:={pin:=0,cs:=[tI,tI,ac,aa,af,ab,aa,tI,tI,ae,ae,tI,tI,tI,tI,ae],vs:=[tI],head:=⟨90,[.any,.any,.box 0 0,.box 1 0,.any,.own 2,.any,.any,.var tI],bU⟩,exits:=[(.ret,⟨90,[.any,.any,.box 0 0,.box 1 0,.var tI,.own 2],bU⟩,[tI]),(.exit 4,⟨90,[.any,.any,.box 0 0,.box 1 0,.any,.own 2],bU⟩,[])]}
def pU (ρ:Type):Û ρ:=⟨[],99,4,Ef,fun(p:Val ar) (v:Val tI) b a=>let A:=p.2.2.2.2;Β p.1 p.2.1 p.2.2.1 p.2.2.2.1 A.1 A.2.1 A.2.2.1 A.2.2.2.2.1 A.2.2.2.2.2.2.2.2.2.2.2 v (fun c=>b c) (a 0) (a 1)⟩
def Lg:List (Nat×Ø):=[(101,rQ),(166,wQ),(167,Na),(168,Nb)]
def sf (ρ:Type):List (Û ρ):=[pW ρ,pV ρ,pU ρ]
def iN (ρ:Type):Env ρ:=Ù Lg (sf ρ)
def Mj:Ø:=⟨[ae,ae],[tI],fun(x:Val ba)=>od x.1 x.2⟩
def aco:List (Nat×Ø):=[(168,Nb)]
def JP (ρ:Type):List (Û ρ):=[]
def TK (ρ:Type):Env ρ:=Ù aco (JP ρ)
def YJ:Ø:=⟨[Ä,Ð,tI],[.bool],fun(x:Val (.pair Ä (.pair Ð tI)))=>GI x.1 x.2.1 x.2.2⟩
def Rh:È:={pin:=0,cs:=[tI,tI,tI,ac,aa,af,ab,aa,tI,tI,tI,tI,tI,tI,tI,tI],vs:=[tI],head:=⟨76,[.any,.any,.con tI,.box 0 0,.box 1 0,.any,.any,.var tI],[bi,bj]⟩,exits:=[(.ret,⟨76,[.any,.any,.con tI,.box 0 0,.box 1 0,.any,.var .bool],[bi,bj]⟩,[.bool]),(.exit 0,⟨76,[.any,.any,.con tI,.box 0 0,.box 1 0],[bi,bj]⟩,[])]}
def AZ (ρ:Type):Û ρ:=⟨[],169,0,Rh,fun(p:Val aA) (v:Val tI) b a=>pX p.1 p.2.2.2.2.2.2.1 p.2.2.2.2.2.2.2.2.1 v (fun c=>b c) (a 0) (a 1)⟩
def Rg:È:={pin:=0,cs:=[tI,tI,tI,ac,aa,af,ab,aa,tI,tI,tI,tI,tI,tI,tI,tI],vs:=[tI],head:=⟨76,aN 2 (.con tI::.box 0 0::.box 1 0::aN 4 [.var tI]),[bi,bj]⟩,exits:=[(.ret,⟨76,[.any,.any,.con tI,.box 0 0,.box 1 0,.any,.var .bool],[bi,bj]⟩,[.bool]),(.exit 2,⟨76,[.any,.any,.con tI,.box 0 0,.box 1 0],[bi,bj]⟩,[])]}
def AY (ρ:Type):Û ρ:=⟨[],169,2,Rg,fun(p:Val aA) (v:Val tI) b a=>mH p.1 p.2.2.2.2.2.2.2.1 p.2.2.2.2.2.2.2.2.1 v (fun c=>b c) (a 0) (a 1)⟩
def Zp:List (Nat×Ø):=[(158,Mj)]
def Ei (ρ:Type):List (Û ρ):=[AZ ρ,AY ρ]
def tV (ρ:Type):Env ρ:=Ù Zp (Ei ρ)
def rR:Ø:=⟨[Ä],[aa],fun(x:Val Ä)=>jh x⟩
def NX:È:={pin:=0,cs:=[tI,tI,ac,aa,af,ab,aa],vs:=[tI,ae],head:=⟨114,[.any,.box 0 0,.any,.own 1,.var tI],cB⟩,exits:=[(.exit 0,⟨114,[.any,.box 0 0,.any,.own 1],cB⟩,[ae])]}
def xp (ρ:Type):Û ρ:=⟨[],102,0,NX,fun(p:Val ai) (v:Val ay) a b=>nT p.2.2.1 v.1 v.2 (fun c d=>a (c,d)) (b 0)⟩
def NW:È:={pin:=0,cs:=[tI,tI,ac,aa,af,ab,aa],vs:=[tI,ae],head:=⟨114,[.any,.box 0 0,.any,.own 1,.any,.var tI],cB⟩,exits:=[(.exit 2,⟨114,[.any,.box 0 0,.any,.own 1],cB⟩,[ae])]}
def xo (ρ:Type):Û ρ:=⟨[],102,2,NW,fun(p:Val ai) (v:Val ay) a b=>nS p.2.2.2.2.2.1 v.1 v.2 (fun c d=>a (c,d)) (b 0)⟩
def NV:È:={pin:=0,cs:=[tI,tI,ac,aa,af,ab,aa],vs:=[tI,ae],head:=⟨114,[.any,.box 0 0,.any,.own 1,.any,.any,.var tI],cB⟩,exits:=[(.exit 4,⟨114,[.any,.box 0 0,.any,.own 1],cB⟩,[ae])]}
def xn (ρ:Type):Û ρ:=⟨[],102,4,NV,fun(p:Val ai) (v:Val ay) a b=>nR p.2.2.2.2.2.2 v.1 v.2 (fun c d=>a (c,d)) (b 0)⟩
def xh:È:={pin:=0,cs:=[tI,tI,tI,tI,ac,aa,af,ab,aa,ae,aa],vs:=[tI,tI],head:=⟨114,[.any,.box 0 0,.any,.own 1,.any,.any,.any,.own 2,.con tI,.con tI,.var tI,.var tI],[bi,.rowc tI,.rowc Â]⟩,exits:=[(.exit 10,⟨114,[.any,.box 0 0,.any,.own 1,.any,.any,.any,.own 2,.con tI,.con tI,.var tI],[bi,.rowc tI,.rowc Â]⟩,[tI])]}
def xg (ρ:Type):Û ρ:=⟨[],102,10,xh,fun(p:Val (tyL xh.cs)) (v:Val Â) a b=>kz p.2.1 p.2.2.2.2.2.2.2.2.2.1 v.1 v.2 (fun c d=>a (c,d)) (b 0)⟩
def xj:È:={pin:=0,cs:=[tI,tI,tI,ac,aa,af,ab,aa,ae],vs:=[tI,aa],head:=⟨114,[.any,.box 0 0,.any,.own 1,.any,.any,.any,.own 2,.con tI,.var tI],cD⟩,exits:=[(.exit 8,⟨114,[.any,.box 0 0,.any,.own 1,.any,.any,.any,.own 2,.con tI],cD⟩,[aa])]}
def xi (ρ:Type):Û ρ:=⟨[],102,8,xj,fun(p:Val (tyL xj.cs)) (v:Val aF) a b=>let A:=p.2.2.2.2;kB p.1 p.2.1 p.2.2.1 p.2.2.2.1 A.1 A.2.1 A.2.2.1 A.2.2.2.1 A.2.2.2.2 v.1 v.2 (fun c d=>a (c,d)) (b 0)⟩
def xm:È:={pin:=0,cs:=[tI,tI,ac,aa,af,ab,aa,ae],vs:=[tI,aa],head:=⟨114,[.any,.box 0 0,.any,.own 1,.any,.any,.any,.own 2,.var tI],cD⟩,exits:=[(.exit 6,⟨114,[.any,.box 0 0,.any,.own 1,.any,.any,.any,.own 2],cD⟩,[aa])]}
def xl (ρ:Type):Û ρ:=⟨[],102,6,xm,fun(p:Val (tyL xm.cs)) (v:Val aF) a b=>let A:=p.2.2.2.2;nQ p.1 p.2.1 p.2.2.1 p.2.2.2.1 A.1 A.2.1 A.2.2.1 A.2.2.2 v.1 v.2 (fun c d=>a (c,d)) (b 0)⟩
def VE:List (Nat×Ø):=[(169,YJ)]
def A3 (ρ:Type):List (Û ρ):=[xp ρ,xo ρ,xn ρ,xg ρ,xi ρ,xl ρ]
def gQ (ρ:Type):Env ρ:=Ù VE (A3 ρ)
def zo:Ø:=⟨[Ä,Â],[tI],fun(x:Val aD)=>ō x.1 x.2⟩
def N6:È:={pin:=0,cs:=[aa,tI,tI],vs:=[tI],head:=⟨23,[.any,.any,.any,.box 0 0,.any,.con aa,.var tI],[bq]⟩,exits:=[(.ret,⟨23,[.any,.any,.any,.box 0 0,.var tI,.con aa],[bq]⟩,[tI]),(.exit 0,⟨23,[.any,.any,.any,.box 0 0,.any,.con aa],[bq]⟩,[])]}
def xq (ρ:Type):Û ρ:=⟨[],52,0,N6,fun(p:Val aY) (v:Val tI) b a=>nV p.1 p.2.1 p.2.2 v (fun c=>b c) (a 0) (a 1)⟩
def VJ:List (Nat×Ø):=[(102,rR)]
def A8 (ρ:Type):List (Û ρ):=[xq ρ]
def xr (ρ:Type):Env ρ:=Ù VJ (A8 ρ)
def YK:Ø:=⟨[Ä,tI,tI],[.bool],fun(x:Val aD)=>GJ x.1 x.2.1 x.2.2⟩
def Ri:È:={pin:=0,cs:=[tI,tI,tI,tI,ac,aa,af,ab,aa],vs:=[tI],head:=⟨33,[.any,.con tI,.con tI,.box 0 0,.any,.any,.any,.var tI],[bi]⟩,exits:=[(.ret,⟨33,[.any,.con tI,.con tI,.box 0 0,.any,.any,.var .bool],[bi]⟩,[.bool]),(.exit 0,⟨33,[.any,.con tI,.con tI,.box 0 0],[bi]⟩,[])]}
def A0 (ρ:Type):Û ρ:=⟨[],212,0,Ri,fun(p:Val (.pair tI aC)) (v:Val tI) b a=>pY p.1 p.2.1 p.2.2.2.2.2.1 v (fun c=>b c) (a 0) (a 1)⟩
def Zq:List (Nat×Ø):=[]
def Ej (ρ:Type):List (Û ρ):=[A0 ρ]
def Cy (ρ:Type):Env ρ:=Ù Zq (Ej ρ)
def YN:Ø:=⟨[Ä,tI,tI,tI],[tI],fun(x:Val (.pair Ä Ą))=>ta x.1 x.2.1 x.2.2.1 x.2.2.2⟩
def A5:È:={pin:=0,cs:=[tI,tI,tI,tI,tI,ac,aa,af,ab,aa],vs:=[tI,tI],head:=⟨48,.any::.con tI::.any::.con tI::.box 0 0::aN 4 [.con tI,.var tI,.var tI],[bi]⟩,exits:=[(.exit 0,⟨48,.any::.con tI::.any::.con tI::.box 0 0::aN 4 [.con tI,.var tI],[bi]⟩,[tI])]}
def A4 (ρ:Type):Û ρ:=⟨[],170,0,A5,fun(p:Val (tyL A5.cs)) (v:Val Â) a b=>let A:=p.2.2.2.2;qd p.1 p.2.1 p.2.2.1 p.2.2.2.1 A.1 A.2.1 A.2.2.1 A.2.2.2.1 A.2.2.2.2.1 A.2.2.2.2.2 v.1 v.2 (fun c d=>a (c,d)) (b 0)⟩
def Zu:List (Nat×Ø):=[(166,wQ),(167,Na),(212,YK)]
def Er (ρ:Type):List (Û ρ):=[A4 ρ]
def CB (ρ:Type):Env ρ:=Ù Zu (Er ρ)
def Ci:Ø:=⟨[tI,tI],[Ķ],fun(x:Val Â)=>pr x.1 x.2⟩
def RA:List (Nat×Ø):=[(209,UY),(210,UZ)]
def xI (ρ:Type):List (Û ρ):=[]
def Ez (ρ:Type):Env ρ:=Ù RA (xI ρ)
def aeu:Ø:=⟨[Â,Â],[Ķ],fun(x:Val ã)=>Xs x.1 x.2⟩
def acA:List (Nat×Ø):=[(285,Ci)]
def J4 (ρ:Type):List (Û ρ):=[]
def TP (ρ:Type):Env ρ:=Ù acA (J4 ρ)
def aes:Ø:=⟨[Â],[Â],fun(x:Val Â)=>Xr x⟩
def acx:List (Nat×Ø):=[]
def J0 (ρ:Type):List (Û ρ):=[]
def TN (ρ:Type):Env ρ:=Ù acx (J0 ρ)
def aer:Ø:=⟨[Â,Â],[Ķ],fun(x:Val ã)=>MD x.1 x.2⟩
def acw:List (Nat×Ø):=[(268,aeu),(269,aes)]
def JY (ρ:Type):List (Û ρ):=[]
def TM (ρ:Type):Env ρ:=Ù acw (JY ρ)
def Tp:Ø:=⟨[Ä,tI],[Â],fun(x:Val aG)=>s8 x.1 x.2⟩
def Vt:List (Nat×Ø):=[(166,wQ)]
def AW (ρ:Type):List (Û ρ):=[]
def JQ (ρ:Type):Env ρ:=Ù Vt (AW ρ)
def YQ:Ø:=⟨[Ķ,Ķ],[rL],fun(x:Val (.pair Ķ Ķ))=>GK x.1 x.2⟩
def ZE:List (Nat×Ø):=[]
def EB (ρ:Type):List (Û ρ):=[]
def Ou (ρ:Type):Env ρ:=Ù ZE (EB ρ)
def aet:Ø:=⟨[Â,Â],[Ķ],fun(x:Val ã)=>vq x.1 x.2⟩
def acy:List (Nat×Ø):=[(285,Ci)]
def J1 (ρ:Type):List (Û ρ):=[]
def TO (ρ:Type):Env ρ:=Ù acy (J1 ρ)
def Tu:Ø:=⟨[ã,Â],[rL],fun(x:Val (.pair ã Â))=>zO x.1 x.2⟩
def VW:List (Nat×Ø):=[(270,YQ),(271,aet)]
def Bf (ρ:Type):List (Û ρ):=[]
def JZ (ρ:Type):Env ρ:=Ù VW (Bf ρ)
def Nc:Ø:=⟨[Ä,Ì],[ã],fun(x:Val aB)=>vm x.1 x.2⟩
def Ru:List (Nat×Ø):=[(158,Mj),(242,aer),(243,Tp),(244,Tu)]
def xt (ρ:Type):List (Û ρ):=[]
def Ex (ρ:Type):Env ρ:=Ù Ru (xt ρ)
def Tr:Ø:=⟨[Ä,Ì],[Â],fun(x:Val aB)=>zM x.1 x.2⟩
def VN:List (Nat×Ø):=[]
def Ba (ρ:Type):List (Û ρ):=[]
def JV (ρ:Type):Env ρ:=Ù VN (Ba ρ)
def ahE:Ø:=⟨[tI,tI],[tI],fun(x:Val Â)=>adj x.1 x.2⟩
def afX:List (Nat×Ø):=[]
def On (ρ:Type):List (Û ρ):=[]
def ZC (ρ:Type):Env ρ:=Ù afX (On ρ)
def YR:Ø:=⟨[Â],[tI],fun(x:Val Â)=>GM x⟩
def ZJ:List (Nat×Ø):=[(245,ahE)]
def ED (ρ:Type):List (Û ρ):=[]
def Ow (ρ:Type):Env ρ:=Ù ZJ (ED ρ)
def YP:Ø:=⟨[tI,tI],[tI],fun(x:Val Â)=>Qe x.1 x.2⟩
def ZD:List (Nat×Ø):=[]
def EA (ρ:Type):List (Û ρ):=[]
def Oq (ρ:Type):Env ρ:=Ù ZD (EA ρ)
def Tv:Ø:=⟨[Â],[tI],fun(x:Val Â)=>zQ x⟩
def V1:List (Nat×Ø):=[(246,YP)]
def Bg (ρ:Type):List (Û ρ):=[]
def J3 (ρ:Type):Env ρ:=Ù V1 (Bg ρ)
def YL:Ø:=⟨[Ä,Ì],[Â],fun(x:Val aB)=>s9 x.1 x.2⟩
def Zs:List (Nat×Ø):=[(205,Nc),(206,Tr),(207,YR),(208,Tv)]
def Eo (ρ:Type):List (Û ρ):=[]
def NR (ρ:Type):Env ρ:=Ù Zs (Eo ρ)
def UX:Ø:=⟨[Ä],[vI],fun(x:Val Ä)=>vl x⟩
def Vy:È:={pin:=0,cs:=[aa,tI,tI,tI,ac,aa,af,ab,aa,tI,tI,tI,tI,tI,tI,tI,tI],vs:=[tI,ah,aa],head:=⟨182,[.any,.box 0 0,.box 1 0,.box 2 0,.con aa,.con tI,.box 3 0,.var tI],[bi,bP,.cells [.own 4,.own 5],bj,.rowv Ą,.rowv Â]⟩,exits:=[(.exit 2,⟨182,[.any,.box 0 0,.box 1 0,.box 2 0,.con aa,.con tI,.box 3 0],[bi,bP,.cells [.own 4,.own 5],bj,.rowv Ą,.rowv Â]⟩,[ah,aa])]}
def El (ρ:Type):Û ρ:=⟨[],103,2,Vy,fun(p:Val (.pair aa aA)) (v:Val aL) a b=>let A:=p.2.2.2.2;let B:=A.2.2.2.2;oR p.1 p.2.1 p.2.2.1 p.2.2.2.1 A.1 A.2.1 A.2.2.1 A.2.2.2.1 B.1 B.2.1 B.2.2.1 B.2.2.2.1 B.2.2.2.2.1 B.2.2.2.2.2.1 v.1 v.2.1 v.2.2 (fun c d e=>a (c,d,e)) (b 0)⟩
def Vz:È:={pin:=0,cs:=[aa,tI,tI,ac,aa,af,ab,aa],vs:=[tI,ah,aa],head:=⟨182,[.any,.box 0 0,.box 1 0,.box 2 0,.con aa,.var tI],cE⟩,exits:=[(.exit 0,⟨182,[.any,.box 0 0,.box 1 0,.box 2 0,.con aa],cE⟩,[ah,aa])]}
def Em (ρ:Type):Û ρ:=⟨[],103,0,Vz,fun(p:Val (.pair aa ai)) (v:Val aL) a b=>let A:=p.2.2.2.2;tX p.1 p.2.1 p.2.2.1 p.2.2.2.1 A.1 A.2.1 A.2.2.1 A.2.2.2 v.1 v.2.1 v.2.2 (fun c d e=>a (c,d,e)) (b 0)⟩
def Vx:È:={pin:=0,cs:=[tI,tI,ac,aa,af,ab,aa],vs:=[tI,ah,aa],head:=⟨182,.any::.box 0 0::.box 1 0::.box 2 0::aN 5 [.var tI],cE⟩,exits:=[(.exit 4,⟨182,[.any,.box 0 0,.box 1 0,.box 2 0],cE⟩,[ah,aa])]}
def Ek (ρ:Type):Û ρ:=⟨[],103,4,Vx,fun(p:Val ai) (v:Val aL) a b=>let A:=p.2.2.2.2;tW p.1 p.2.1 p.2.2.1 p.2.2.2.1 A.1 A.2.1 A.2.2 v.1 v.2.1 v.2.2 (fun c d e=>a (c,d,e)) (b 0)⟩
def acp:List (Nat×Ø):=[(52,zo),(102,rR),(158,Mj),(170,YN),(171,YL)]
def JS (ρ:Type):List (Û ρ):=[El ρ,Em ρ,Ek ρ]
def sg (ρ:Type):Env ρ:=Ù acp (JS ρ)
def HD:Ø:=⟨[Ä],[tI],fun(x:Val Ä)=>lZ x⟩
def Oe:È:={pin:=0,cs:=[tI,tI,ac,aa,af,ab,aa],vs:=[tI],head:=⟨170,[.any,.box 0 0,.any,.var tI],[bi]⟩,exits:=[(.ret,⟨170,[.any,.box 0 0,.var tI],[bi]⟩,[tI]),(.exit 0,⟨170,[.any,.box 0 0],[bi]⟩,[])]}
def xx (ρ:Type):Û ρ:=⟨[],41,0,Oe,fun(p:Val ai) (v:Val tI) b a=>nX p.2.2.1 v (fun c=>b c) (a 0) (a 1)⟩
def Oc:È:={pin:=0,cs:=[tI,tI,tI,ac,aa,af,ab,aa],vs:=[tI],head:=⟨170,.any::.box 0 0::aN 4 [.con tI,.any,.var tI],[bi]⟩,exits:=[(.ret,⟨170,[.any,.box 0 0,.var tI,.any,.any,.any,.con tI],[bi]⟩,[tI]),(.exit 4,⟨170,.any::.box 0 0::aN 4 [.con tI],[bi]⟩,[])]}
def xv (ρ:Type):Û ρ:=⟨[],41,4,Oc,fun(p:Val aC) (v:Val tI) b a=>nW p.1 p.2.2.2.2.2.2.1 v (fun c=>b c) (a 0) (a 1)⟩
def Od:È:={pin:=0,cs:=[tI,tI,ac,aa,af,ab,aa],vs:=[tI],head:=⟨170,.any::.box 0 0::aN 4 [.var tI],[bi]⟩,exits:=[(.ret,⟨170,[.any,.box 0 0,.var tI],[bi]⟩,[tI]),(.exit 2,⟨170,[.any,.box 0 0],[bi]⟩,[])]}
def xw (ρ:Type):Û ρ:=⟨[],41,2,Od,fun(p:Val ai) (v:Val tI) b a=>let A:=p.2.2.2.2;i8 p.1 p.2.1 p.2.2.1 p.2.2.2.1 A.1 A.2.1 A.2.2 v (fun c=>b c) (a 0) (a 1)⟩
def Ob:È:={pin:=0,cs:=[tI,tI,ac,aa,af,ab,aa],vs:=[tI],head:=⟨170,.any::.box 0 0::aN 7 [.var tI],[bi]⟩,exits:=[(.ret,⟨170,[.any,.box 0 0,.var tI],[bi]⟩,[tI]),(.exit 6,⟨170,[.any,.box 0 0],[bi]⟩,[])]}
def xu (ρ:Type):Û ρ:=⟨[],41,6,Ob,fun(p:Val ai) (v:Val tI) b a=>let A:=p.2.2.2.2;i7 p.1 p.2.1 p.2.2.1 p.2.2.2.1 A.1 A.2.1 A.2.2 v (fun c=>b c) (a 0) (a 1)⟩
def VP:List (Nat×Ø):=[(94,mq),(95,Tq),(96,YI),(97,Tn),(98,Tm),(99,DQ),(100,DR),(101,rQ),(102,rR),(103,UX)]
def Bb (ρ:Type):List (Û ρ):=[xx ρ,xv ρ,xw ρ,xu ρ]
def j4 (ρ:Type):Env ρ:=Ù VP (Bb ρ)
def M9:Ø:=⟨[Ä],[Í],fun(x:Val Ä)=>pp x⟩
def Rm:List (Nat×Ø):=[(102,rR),(103,UX)]
def xf (ρ:Type):List (Û ρ):=[]
def En (ρ:Type):Env ρ:=Ù Rm (xf ρ)
def YO:Ø:=⟨[Ä,Â],[Ä,tI],fun(x:Val aD)=>tc x.1 x.2⟩
def Zv:List (Nat×Ø):=[(41,HD)]
def Es (ρ:Type):List (Û ρ):=[]
def N0 (ρ:Type):Env ρ:=Ù Zv (Es ρ)
def Ts:Ø:=⟨[Í],[am,.bool],fun(x:Val Í)=>td x⟩
def xF:È:={pin:=1,cs:=[tI,tI,tI,ah,am],vs:=[tI,ae],head:=⟨33,[.con tI,.any,.any,.dp 1,.con tI,.own 2,.var tI],[br,.deepc .i64,.rowv tI]⟩,exits:=[(.exit 2,⟨33,[.con tI,.any,.any,.dp 1,.con tI,.own 2],[br,.deepc .i64,.rowv tI]⟩,[ae])]}
def xE (ρ:Type):Û ρ:=⟨[1,2],115,2,xF,fun(p:Val (tyL xF.cs)) (v:Val ay) a b=>kG p.1 p.2.1 v.1 v.2 (fun c d=>a (c,d)) (b 0)⟩
def Ol:È:={pin:=1,cs:=[tI,tI,ah],vs:=[tI,am],head:=⟨33,[.con tI,.any,.any,.dp 1,.var tI],cF⟩,exits:=[(.exit 0,⟨33,[.con tI,.any,.any,.dp 1],cF⟩,[am])]}
def xG (ρ:Type):Û ρ:=⟨[1,2],115,0,Ol,fun(p:Val aH) (v:Val aO) a b=>kH p.1 v.1 v.2 (fun c d=>a (c,d)) (b 0)⟩
def Oj:È:={pin:=0,cs:=[tI,ah],vs:=[tI,am],head:=⟨124,[.any,.box 0 0,.any,.any,.dp 1,.var tI],cF⟩,exits:=[(.exit 0,⟨124,[.any,.box 0 0,.any,.any,.dp 1],cF⟩,[am])]}
def xD (ρ:Type):Û ρ:=⟨[],54,0,Oj,fun(p:Val Í) (v:Val aO) a b=>kF p.2 v.1 v.2 (fun c d=>a (c,d)) (b 0)⟩
def Og:È:={pin:=0,cs:=[tI,tI,tI,ah],vs:=[tI,am],head:=⟨124,[.any,.box 0 0,.any,.any,.dp 1,.any,.any,.con tI,.con tI,.var tI],cF⟩,exits:=[(.exit 6,⟨124,[.any,.box 0 0,.any,.any,.dp 1,.any,.any,.con tI,.con tI],cF⟩,[am])]}
def xA (ρ:Type):Û ρ:=⟨[],54,6,Og,fun(p:Val (.pair tI aH)) (v:Val aO) a b=>kD p.1 p.2.1 p.2.2.1 v.1 v.2 (fun c d=>a (c,d)) (b 0)⟩
def Oh:È:={pin:=0,cs:=[tI,tI,ah],vs:=[tI,am],head:=⟨124,[.any,.box 0 0,.any,.any,.dp 1,.any,.any,.con tI,.var tI],cF⟩,exits:=[(.exit 4,⟨124,[.any,.box 0 0,.any,.any,.dp 1,.any,.any,.con tI],cF⟩,[am])]}
def xB (ρ:Type):Û ρ:=⟨[],54,4,Oh,fun(p:Val aH) (v:Val aO) a b=>kE p.1 p.2.1 v.1 v.2 (fun c d=>a (c,d)) (b 0)⟩
def xz:È:={pin:=0,cs:=[tI,tI,ah,am],vs:=[tI],head:=⟨124,[.any,.box 0 0,.any,.any,.dp 1,.any,.any,.con tI,.any,.any,.var tI],[br,.deepc .i64]⟩,exits:=[(.ret,⟨124,[.any,.box 0 0,.nils,.var .bool,.dp 1,.any,.any,.con tI],[br,.deepc .i64]⟩,[.bool]),(.exit 8,⟨124,[.any,.box 0 0,.any,.any,.dp 1,.any,.any,.con tI],[br,.deepc .i64]⟩,[])]}
def xy (ρ:Type):Û ρ:=⟨[],54,8,xz,fun(p:Val (tyL xz.cs)) (v:Val tI) b a=>gZ p.2.1 p.2.2.2 v (fun c=>b c) (a 0) (a 1)⟩
def Oi:È:={pin:=0,cs:=[tI,ah],vs:=[tI,am],head:=⟨124,[.any,.box 0 0,.any,.any,.dp 1,.any,.any,.var tI],cF⟩,exits:=[(.ret,⟨124,[.any,.box 0 0,.nils,.var .bool,.dp 1],cF⟩,[.bool,am]),(.exit 2,⟨124,[.any,.box 0 0,.any,.any,.dp 1],cF⟩,[am])]}
def xC (ρ:Type):Û ρ:=⟨[],54,2,Oi,fun(p:Val Í) (v:Val aO) b a=>i9 p.1 v.1 v.2 (fun c d=>b (c,d)) (a 0) (a 1)⟩
def VQ:List (Nat×Ø):=[]
def Bc (ρ:Type):List (Û ρ):=[xE ρ,xG ρ,xD ρ,xA ρ,xB ρ,xy ρ,xC ρ]
def Μ (ρ:Type):Env ρ:=Ù VQ (Bc ρ)
def YH:Ø:=⟨[Ä,aa],[ŭ],fun(x:Val (.pair Ä aa))=>GG x.1 x.2⟩
def Q9:È:={pin:=0,cs:=[aa],vs:=[tI,tI,tI,ac,aa,af,ab,aa,tI,tI,tI,tI],head:=⟨59,[.any,.con aa,.box 0 0,.any,.box 1 0,.any,.var tI],[bB,bR]⟩,exits:=[(.ret,⟨59,[.any,.con aa,.box 0 0,.any,.box 1 0],[bB,bR]⟩,[tI,tI,ac,aa,af,ab,aa,tI,tI,tI,tI]),(.exit 0,⟨59,[.any,.con aa,.box 0 0,.any,.box 1 0],[bB,bR]⟩,[tI,tI,ac,aa,af,ab,aa,tI,tI,tI,tI])]}
def AO (ρ:Type):Û ρ:=⟨[],15,0,Q9,fun(p:Val aa) (v:Val (.pair tI aw)) b a=>mF p v.1 v.2.1 v.2.2.1 v.2.2.2.1 v.2.2.2.2.1 v.2.2.2.2.2.1 v.2.2.2.2.2.2.1 v.2.2.2.2.2.2.2.1 v.2.2.2.2.2.2.2.2.1 v.2.2.2.2.2.2.2.2.2.1 v.2.2.2.2.2.2.2.2.2.2.1 v.2.2.2.2.2.2.2.2.2.2.2 (fun c d e f g h i j k l m n=>b (c,d,e,f,g,h,i,j,k,l,m,n)) (a 0) (a 1)⟩
def Zm:List (Nat×Ø):=[(41,HD),(43,M9),(52,zo),(53,YO),(54,Ts)]
def Ed (ρ:Type):List (Û ρ):=[AO ρ]
def Ct (ρ:Type):Env ρ:=Ù Zm (Ed ρ)
def oL:Ø:=⟨[ŭ,tI],[Â],fun(x:Val (.pair ŭ tI))=>ig x.1 x.2⟩
def wz:List (Nat×Ø):=[]
def kw (ρ:Type):List (Û ρ):=[]
def mE (ρ:Type):Env ρ:=Ù wz (kw ρ)
def DP:Ø:=⟨[ŭ,Â],[tI],fun(x:Val (.pair ŭ Â))=>kP x.1 x.2⟩
def Lb:List (Nat×Ø):=[(52,zo)]
def se (ρ:Type):List (Û ρ):=[]
def xa (ρ:Type):Env ρ:=Ù Lb (se ρ)
def YY:Ø:=⟨[Í,tI,tI],[ae,tI],fun(x:Val aP)=>yR x.1 x.2.1 x.2.2⟩
def Z5:List (Nat×Ø):=[(114,wS),(117,mr)]
def FF (ρ:Type):List (Û ρ):=[]
def O2 (ρ:Type):Env ρ:=Ù Z5 (FF ρ)
def Nh:Ø:=⟨[Ä,Â,.bool],[ae,tI],fun(x:Val aM)=>vr x.1 x.2.1 x.2.2⟩
def vW:È:={pin:=3,cs:=[tI,tI,tI,ac,aa,af,ab,aa,tI,tI,aa],vs:=[tI,tI,tI,ac,aa,af,ab,aa],head:=⟨68,aN 2 (.box 3 0::aN 20 [.own 2,.con tI,.var tI]),[bi,bq,.rowc Â,bB]⟩,exits:=[(.ret,⟨68,aN 2 (.box 3 0::.any::.nilp::.var tI::aN 17 [.own 2,.con tI]),[bi,bq,.rowc Â,bB]⟩,[tI,tI,tI,ac,aa,af,ab,aa]),(.exit 0,⟨68,aN 2 (.box 3 0::aN 20 [.own 2,.con tI]),[bi,bq,.rowc Â,bB]⟩,[tI,tI,ac,aa,af,ab,aa])]}
def vV (ρ:Type):Û ρ:=⟨[1,3],47,0,vW,fun(p:Val (tyL vW.cs)) (v:Val aC) b a=>rh p.1 p.2.2.2.2.2.2.2.2.2.2 v.1 v.2.1 v.2.2.1 v.2.2.2.1 v.2.2.2.2.1 v.2.2.2.2.2.1 v.2.2.2.2.2.2.1 v.2.2.2.2.2.2.2 (fun c d e f g h i j=>b (c,d,e,f,g,h,i,j)) (a 0) (a 1)⟩
def Sd:List (Nat×Ø):=[(50,iL),(55,YY),(66,œ),(67,iM),(68,ś),(110,nI),(111,ŏ)]
def xZ (ρ:Type):List (Û ρ):=[vV ρ]
def ur (ρ:Type):Env ρ:=Ù Sd (xZ ρ)
def Nf:Ø:=⟨[Í,ae],[.bool],fun(x:Val aV)=>vp x.1 x.2⟩
def LB:È:={pin:=0,cs:=[ae,tI,ah],vs:=[tI],head:=⟨44,[.any,.con ae,.box 0 0,.any,.any,.var tI],[br]⟩,exits:=[(.ret,⟨44,[.any,.con ae,.box 0 0,.any,.var .bool],[br]⟩,[.bool]),(.exit 0,⟨44,[.any,.con ae,.box 0 0],[br]⟩,[])]}
def vN (ρ:Type):Û ρ:=⟨[],56,0,LB,fun(p:Val (.pair ae Í)) (v:Val tI) b a=>mg p.1 p.2.2 v (fun c=>b c) (a 0) (a 1)⟩
def Rz:List (Nat×Ø):=[]
def xH (ρ:Type):List (Û ρ):=[vN ρ]
def tZ (ρ:Type):Env ρ:=Ù Rz (xH ρ)
def wP:Ø:=⟨[ŭ,ae],[.bool],fun(x:Val (.pair ŭ ae))=>kO x.1 x.2⟩
def Ec:List (Nat×Ø):=[(56,Nf)]
def oP (ρ:Type):List (Û ρ):=[]
def sd (ρ:Type):Env ρ:=Ù Ec (oP ρ)
def iZ:Ø:=⟨[Ä,Â,.bool],[.bool],fun(x:Val aM)=>lX x.1 x.2.1 x.2.2⟩
def Ai:List (Nat×Ø):=[(10,aep),(11,M8),(15,YH),(16,oL),(17,DP),(19,Nh),(20,wP)]
def mz (ρ:Type):List (Û ρ):=[]
def oO (ρ:Type):Env ρ:=Ù Ai (mz ρ)
end Go.Proofs.ZzM
end
