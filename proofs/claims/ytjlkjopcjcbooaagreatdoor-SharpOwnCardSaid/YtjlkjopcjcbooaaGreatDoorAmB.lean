/- lemmas -/
import Derived.Test.YtjlkjopcjcbooaaGreatDoorAmA
import Derived.Laws.StructEq
import Derived.ChangeKeysEq
import Derived.Laws.BytesArg
import Derived.Laws.Strings3
import Derived.Laws.DeepStrings4
import Derived.OrdersIn
import Derived.RangeFuncSeq
import Derived.RangeFuncRecord
import Derived.LoopNIn
set_option linter.all false
noncomputable section
namespace Go.Am
variable [Globs] [É]
section
variable {ν ν':Nat->Value} {h h':y5 Blk} {w w':World} {P:Program}
def Q4 {S:St} {a:Act} {t e:TypeId} {n sz:Nat} {ps:Array (Nat×Operand)} {z:AV} {zs cs:y5 AV} (H:Sim ν S a w) (k:P.underlying t=some (.array n e)) (l:szP P e=some sz)
 (c:((P.info? t).bind (·.zero)).map cv=some z) (f:Ĥ z=some zs) (o:Ca sz (ps.toList.map fun p=>(p.1,ev S.t p.2)) zs=some cs) :
 ļ P ν S.h w (Instr.build t (ps.map fun(i,x)=>(i,a.eval x))) (.agg cs) S.h:=by
 cases hi:P.info? t with
 |none=>simp[hi] at c
 |some i =>
 cases b:i.zero with
 |none=>simp[hi,b] at c
 |some d =>
 simp only[hi,b,dI,di,Option.some.injEq] at c;subst c;have q:=(OY (ν:=ν) (h:=S.h) (w:=w) d).cells f;obtain⟨c',r,h2⟩:=JY (ν:=ν) (h:=S.h) (w:=w) (sz:=sz) (places:=fun j=>some (j*sz,sz)) (fun j=>rfl) _ _ zs cs d.cells o (yw H ps.toList) q;refine ļ.still H.heap (u:=.agg c') ?_ ⟨c',rfl,h2⟩
 have m:(ps.map fun(x:Nat×Operand)=>(x.1,a.eval x.2)).toList=ps.toList.map fun p=>(p.1,a.eval p.2):=by simp
 simp only[Instr.build,Sem.run_bind,zeroValue,typeInfo,run_program,Result.andThen_ok,hi,b,Sem.run_pure,run_underlying k,ku l]
 have g:Instr.fill (fun j=>some (j*sz,sz)) d.cells (ps.map fun(x:Nat×Operand)=>(x.1,a.eval x.2)).toList=some c':=by rw[m]; exact r
 erw [g]
 rfl
def part_ok {t:TypeId} {agg:Bool} {n o:Nat} {cs f:y5 AV} {v:AV} {us:Array Value} (H:HR ν h w) (m:ldP P t=some (agg,n)) (p:Ea cs o n=some f) (k:mkv agg f=some v) (q:í (VRc ν h w) cs us.toList) :
 ļ P ν h w (part t us o) v h:=by
 obtain⟨d,hd,rfl,i⟩:=Lt m;obtain⟨x,h2⟩:=lQ p
 have b:í (VRc ν h w) f ((us.toList.drop o).take n):=by rw[x]; exact(q.drop o).take n
 obtain⟨s,r⟩:=abW k b;refine ļ.still H ?_ s;unfold part;simp only[Sem.run_bind,tC hd,Result.andThen_ok]
 cases e:Hu d with
 |true =>
  simp only[if_true,Sem.run_bind,ku i,Result.andThen_ok,Sem.run_pure,Px];congr 2;apply eo;rw[Array.toList_extract,List.extract_eq_take_drop];congr 1; omega
 |false =>
  have j:n=1:=by rw[<-h2]; exact r e
  subst j;simp only[Px]
  cases g:us.toList.drop o with
  |nil=>rw[g] at b; have:=b.length; rw[h2] at this; simp at this
  |cons u rest =>
   have c:us[o]?=some u:=by
    have:=congrArg (fun l=>l[0]?) g;simpa using this
   simp[c]
def aaP {t:TypeId} {f:Nat} {fs:Array Field} {b:Field} {agg:Bool} {n:Nat} {cs d:y5 AV} {v:AV} {c:Value} (H:HR ν h w) (g:P.underlying t=some (.struct fs)) (l:fs[f]?=some b)
 (j:ldP P b.type=some (agg,n)) (k:Ea cs b.offset n=some d) (i:mkv agg d=some v) (e:VR ν h w (.agg cs) c):ļ P ν h w (Instr.field t c f) v h:=by
 obtain⟨us,rfl,m⟩:=e;obtain⟨ν',w',u,o,h2⟩:=part_ok (P:=P) H j k i m;refine⟨ν',w',u,?_,h2⟩;simp only[Instr.field,Sem.run_bind,run_underlying g,Result.andThen_ok,l,asAgg,Sem.run_pure];exact o
def QE {t e:TypeId} {n m:Nat} {k:IntKind} {j:Int} {agg:Bool} {cs f:y5 AV} {v:AV} {b:Value} (H:HR ν h w) (i:P.underlying t=some (.array n e))
 (p:0<=j/\j<n) (c:ldP P e=some (agg,m)) (q:Ea cs (j.toNat*m) m=some f) (o:mkv agg f=some v) (g:VR ν h w (.agg cs) b):ļ P ν h w (Instr.index t b (.int k j)) v h:=by
 obtain⟨us,rfl,r⟩:=g;obtain⟨ν',w',u,s,h2⟩:=part_ok (P:=P) H c q o r;obtain⟨d,hd,_,l⟩:=Lt c;refine⟨ν',w',u,?_,h2⟩;simp only[Instr.index,asIntOf,Sem.run_bind,Sem.run_pure,run_underlying i,Result.andThen_ok,p,and_self,if_true,ku l];exact s
def shift_ok {x v:AV} {j:Value} {o:Nat} (e:tr h x o some=some v) (d:VR ν h w x j):∃a,j=.pointer (some a)/\VR ν h w v (.pointer (some (a.add o))):=by
 unfold tr at e
 split at e<;>try (cases e; done)
 ·cases e;obtain⟨cs,b,c,h2,rfl⟩:=d;exact⟨_,rfl,cs,b,c,h2,by rw[Ĩ]⟩
 ·cases e;obtain⟨b,o',us,rfl,c,h2,i,g⟩:=d;exact⟨_,rfl,b,o',us,by rw[Ĩ,dR],c,h2,i,g⟩
 ·split at e<;>try (cases e; done)
  rename_i t g' fz xs k
  split at e<;>try (cases e; done)
  rename_i f;cases e;obtain⟨q,t2,r,p,l,c,h2,i⟩:=d;rw[k] at c; cases c;have m:=eq_of_beq f;subst m;obtain⟨hi,b,o',cap,g,rfl⟩:=i rfl;exact⟨_,rfl,by rw[Ĩ]; rfl,_,_,_,_,k,bX _,fun _=>⟨hi,b,o',cap,g,by rw[Ĩ,dR]⟩⟩
def OM {t:TypeId} {f:Nat} {fs:Array Field} {b:Field} {n:Nat} {x v:AV} {c:Value} (H:HR ν h w) (g:P.underlying t=some (.struct fs)) (j:fs[f]?=some b)
 (i:szP P b.type=some (n+1)) (e:tr h x b.offset some=some v) (d:VR ν h w x c):ļ P ν h w (Instr.fieldAt t c f) v h:=by
 obtain⟨a,rfl,k⟩:=shift_ok e d;refine ļ.still H ?_ k;simp[Instr.fieldAt,Instr.sureAddr,run_underlying g,j,fieldPlace,ku i]
def Gm {t e:TypeId} {n sz id off:Nat} {k:IntKind} {j:Int} {c:Value} (H:HR ν h w) (f:P.underlying t=some (.array n e)) (i:0<=j/\j<n) (g:szP P e=some sz) (d:VR ν h w (.box id off) c) :
 ļ P ν h w (Instr.indexAt t c (.int k j)) (.box id (off+j.toNat*sz)) h:=by
 obtain⟨cs,b,l,h2,rfl⟩:=d;refine ļ.still H (u:=.pointer (some ⟨b,off+j.toNat*sz,none⟩)) ?_ ⟨cs,b,l,h2,rfl⟩;simp[Instr.indexAt,Instr.sureAddr,asIntOf,run_underlying f,ku g,i,Ĩ]
def Ma {k:IntKind} {n:Int} {v:AV} (e:arK k n some=some v):v=.int k (k.wrap n):=by
 unfold arK at e;cases e
 cases k<;>rfl
def E4 {gt:Bool} {f:Value->Value->Sem Value} (m:∀(k:IntKind) (a b:Int),(f (.int k a) (.int k b)).run P w=.ok (.int k (match gt with|true=>SP a b|false=>UE a b)) w) :
 ∀(l:y5 AV) (us:y5 Value) (x v:AV) (c:Value),iD gt x l some=some v->VR ν h w x c->í (VR ν h w) l us->∃u,(us.foldlM f c).run P w=.ok u w/\VR ν h w v u
 |[],[],x,v,c,e,j,_=>by cases e; exact⟨c,rfl,j⟩
 |[],_::_,_,_,_,_,_,d=>d.elim
 |_::_,[],_,_,_,_,_,d=>d.elim
 |y::l,uy::us,x,v,c,e,j,d=>by
  cases x<;>try (simp[iD] at e; done)
  cases y<;>try (simp[iD] at e; done)
  rename_i k a s b;simp only[iD] at e
  split at e<;>try (cases e; done)
  rename_i o _;subst o
  have i:∀g:Bool,(match g with|true=>iD true (.int k (SP a b)) l some|false=>iD false (.int k (UE a b)) l some)=some v->iD g (.int k (match g with|true=>SP a b|false=>UE a b)) l some=some v:=fun g h=>by cases g<;>exact h
  have e:=i gt e;have r:c=.int k a:=j;have h2:uy=.int k b:=d.1;subst r h2;obtain⟨u,q,p⟩:=E4 m l us _ v _ e (show VR ν h w (.int k _) (.int k _) from rfl) d.2;refine⟨u,?_,p⟩;simp only[f7,Sem.run_bind,m,Result.andThen_ok];exact q
end
end Go.Am
end

noncomputable section
namespace Go.Am
variable [Globs] [É]
section
variable {ν ν':Nat->Value} {h h':y5 Blk} {w w':World} {P:Program}
def kJ {t:TypeId} {k:Ty} (b:BW P t k=true) :
 (P.underlying t=some .bool/\k=.bool)\/(∃i,P.underlying t=some (.int i)/\k=.int i):=by
 unfold BW at b
 split at b<;>try (cases b; done)
 ·split at b<;>try (cases b; done)
  exact .inl ⟨‹_›,rfl⟩
 ·split at b<;>try (cases b; done)
  have:=eq_of_beq b;subst this;exact .inr ⟨_,‹_›,rfl⟩
def keyVal:(k:Ty)->Val k->Value
 |.bool,b=>.bool b
 |.int i,n=>.int i n
 |.str,s=>.string s
 |_,_=>undef
def CR.keyVal {av:Nat->Prop} {t:TypeId} {k:Ty} {x:Val k} {v:Value} (b:BW P t k=true) (c:CR w av k x [v]):v=keyVal k x:=by
 rcases kJ b with⟨_,rfl⟩|⟨i,_,rfl⟩
 all_goals
  have:[v]=[_]:=c;simpa[Am.keyVal] using this
def XD {av:Nat->Prop} {t:TypeId} {k:Ty} {x:Val k} (b:BW P t k=true):CR w av k x [keyVal k x]:=by
 rcases kJ b with⟨_,rfl⟩|⟨i,_,rfl⟩<;>exact(rfl:[_]=[_])
def Cx {t:TypeId} {k:Ty} {x:Val k} {empty:Bool} (c:BW P t k=true) (m:Nat):(Instr.checkKey empty (m+1) t (keyVal k x)).run P w=.ok () w:=by
 rcases kJ c with⟨b,rfl⟩|⟨i,b,rfl⟩<;>simp[Instr.checkKey,run_underlying b,keyVal]
def xp {t:TypeId} {k:Ty} (c:BW P t k=true):∃d,P.underlying t=some d/\∀x y:Val k,Instr.sameNow d (keyVal k x) (keyVal k y)=some (ji k x y):=by
 rcases kJ c with⟨b,rfl⟩|⟨i,b,rfl⟩
 ·exact⟨_,b,fun _ _=>rfl⟩
 ·refine⟨_,b,fun x y=>?_⟩;simp only[Instr.sameNow,keyVal,ji,if_true];congr 1
def Ents (w:World) (av:Nat->Prop) (k v:Ty) (es:y5 (Val k×Val v)) (b:y5 MapEntry):Prop :=
 í (fun(e:Val k×Val v) (m:MapEntry)=>m.key=keyVal k e.1/\∃us,CR w av v e.2 us/\m.val=s9 v us) es b
def B8 {d:TypeDesc} {av:Nat->Prop} {k v:Ty} {x:Val k} (hd:∀y,Instr.sameNow d (keyVal k x) (keyVal k y)=some (ji k x y)):∀(es:y5 (Val k×Val v)) (ms:y5 MapEntry) (i:Nat),Ents w av k v es ms ->
 (pO x es=none/\Instr.findNow d (keyVal k x) ms i=some none) \/
 ∃y j us,pO x es=some y/\Instr.findNow d (keyVal k x) ms i=some (some (i+j,s9 v us))/\CR w av v y us/\j<es.length/\(∀b,DZ x b es=es.set j (x,b))/\∃e,es[j]?=some e/\ji k x e.1=true
 |[],[],i,_=>.inl ⟨rfl,rfl⟩
 |[],_::_,_,f=>f.elim
 |_::_,[],_,f=>f.elim
 |e::es,m::ms,i,f=>by
  obtain⟨⟨z,us,h2,u⟩,f⟩:=f;have g:=hd e.1;rw[<-z] at g
  cases c:ji k x e.1 with
  |true =>
   rw[c] at g;exact .inr ⟨e.2,0,us,by simp[pO,c],by simp[Instr.findNow,g,u],h2,by simp,fun b=>by simp[DZ,c],e,rfl,c⟩
  |false =>
   rw[c] at g;rcases B8 hd es ms (i+1) f with⟨p,o⟩|⟨y,j,l,p,o,t,B,s,A,r,q⟩
   ·exact .inl ⟨by simp[pO,c,p],by simp[Instr.findNow,g,o]⟩
   ·refine .inr ⟨y,j+1,l,by simp[pO,c,p],by simp[Instr.findNow,g,o]; omega,t,by simp; omega,fun b=>by simp[DZ,c,s],A,by simpa using r,q⟩
def Nw {k v:Ty} {x:Val k} {b:Val v}:∀{es:y5 (Val k×Val v)},pO x es=none->DZ x b es=es++[(x,b)]
 |[],_=>rfl
 |e::es,c=>by
  cases d:ji k x e.1 with
  |true=>simp[pO,d] at c
  |false=>simp only[pO,d] at c; simp[DZ,d,Nw c]
def ents (H:HR ν h w) {t:TypeId} {m:AV} {um:Value} {k v:Ty} {es:y5 (Val k×Val v)} (A:BW P t k=true) (p:VR ν h w m um) (e:ñ h m=.mp k v es) :
 ∃r,um=.map r/\((r=none/\es=[])\/∃b c d,r=some b/\w.heap[b]?=some (.map c d)/\Ents w (Av ν h) k v es c.toList):=by
 have fin:∀(c:Array MapEntry),c.size=es.length->(∀(i:Nat) (e:Val k×Val v),es[i]?=some e->∃(m:MapEntry) (us:y5 Value),c[i]?=some m/\CR w (Av ν h) k e.1 [m.key]/\CR w (Av ν h) v e.2 us/\m.val=s9 v us) ->
  Ents w (Av ν h) k v es c.toList:=fun c z B=>by
  refine í.of_get (by simpa using z.symm) fun i a b ha hb=>?_;obtain⟨m,us,l,h2,j,f⟩:=B i a ha
  have:b=m:=by simp at hb; rw[l] at hb; exact(Option.some.inj hb).symm
  subst this;exact⟨CR.keyVal A h2,us,j,f⟩
 cases m with
 |mp x u o =>
  simp only[ñ] at e;cases e;obtain⟨r,l,h2⟩:=p;refine⟨r,by simpa using l,?_⟩;rcases h2 with h2|⟨b,c,d,h2,_,j,f,C⟩
  ·exact .inl h2
  ·exact .inr ⟨b,c,d,h2,j,fin c f C⟩
 |omp id =>
  obtain⟨D,x,u,o,q,y⟩:=p;simp only[ñ,q] at e;cases e;have s:=H.blk id;rw[q] at s;obtain⟨b,c,d,l,h2,j,f⟩:=s;exact⟨some b,by rw[y,l],.inr ⟨b,c,d,rfl,h2,fin c j f⟩⟩
 |own id g=>simp only[ñ] at e; (repeat' split at e)<;>cases e
 |sub id g lo n=>simp only[ñ] at e; (repeat' split at e)<;>cases e
 |_=>simp[ñ] at e
def Bl {t:TypeId} {k:Ty} {i:AV} {ui:Value} {x:Val k} (c:BW P t k=true) (hi:VR ν h w i ui) (e:Ô k [i]=some x):ui=keyVal k x:=by
 rcases kJ c with⟨_,rfl⟩|⟨j,_,rfl⟩
 ·cases i<;>simp[Ô,ř] at e; subst e; exact hi
 ·cases i<;>try (simp[Ô,ř] at e; done)
  rename_i f n;simp only[Ô,ř] at e
  split at e<;>try (cases e; done)
  rename_i y b
  split at b<;>try (cases b; done)
  rename_i d _;subst d; cases b; cases e; exact hi
def Xu (ok:Bool) (y:AV) (b:Bool):x9 AV:=match ok with|true=>some (.tup [y,.bool b])|false=>some y
def Oe {t:TypeId} {m i v:AV} {um ui:Value} {ok:Bool} (H:HR ν h w) (e:kH P h t m i ok some=some v) (hm:VR ν h w m um) (hi:VR ν h w i ui):∃u,(Instr.lookup t um ui ok).run P w=.ok u w/\VR ν h w v u:=by
 unfold kH at e
 split at e<;>try (cases e; done)
 rename_i K et D
 split at e<;>try (cases e; done)
 rename_i k v0 z hkt het M
 cases s:P.info? et with
 |none=>simp[s] at M
 |some L =>
 cases C:L.zero with
 |none=>simp[s,C] at M
 |some o =>
 simp only[s,C,dI,di,Option.some.injEq] at M;subst M
 -- what the run does, once the search is known
 have run:∀(x:Val k) (r:x9 Nat) (ms:y5 MapEntry),BW P K k=true->ui=keyVal k x->um=.map r->(r=none/\ms=[]\/∃b c f,r=some b/\w.heap[b]?=some (.map c f)/\c.toList=ms) ->
  ∀d,P.underlying K=some d ->
  (∀y j,Instr.findNow d (keyVal k x) ms 0=some (some (j,y))->(Instr.lookup t um ui ok).run P w=.ok (if ok then .tuple #[y,.bool true] else y) w) /\
  (Instr.findNow d (keyVal k x) ms 0=some none->(Instr.lookup t um ui ok).run P w=.ok (if ok then .tuple #[o,.bool false] else o) w):=by
  intro x r ms B R p T d hd;subst R p;have A:=fun em=>Cx (P:=P) (w:=w) (x:=x) (empty:=em) B 9999;have A:∀em,(Instr.checkKey em 10000 K (keyVal k x)).run P w=.ok () w:=A;rcases T with⟨rfl,rfl⟩|⟨b,c,f,rfl,hb,rfl⟩
  ·constructor
   ·intro y j G; simp[Instr.findNow] at G
   ·intro G;simp only[Instr.lookup,Sem.run_bind,run_underlying D,Result.andThen_ok,Sem.run_pure,A];simp[Instr.findKey,run_underlying hd,Instr.findNow,zeroValue,typeInfo,s,C]
  ·constructor
   ·intro y j G;simp only[Instr.lookup,Sem.run_bind,run_underlying D,Result.andThen_ok,Sem.run_pure,ig hb,A];simp[Instr.findKey,run_underlying hd,G]
   ·intro G;simp only[Instr.lookup,Sem.run_bind,run_underlying D,Result.andThen_ok,Sem.run_pure,ig hb,A];simp[Instr.findKey,run_underlying hd,G,zeroValue,typeInfo,s,C]
 have J:∀{V:AV},Xu ok (cv o) false=some V->VR ν h w V (if ok then .tuple #[o,.bool false] else o):=fun {V} hV=>by
  cases ok with
  |false=>cases hV; exact OY o
  |true =>
   cases hV;refine⟨#[o,.bool false],rfl,?_,rfl,trivial⟩;have:=OY (ν:=ν) (h:=h) (w:=w) o
   cases D:(cv o).isTup with
   |true=>exact absurd D (by rw[OX]; simp)
   |false=>rwa [qK D] at this
 split at e<;>try (cases e; done)
 ·rename_i k' v' es B l
  split at e<;>try (cases e; done)
  rename_i W _;cases W
  split at e<;>try (cases e; done)
  rename_i x O;have E:=Bl B hi O;obtain⟨d,hd,q⟩:=xp (P:=P) (t:=K) (k:=k) B;obtain⟨r,p,T⟩:=ents H B hm l
  have S:∃ms,Ents w (Av ν h) k v0 es ms/\(r=none/\ms=[]\/∃b c f,r=some b/\w.heap[b]?=some (.map c f)/\c.toList=ms):=by
   rcases T with⟨rfl,rfl⟩|⟨b,c,f,rfl,hb,X⟩
   ·exact⟨[],trivial,.inl ⟨rfl,rfl⟩⟩
   ·exact⟨_,X,.inr ⟨b,c,f,rfl,hb,rfl⟩⟩
  obtain⟨ms,X,U⟩:=S;obtain⟨r1,N⟩:=run x r ms B E p U d hd;rcases B8 (q x) es ms 0 X with⟨Z,Y⟩|⟨y,j,us,Z,Y,h6,_⟩
  ·have I:(match (pO x es:x9 (Val v0)) with|some y=>Xu ok (enc v0 y) true|none=>Xu ok (cv o) false)=some v:=e;rw[Z] at I;exact⟨_,N Y,J I⟩
  ·have I:(match (pO x es:x9 (Val v0)) with|some y=>Xu ok (enc v0 y) true|none=>Xu ok (cv o) false)=some v:=e;rw[Z] at I;refine⟨_,r1 _ _ Y,?_⟩;have hv:=CZ h6
   cases ok with
   |false=>cases I; exact hv
   |true =>
    cases I;refine⟨#[s9 v0 us,.bool true],rfl,?_,rfl,trivial⟩
    have D:(enc v0 y).isTup=false:=by cases v0<;>rfl
    rwa [qK D] at hv
 ·rename_i B l
  split at e<;>try (cases e; done)
  rename_i x O;have E:=Bl B hi O;obtain⟨d,hd,q⟩:=xp (P:=P) (t:=K) (k:=k) B
  have p:um=.map none:=by
   cases m with
   |nilm=>exact hm
   |own id g=>simp only[ñ] at l; (repeat' split at l)<;>cases l
   |sub id g lo n=>simp only[ñ] at l; (repeat' split at l)<;>cases l
   |omp id=>simp only[ñ] at l; (repeat' split at l)<;>cases l
   |_=>simp[ñ] at l
  obtain⟨r1,N⟩:=run x none [] B E p (.inl ⟨rfl,rfl⟩) d hd;exact⟨_,N rfl,J e⟩
def Xl {t:TypeId} {m i v:AV} {um ui:Value} {ok:Bool} (H:HR ν h w) (e:kH P h t m i ok some=some v) (b:VR ν h w m um) (hi:VR ν h w i ui):ļ P ν h w (Instr.lookup t um ui ok) v h:=by
 obtain⟨u,c,h2⟩:=Oe H e b hi;exact ļ.still H c h2
def Bo {x:AV} {cs:y5 AV} (e:Ĥ (Ry h x)=some cs):∃vs,Ĥ x=some vs/\cs=vs.map (ñ h):=by
 cases x with
 |agg l=>simp only[Ry,Ĥ,Option.some.injEq] at e; exact⟨l,rfl,e.symm⟩
 |any=>cases e
 |und=>cases e
 |tup=>cases e
 |own id g =>
  refine⟨_,rfl,?_⟩;simp only[Ry] at e
  have:ñ h (.own id g)=.any\/∃t xs,ñ h (.own id g)=.slc t xs:=by
   simp only[ñ]; (repeat' split)<;>first|exact .inl rfl|exact .inr ⟨_,_,rfl⟩
  rcases this with b|⟨t,xs,b⟩<;>rw[b] at e<;>cases e
  simp[b]
 |sub id g lo n =>
  refine⟨_,rfl,?_⟩;simp only[Ry] at e
  have:ñ h (.sub id g lo n)=.any\/∃t xs,ñ h (.sub id g lo n)=.slc t xs:=by
   simp only[ñ]; (repeat' split)<;>first|exact .inl rfl|exact .inr ⟨_,_,rfl⟩
  rcases this with b|⟨t,xs,b⟩<;>rw[b] at e<;>cases e
  simp[b]
 |omp id =>
  refine⟨_,rfl,?_⟩;simp only[Ry] at e
  have:ñ h (.omp id)=.any\/∃k v xs,ñ h (.omp id)=.mp k v xs:=by
   simp only[ñ]; (repeat' split)<;>first|exact .inl rfl|exact .inr ⟨_,_,_,rfl⟩
  rcases this with b|⟨k,v,xs,b⟩<;>rw[b] at e<;>cases e
  simp[b]
 |_=>cases e; exact⟨_,rfl,rfl⟩
def S6 {a:AV} {id:Nat} {k v:Ty} {es:y5 (Val k×Val v)} (b:lkB h id=.map k v es):lkB (oc h a) id=.map k v es:=by
 have c:∀(j g:Nat) (t:Ty) (fz:Bool) (xs:y5 (Val t)),lkB h j=.row t g fz xs->lkB (ã h j (.row t g true xs)) id=.map k v es:=fun j g t fz xs d=>by
  by_cases e:id=j
  ·subst e; rw[b] at d; cases d
  ·rw[Ì _ e]; exact b
 cases a<;>try exact b
 all_goals
  simp only[oc]
  split
  ·exact c _ _ _ _ _ ‹_›
  ·exact b
def LA {id:Nat} {k v:Ty} {es:y5 (Val k×Val v)}:∀(as:y5 AV) {h:y5 Blk},lkB h id=.map k v es->lkB (vT h as) id=.map k v es
 |[],_,b=>b
 |a::as,_,b=>LA as (S6 b)
def aaF {t:TypeId} {k:Ty} (b:BW P t k=true) {x y:Val k} (e:ji k x y=true):x=y:=by
 rcases kJ b with⟨_,rfl⟩|⟨j,_,rfl⟩
 ·simpa[ji] using e
 ·simpa[ji] using e
def MN {t:TypeId} {k:Ty} (b:BW P t k=true) (x:Val k) (m:Nat):Instr.sameBits m (keyVal k x) (keyVal k x)=true:=by
 rcases kJ b with⟨_,rfl⟩|⟨j,_,rfl⟩<;>simp[Instr.sameBits,keyVal]
def í.set {α β:Type} {R:α->β->Prop}:∀{l:y5 α} {m:y5 β} (i:Nat) {a:α} {b:β},í R l m->R a b->í R (l.set i a) (m.set i b)
 |[],[],_,_,_,_,_=>trivial
 |_::_,_::_,0,_,_,h,c=>⟨c,h.2⟩
 |_::_,_::_,i+1,_,_,h,c=>⟨h.1,í.set i h.2 c⟩
 |[],_::_,_,_,_,h,_=>h.elim
 |_::_,[],_,_,_,h,_=>h.elim
def CF {t:TypeId} {m i x:AV} {um ui C:Value} (H:HR ν h w) (e:ŝ P h t m i x some=some h') (hm:VR ν h w m um) (hi:VR ν h w i ui) (hx:VR ν h w x C) :
 ∃w',(Instr.mapUpdate t um ui C).run P w=.ok () w'/\HR ν h' w'/\Ev h.length ν h w ν h' w'/\h'.length=h.length:=by
 unfold ŝ at e
 split at e<;>try (cases e; done)
 rename_i kt et ht
 split at e<;>try (cases e; done)
 rename_i id
 split at e<;>try (cases e; done)
 rename_i k v es hl
 split at e<;>try (cases e; done)
 rename_i hc;simp only[bZ,beq_iff_eq] at hc;obtain⟨J,hnm,W⟩:=hc
 split at e<;>try (cases e; done)
 rename_i a cs ha hcs
 split at e<;>try (cases e; done)
 rename_i b hb;cases e;obtain⟨vs,u,rfl⟩:=Bo hcs;obtain⟨hfe,hfm⟩:=XR u h;have hcx:=hx.cells u;have hsn:=AG H (hcx.mono fun _ _ q=>q.1) (hfm hnm);obtain⟨e1,H1,hlv⟩:=xT vs H;rw[hfe];have o:=LA vs hl;have U:=ď hb hsn
 have D:C=s9 v C.cells.toList:=by
  unfold s9;rw[<-W]
  cases x with
  |agg l=>obtain⟨us,rfl,_⟩:=hx; rfl
  |any=>cases u
  |und=>cases u
  |tup=>cases u
  |_ =>
   rw[nZ ((hx.one rfl rfl).oneCell u)]; rfl
 obtain⟨ho,k2,v2,es2,O,hmv⟩:=hm;rw[hl] at O; cases O;have hB:=H1.blk id;rw[o] at hB;obtain⟨K,f,s,h1,h2,h3,h4⟩:=hB;rw[hmv,h1];have hui:=Bl J hi ha;subst hui
 have Z:Ents w (Av ν (vT h vs)) k v es f.toList:=by
  obtain⟨r,E,A⟩:=ents H1 (m:=.omp id) (um:=.map (some K)) (k:=k) (v:=v) (es:=es) J ⟨rfl,k,v,es,o,h1.symm⟩ (by simp only[ñ,o]);cases E;rcases A with⟨A,_⟩|⟨b',en',cl',A,N,Y⟩
  ·cases A
  ·cases A;rw[h2] at N;cases N;exact Y
 obtain⟨d,hd,G⟩:=xp (P:=P) (t:=kt) (k:=k) J;have S:id<(vT h vs).length:=ĭ o (by simp)
 -- the map with other f
 have fin:∀(c:Array MapEntry) (g:Nat) (p:y5 (Val k×Val v)),Ents w (Av ν (vT h vs)) k v p c.toList ->
  HR ν (ã (vT h vs) id (.map k v p)) {w with heap:=w.heap.setIfInBounds K (.map c g)} /\
  Ev (vT h vs).length ν (vT h vs) w ν (ã (vT h vs) id (.map k v p)) {w with heap:=w.heap.setIfInBounds K (.map c g)}:=by
  intro c g p X;have I:=Ù h2
  have z:∀q,q<w.heap.size->((lkB (vT h vs) id).live=true->¬Ĝ (ν id) q)->({w with heap:=w.heap.setIfInBounds K (.map c g)}:World).heap[q]?=w.heap[q]?:=fun q _ M=>by
   have:K≠q:=fun he=>M (by rw[o]; rfl) (by rw[h1,he]; rfl);simp[dc,this]
  have hV:(Blk.map k v p).live=true->∀q,Ĝ (ν id) q->((lkB (vT h vs) id).live=true/\Ĝ (ν id) q)\/w.heap.size<=q:=fun _ q M=>.inl ⟨by rw[o]; rfl,M⟩;have ev:=Ev.upd H1 (B:=.map k v p) (V:=ν id) (w':={w with heap:=w.heap.setIfInBounds K (.map c g)}) S rfl rfl rfl (by simp) z hV (by rw[o]; exact⟨⟨p,rfl⟩,È _ _ _⟩)
  have L:=HR.upd H1 S ev z hV ⟨K,c,g,(È _ _ _).trans h1,by simp[I],by simpa using X.length.symm,fun j q hj=>by
   obtain⟨m,E,A,us,N,Y⟩:=X.get hj;refine⟨m,us,by simpa using E,?_,CR.keep ev.keepA N,Y⟩
   rw[A]; exact XD J⟩
  rw[ic] at ev L;exact⟨L,ev⟩
 have T:∀em,(Instr.checkKey em 10000 kt (keyVal k a)).run P w=.ok () w:=fun em=>Cx (P:=P) (w:=w) (x:=a) (empty:=em) J 9999;rcases B8 (G a) es f.toList 0 Z with⟨h5,h6⟩|⟨y,j,us,h5,h6,h7,h8,h9,e',h10,h11⟩
 ·rw[Nw h5]
  obtain⟨L,ev⟩:=fin (f.push {key:=keyVal k a,val:=C,born:=s}) (s+1) (es++[(a,b)]) (by
   rw[Array.toList_push]
   exact í.append Z ⟨⟨rfl,_,U,D⟩,trivial⟩)
  refine⟨_,?_,L,e1.trans ev (by rw[Ũ]; exact bX _),by rw[Ë,Ũ]⟩;simp only[Instr.mapUpdate,Sem.run_bind,run_underlying ht,Result.andThen_ok,ig h2,T];simp[Instr.findKey,run_underlying hd,h6,setObj,Sem.run,h2]
 ·rw[h9];obtain⟨m,E,A,us',N,Y⟩:=Z.get h10
  have q1':f[j]?=some m:=by simpa using E
  obtain⟨L,ev⟩:=fin (f.modify j fun e=>{e with key:=keyVal k a,val:=C}) s (es.set j (a,b)) (by
   rw[Array.toList_modify]
   have:(f.toList.modify j fun e=>{e with key:=keyVal k a,val:=C})=f.toList.set j {m with key:=keyVal k a,val:=C}:=by
    apply List.ext_getElem?
    intro q;rw[List.getElem?_modify,fC]
    by_cases M:j=q
    ·subst M;have I:=(ca.1 E).1;simp only[if_true,E,I];rfl
    ·simp[M]
   rw[this]
   exact í.set j Z ⟨rfl,_,U,D⟩)
  refine⟨_,?_,L,e1.trans ev (by rw[Ũ]; exact bX _),by rw[Ë,Ũ]⟩
  have R:m.key=keyVal k a:=by rw[A,<-aaF J h11]
  simp only[Instr.mapUpdate,Sem.run_bind,run_underlying ht,Result.andThen_ok,ig h2,T];simp only[cF] at h6;have hsb:Instr.sameBits 10000 (keyVal k a) (keyVal k a)=true:=MN J a 10000;simp[Instr.findKey,run_underlying hd,h6,q1',R,Instr.keyThatStays,hsb,setObj,Sem.run,h2]
end
end Go.Am
end

noncomputable section
namespace Go.Am
variable [Globs] [É]
section
variable {ν ν':Nat->Value} {h h':y5 Blk} {w w':World} {P:Program}
def RB {t:TypeId} {n o:Nat} {d:TypeDesc} (hd:P.underlying t=some d) (g:szP P t=some n) (us:Array Value) (j:Hu d=false->n=1) (k:o+n<=us.size) :
 (part t us o).run P w=.ok (Px (Hu d) ((us.toList.drop o).take n)) w:=by
 unfold part;simp only[Sem.run_bind,tC hd,Result.andThen_ok]
 cases e:Hu d with
 |true =>
  simp only[if_true,Sem.run_bind,ku g,Result.andThen_ok,Sem.run_pure,Px];congr 2;apply eo;rw[Array.toList_extract,List.extract_eq_take_drop];congr 1; omega
 |false =>
  have i:=j e;subst i
  have b:o<us.size:=by omega
  have c:us[o]?=some us[o]:=by simp[b]
  have f:us.toList.drop o=us[o]::us.toList.drop (o+1):=by
   rw[dN (by simpa using b)]; simp
  simp[c,Px,f]
def adv:∀(n d:Nat) (t:TypeId) (cs M:y5 AV) (rest:x9 Bool) (r:Bool),n<=d->adw P n t cs M rest=some r ->
 ∃e c,rest=some c/\r=(e&&c)/\∃D,P.underlying t=some D/\(Hu D=false->cs.length=1)/\∀us ws,í (VRc ν h w) cs us->í (VRc ν h w) M ws->(Op.equalIn d t (Px (Hu D) us) (Px (Hu D) ws)).run P w=.ok e w:=by
 intro n
 induction n with
 |zero=>intro d t cs M rest r _ e; cases e
 |succ n ih =>
  intro d t cs M rest r hnd e;obtain⟨d,rfl⟩:∃d',d=d'+1:=⟨d-1,by omega⟩;unfold adw at e
  split at e<;>try (cases e; done)
  ·rename_i B
   split at e<;>try (cases e; done)
   rename_i a b
   split at e<;>try (cases e; done)
   rename_i c;cases e;refine⟨_,c,rfl,rfl,_,B,fun _=>rfl,fun us ws A h2=>?_⟩;obtain⟨u,rfl,K⟩:=A.one;obtain⟨v,rfl,J⟩:=h2.one;have o:u=.bool a:=K.1;have j:v=.bool b:=J.1;subst o j;exact run_equalIn_bool' w d t a b B
  ·rename_i i B
   split at e<;>try (cases e; done)
   rename_i k a k' b
   split at e<;>try (cases e; done)
   rename_i hk _;subst hk
   split at e<;>try (cases e; done)
   rename_i c;cases e;refine⟨_,c,rfl,rfl,_,B,fun _=>rfl,fun us ws A h2=>?_⟩;obtain⟨u,rfl,K⟩:=A.one;obtain⟨v,rfl,J⟩:=h2.one;have o:u=.int k a:=K.1;have j:v=.int k b:=J.1;subst o j;have:=run_equalIn_int w d t k i a b B
   rw[show(a==b)=decide (a=b) from by by_cases hab:a=b<;>simp[hab]] at this
   exact this
  ·rename_i fs B
   split at e<;>try (cases e; done)
   rename_i hst
   have N:∀(l:y5 Field) (r:Bool),eqFs P (adw P n) cs M l rest=some r->∃e c,rest=some c/\r=(e&&c)/\∀us ws:Array Value,í (VRc ν h w) cs us.toList->í (VRc ν h w) M ws.toList->(Op.eqFields d us ws l).run P w=.ok e w:=by
    intro l
    induction l with
    |nil=>intro r e; exact⟨true,r,e,by simp,fun us ws _ _=>rfl⟩
    |cons f l G =>
     intro r e;unfold eqFs at e
     split at e
     ·rename_i R;obtain⟨e',c,A,h2,I⟩:=G r e;refine⟨e',c,A,h2,fun us ws s p=>?_⟩
      have : ¬ (f.name ≠ "_") := by simpa using R
      simp only[Op.eqFields,if_neg this];exact I us ws s p
     ·rename_i R
      split at e<;>try (cases e; done)
      rename_i m H
      split at e<;>try (cases e; done)
      rename_i x y hx hy;obtain⟨o,r1,A,h2,D,Y,S,I⟩:=ih d f.type x y _ r (by omega) e;obtain⟨j,r2,h4,h5,h6⟩:=G r1 A;refine⟨o&&j,r2,h4,by rw[h2,h5,Bool.and_assoc],fun us ws s p=>?_⟩;obtain⟨K,J⟩:=lQ hx;obtain⟨Z,g4⟩:=lQ hy
      have hnn : f.name ≠ "_" := by simpa using R
      have V:∀{l:y5 AV} {us:Array Value} {z:y5 AV},í (VRc ν h w) l us.toList->z=(l.drop f.offset).take m->z.length=m->f.offset+m<=us.size\/m=0:=fun {l us z} q o j=>by
       have:=q.length;rw[o] at j;simp at j this;omega
      have C:Hu D=false->m=1:=fun g=>by rw[<-J]; exact S g
      have X:∀{l:y5 AV} {us:Array Value} {z:y5 AV},í (VRc ν h w) l us.toList->z=(l.drop f.offset).take m->z.length=m->(part f.type us f.offset).run P w=.ok (Px (Hu D) ((us.toList.drop f.offset).take m)) w:=fun {l us z} q o j=>by
       rcases V q o j with g|g
       ·exact RB Y H us C g
       ·subst g
        have E:Hu D=true:=by cases hq:Hu D with
         |true=>rfl
         |false=>exact absurd (C hq) (by simp)
        unfold part;simp only[Sem.run_bind,tC Y,Result.andThen_ok,E,if_true,ku H,Sem.run_pure,Px];congr 2;apply Array.ext';simp
      have p1:=X s K J;have p2:=X p Z g4;have U:=I ((us.toList.drop f.offset).take m) ((ws.toList.drop f.offset).take m) (by rw[K]; exact(s.drop _).take _) (by rw[Z]; exact(p.drop _).take _);have T:=h6 us ws s p;simp only[Op.eqFields,if_pos hnn,Sem.run_bind,p1,p2,Result.andThen_ok,U]
      cases o with
      |true=>simp[T]
      |false=>simp
   obtain⟨e',c,A,h2,I⟩:=N _ r e;refine⟨e',c,A,h2,_,B,fun g=>by simp[Hu] at g,fun us ws s p=>?_⟩
   have g:P.fieldsOf t=fs:=by simp[Program.fieldsOf,B]
   show(Op.equalIn (d+1) t (.agg us.toArray) (.agg ws.toArray)).run P w=_;rw[run_equalIn_struct w d t _ _ (by rw[g]; exact B) hst,g];exact I us.toArray ws.toArray (by simpa using s) (by simpa using p)
  ·rename_i len W B
   split at e<;>try (cases e; done)
   rename_i m H
   have N:∀(l:y5 Nat) (r:Bool),eqIs P (adw P n) W m cs M l rest=some r->∃e c,rest=some c/\r=(e&&c)/\∀us ws:Array Value,í (VRc ν h w) cs us.toList->í (VRc ν h w) M ws.toList->(Op.eqItems d W m us ws l).run P w=.ok e w:=by
    intro l
    induction l with
    |nil=>intro r e; exact⟨true,r,e,by simp,fun us ws _ _=>rfl⟩
    |cons i l G =>
     intro r e;unfold eqIs at e
     split at e<;>try (cases e; done)
     rename_i x y hx hy;obtain⟨o,r1,A,h2,D,Y,S,I⟩:=ih d W x y _ r (by omega) e;obtain⟨j,r2,h4,h5,h6⟩:=G r1 A;refine⟨o&&j,r2,h4,by rw[h2,h5,Bool.and_assoc],fun us ws s p=>?_⟩;obtain⟨K,J⟩:=lQ hx;obtain⟨Z,g4⟩:=lQ hy
     have V:∀{l:y5 AV} {us:Array Value} {z:y5 AV},í (VRc ν h w) l us.toList->z=(l.drop (i*m)).take m->z.length=m->(i*m)+m<=us.size\/m=0:=fun {l us z} q o j=>by
      have:=q.length;rw[o] at j;simp at j this;omega
     have C:Hu D=false->m=1:=fun g=>by rw[<-J]; exact S g
     have X:∀{l:y5 AV} {us:Array Value} {z:y5 AV},í (VRc ν h w) l us.toList->z=(l.drop (i*m)).take m->z.length=m->(part W us (i*m)).run P w=.ok (Px (Hu D) ((us.toList.drop (i*m)).take m)) w:=fun {l us z} q o j=>by
      rcases V q o j with g|g
      ·exact RB Y H us C g
      ·subst g
       have E:Hu D=true:=by cases hq:Hu D with
        |true=>rfl
        |false=>exact absurd (C hq) (by simp)
       unfold part;simp only[Sem.run_bind,tC Y,Result.andThen_ok,E,if_true,ku H,Sem.run_pure,Px];congr 2;apply Array.ext';simp
     have p1:=X s K J;have p2:=X p Z g4;have U:=I ((us.toList.drop (i*m)).take m) ((ws.toList.drop (i*m)).take m) (by rw[K]; exact(s.drop _).take _) (by rw[Z]; exact(p.drop _).take _);have T:=h6 us ws s p;simp only[Op.eqItems,Sem.run_bind,p1,p2,Result.andThen_ok,U]
     cases o with
     |true=>simp[T]
     |false=>simp
   obtain⟨e',c,A,h2,I⟩:=N _ r e;refine⟨e',c,A,h2,_,B,fun g=>by simp[Hu] at g,fun us ws s p=>?_⟩
   obtain⟨O,L,hsz⟩:∃O,P.info? W=some O/\O.size=m:=by
    unfold szP at H
    split at H
    ·cases H; exact⟨_,‹_›,rfl⟩
    ·cases H
   have hco:P.cellsOf W=m:=by simp[Program.cellsOf,L,hsz]
   show(Op.equalIn (d+1) t (.agg us.toArray) (.agg ws.toArray)).run P w=_;rw[run_equalIn_array w d us.toArray ws.toArray B L,hco];exact I us.toArray ws.toArray (by simpa using s) (by simpa using p)
def abv {op:BinOp} {t:TypeId} {x y v:AV} {i g:Value} (X Y:Operand) (H:HR ν h w) (e:adO P op t x y some=some v) (z:VR ν h w x i) (s:VR ν h w y g) :
 ļ P ν h w (do eqGuard op t X Y i g; binOp op t i g) v h:=by
 unfold adO at e
 split at e
 ·rename_i k a A b;have f:i=.int k a:=z;have h2:g=.int A b:=s;subst f h2
  split at e
  ·rename_i l B
   have c:(eqGuard op t X Y (.int k a) (.int A b)).run P w=.ok () w:=by cases op<;>simp[eqGuard]
   unfold shK at e
   split at e<;>try (cases e; done)
   rename_i hb
   have hb:¬b<0:=by have:=of_decide_eq_true hb; omega
   split at e
   ·cases e;refine ļ.still H (u:=.int k (shlI k a b)) ?_ rfl;rw[Sem.run_bind,c,Result.andThen_ok]
    cases op<;>simp only[Qz,Option.some.injEq,reduceCtorEq] at B
    simp[binOp,Op.shift,hb,shlI]
   ·cases e;refine ļ.still H (u:=.int k (shrI k a b)) ?_ rfl;rw[Sem.run_bind,c,Result.andThen_ok]
    cases op<;>simp only[Qz,Option.some.injEq,reduceCtorEq] at B
    simp[binOp,Op.shift,hb,shrI]
  rename_i I
  split at e<;>try (cases e; done)
  rename_i K _;subst K
  have c:(eqGuard op t X Y (.int k a) (.int k b)).run P w=.ok () w:=by cases op<;>simp[eqGuard]
  split at e
  ·rename_i r d;cases e;refine ļ.still H (u:=.bool r) ?_ rfl;rw[Sem.run_bind,c,Result.andThen_ok]
   cases op<;>simp only[cmpI,reduceCtorEq,Option.some.injEq] at d<;>subst d<;>simp[binOp,Op.intCmp]
  ·split at e
   ·rename_i r d;rw[Ma e];refine ļ.still H (u:=.int k (k.wrap r)) ?_ rfl;rw[Sem.run_bind,c,Result.andThen_ok]
    cases op<;>simp only[arI,reduceCtorEq,Option.some.injEq] at d<;>subst d<;>simp[binOp,Op.intArith]
   ·split at e<;>try (cases e; done)
    ·split at e<;>try (cases e; done)
     rename_i hb
     have hb:¬b=0:=by simpa using hb
     rw[Ma e];refine ļ.still H (u:=.int k (k.wrap (a.tdiv b))) ?_ rfl;rw[Sem.run_bind,c,Result.andThen_ok];simp[binOp,Op.intDiv,hb]
    ·split at e<;>try (cases e; done)
     rename_i hb
     have hb:¬b=0:=by simpa using hb
     cases e;refine ļ.still H (u:=.int k (a.tmod b)) ?_ rfl;rw[Sem.run_bind,c,Result.andThen_ok];simp[binOp,Op.intDiv,hb]
    ·cases e;refine ļ.still H (u:=.int k (andI k a b)) ?_ rfl;rw[Sem.run_bind,c,Result.andThen_ok];simp[binOp,Op.intBits,andI,ack]
    ·cases e;refine ļ.still H (u:=.int k (orI k a b)) ?_ rfl;rw[Sem.run_bind,c,Result.andThen_ok];simp[binOp,Op.intBits,orI,ack]
    ·cases e;refine ļ.still H (u:=.int k (xorI k a b)) ?_ rfl;rw[Sem.run_bind,c,Result.andThen_ok];simp[binOp,Op.intBits,xorI,ack]
    ·cases e;refine ļ.still H (u:=.int k (Q9 k a b)) ?_ rfl;rw[Sem.run_bind,c,Result.andThen_ok];simp[binOp,Op.intBits,Q9,ack]
 ·rename_i a b;have f:i=.bool a:=z;have h2:g=.bool b:=s;subst f h2
  split at e<;>try (cases e; done)
  rename_i G
  have c:(eqGuard op t X Y (.bool a) (.bool b)).run P w=.ok () w:=by cases op<;>simp[eqGuard]
  have C:(Op.equalIn 10000 t (.bool a) (.bool b)).run P w=.ok (a==b) w:=run_equalIn_bool' w 9999 t a b G
  split at e<;>try (cases e; done)
  ·cases e;refine ļ.still H (u:=.bool (a==b)) ?_ rfl;rw[Sem.run_bind,c,Result.andThen_ok];simp[binOp,Op.equal,Op.maxDepth,C]
  ·cases e;refine ļ.still H (u:=.bool (!(a==b))) ?_ rfl;rw[Sem.run_bind,c,Result.andThen_ok];simp[binOp,Op.equal,Op.maxDepth,C]
 ·rename_i a b;have f:i=.string a:=z;have h2:g=.string b:=s;subst f h2
  have c:(eqGuard op t X Y (.string a) (.string b)).run P w=.ok () w:=by cases op<;>simp[eqGuard]
  split at e<;>try (cases e; done)
  ·cases e;refine ļ.still H (u:=.bool (a.toList==b.toList)) ?_ rfl;rw[Sem.run_bind,c,Result.andThen_ok];simp[binOp,Op.stringOp]
  ·cases e;refine ļ.still H (u:=.bool (!(a.toList==b.toList))) ?_ rfl;rw[Sem.run_bind,c,Result.andThen_ok];simp[binOp,Op.stringOp]
  ·split at e<;>try (cases e; done)
   rename_i m;cases e;have m:=of_decide_eq_true m;refine ļ.still H (u:=.string (a++b)) ?_ rfl
   have J:¬(((a.size+b.size:Nat):Int)>IntKind.i64.max):=by
    have:IntKind.i64.max=9223372036854775807:=by decide
    omega
   rw[Sem.run_bind,c,Result.andThen_ok];show(Op.stringOp .add a b).run P w=_;unfold Op.stringOp;dsimp only;rw[if_neg J];rfl
 ·rename_i cs R;obtain⟨us,rfl,f⟩:=z;obtain⟨ws,rfl,h2⟩:=s
  split at e<;>try (cases e; done)
  rename_i j
  split at e<;>try (cases e; done)
  rename_i o
  split at e<;>try (cases e; done)
  rename_i r d;obtain⟨T,S,O,E,D,M,L,N⟩:=adv (ν:=ν) (h:=h) (w:=w) 8 10000 t cs R _ r (by omega) d;cases O;rw[fM] at E;subst E;have q:=N us.toList ws.toList f h2
  have p:Hu D=true:=by rw[M] at j; cases D<;>first|rfl|(simp[aggT] at j; done)
  rw[p] at q
  have q:(Op.equalIn 10000 t (.agg us) (.agg ws)).run P w=.ok r w:=by simpa[Px] using q
  split at e<;>try (cases e; done)
  ·cases e;refine ļ.still H (u:=.bool r) ?_ rfl;rw[Sem.run_bind,run_eqGuard_agg w _ t X Y us ws o,Result.andThen_ok,run_eql_struct,q]; rfl
  ·cases e;refine ļ.still H (u:=.bool (!r)) ?_ rfl;rw[Sem.run_bind,run_eqGuard_agg w _ t X Y us ws o,Result.andThen_ok,run_neq_struct,q]; rfl
 ·cases e
def ifc_ok {op:BinOp} {t:TypeId} {x v:AV} {c:Value} (X:Operand) (H:HR ν h w) (e:adh P op t x some=some v) (i:VR ν h w x c) :
 ļ P ν h w (do eqGuard op t X (.const .nilIface) c .nilIface; binOp op t c .nilIface) v h:=by
 unfold adh at e
 split at e<;>try (cases e; done)
 rename_i ms g
 split at e<;>try (cases e; done)
 rename_i a;obtain⟨k,h0,j⟩:=i
 have f:∀b:Bool,a=b->(Op.equal t c .nilIface).run P w=.ok (!b) w/\(eqGuard op t X (.const .nilIface) c .nilIface).run P w=.ok () w:=by
  intro b hb
  cases b with
  |false =>
   rw[h0 hb];refine⟨?_,?_⟩
   ·show(Op.equalIn (9999+1) t .nilIface .nilIface).run P w=_;generalize 9999=n;rw[Op.equalIn,Sem.run_bind,run_underlying g]; rfl
   ·cases op<;>first|rfl|(cases X<;>rfl)
  |true =>
   obtain⟨tx,u,rfl⟩:=j hb;refine⟨?_,?_⟩
   ·show(Op.equalIn (9999+1) t (.iface tx u) .nilIface).run P w=_;generalize 9999=n;rw[Op.equalIn,Sem.run_bind,run_underlying g]; rfl
   ·cases op<;>rfl
 obtain⟨k1,k2⟩:=f a rfl
 have d:∀op:BinOp,(op=.eql->binOp op t c .nilIface=(do pure (.bool (<-Op.equal t c .nilIface))))/\(op=.neq->binOp op t c .nilIface=(do pure (.bool !(<-Op.equal t c .nilIface)))):=fun op=>by
  constructor
  ·rintro rfl; cases c<;>rfl
  ·rintro rfl; cases c<;>rfl
 split at e<;>try (cases e; done)
 ·cases e;refine ļ.still H (u:=.bool (!a)) ?_ rfl;rw[Sem.run_bind,k2,Result.andThen_ok,(d _).1 rfl,Sem.run_bind,k1];rfl
 ·cases e;refine ļ.still H (u:=.bool a) ?_ rfl;rw[Sem.run_bind,k2,Result.andThen_ok,(d _).2 rfl,Sem.run_bind,k1];simp
def VC {op:UnOp} {x v:AV} {c:Value} (H:HR ν h w) (d:VR ν h w x c)
 (e:(match op,x with|.not,.bool b=>some (AV.bool (!b))|.neg,.int k n=>arK k (0-n) some|_,_=>none)=some v):ļ P ν h w (Op.unary op c) v h:=by
 split at e<;>try (cases e; done)
 ·cases e;rename_i b d;have:c=.bool b:=d;subst this;exact ļ.still H rfl rfl
 ·rename_i k n d;have:c=.int k n:=d;subst this;rw[Ma e];exact ļ.still H (u:=.int k (k.wrap (0-n))) rfl rfl
end
end Go.Am
end

noncomputable section
namespace Go.Am
variable [Globs] [É]
section
variable {ν ν':Nat->Value} {h h':y5 Blk} {w w':World} {P:Program}
def IU (b:AV):∀(as:y5 AV) (h:y5 Blk),ñ (vT h as) b=ñ h b
 |[],_=>rfl
 |a::as,h=>by rw[vT,IU b as,Bp]
def uO.mono {av c:Nat->Prop} (e:∀b,c b->av b) {t:Ty} {xs:y5 (Val t)} {news:y5 Value} (d:uO w av t xs news):uO w c t xs news :=
 ⟨d.1,fun i x hi=>CR.mono e (d.2 i x hi)⟩
def Gv {a:AV} {id:Nat} {h:y5 Blk} (b:lkB h id=.dead):lkB (oc h a) id=.dead:=by
 have c:∀(j g:Nat) (t:Ty) (fz:Bool) (xs:y5 (Val t)),lkB h j=.row t g fz xs->lkB (ã h j (.row t g true xs)) id=.dead:=fun j g t fz xs d=>by
  by_cases e:id=j
  ·subst e; rw[b] at d; cases d
  ·rw[Ì _ e]; exact b
 cases a<;>try exact b
 all_goals
  simp only[oc]
  split
  ·exact c _ _ _ _ _ ‹_›
  ·exact b
def Gr {id:Nat}:∀(as:y5 AV) {h:y5 Blk},lkB h id=.dead->lkB (vT h as) id=.dead
 |[],_,b=>b
 |_::as,_,b=>Gr as (Gv b)
def SX {v:AV} {id:Nat} {h:y5 Blk} (b:lkB h id=.dead):lkB (frz h v) id=.dead:=by
 unfold frz; split
 ·exact Gr _ b
 ·exact Gv b
def Gs {id:Nat}:∀(ps:y5 (Nat×AV)) {h:y5 Blk},lkB h id=.dead->lkB (frzA h ps) id=.dead
 |[],_,b=>b
 |(_,_)::ps,_,b=>Gs ps (SX b)
def RE {h0:y5 Blk} {ty:Ty}:∀(ps:y5 (Nat×AV)) (us:y5 (Nat×Value)) (k:Nat) (c:Array Value) (xs:y5 (Val ty)) (h:y5 Blk),(∀b,ñ h b=ñ h0 b)->HR ν h w->EB h0 ty k ps=some xs ->
 í (fun(a:Nat×AV) (b:Nat×Value)=>a.1=b.1/\VR ν h w a.2 b.2) ps us->(k+ps.length)*ty.size<=c.size ->
 ∃c' news,Instr.fill (fun i=>some (i*ty.size,ty.size)) c us=some c'/\c'.toList=c.toList.take (k*ty.size)++news++c.toList.drop ((k+ps.length)*ty.size)/\uO w (Av ν (frzA h ps)) ty xs news/\xs.length=ps.length /\
  Ev h.length ν h w ν (frzA h ps) w/\HR ν (frzA h ps) w/\(∀b,Av ν (frzA h ps) b->Av ν h b)/\(frzA h ps).length=h.length
 |[],[],k,c,xs,h,g,H,e,_,_=>by
  cases e;exact⟨c,[],rfl,by simp,⟨by simp,fun i x hi=>by simp at hi⟩,rfl,Ev.refl _ _ _ _,H,fun _ hb=>hb,rfl⟩
 |[],_::_,_,_,_,_,_,_,_,d,_=>d.elim
 |_::_,[],_,_,_,_,_,_,_,d,_=>d.elim
 |(i,v)::ps,(j,u)::us,k,c,xs,h,g,H,e,d,T=>by
  obtain⟨⟨B,p⟩,d⟩:=d;simp only at B p; subst B;simp only[EB] at e
  split at e<;>try (cases e; done)
  rename_i A;simp only[bZ,beq_iff_eq] at A;obtain⟨rfl,G⟩:=A
  split at e<;>try (cases e; done)
  rename_i cs M
  split at e<;>try (cases e; done)
  rename_i x S
  split at e<;>try (cases e; done)
  rename_i xs' D;cases e;obtain⟨vs,r,rfl⟩:=Bo M;obtain⟨K,J⟩:=XR r h;have L:=p.cells r;have N:=AG H (L.mono fun _ _ q=>q.1) (J G);have t:vs.map (ñ h)=vs.map (ñ h0):=dP fun b _=>g b;rw[t] at N;have o:=ď S N;obtain⟨R,H1,I⟩:=xT vs H;simp only[frzA,K]
  have f:u.cells.size=ty.size:=by have:=o.length; simpa using this
  have z:(i+1+ps.length)*ty.size<=c.size:=by rw[show i+1+ps.length=i+(ps.length+1) by omega]; simpa using T
  have hi:i*ty.size+ty.size<=c.size:=by
   have:=cN ty.size (show i+1<=i+1+ps.length by omega);rw[cI i 1,eO] at this;omega
  have m:u.cells.toList.length=ty.size:=by simpa using f
  have C:(c.toList.take (i*ty.size)++u.cells.toList++c.toList.drop (i*ty.size+ty.size)).toArray.size=c.size:=by
   simp only[ee,b7,cw,eV,eM,m]; omega
  obtain⟨c',news,Z,h2,Y,X,W,V,O,U⟩:=RE ps us (i+1) (c.toList.take (i*ty.size)++u.cells.toList++c.toList.drop (i*ty.size+ty.size)).toArray xs' (vT h vs)
   (fun b=>(IU b vs h).trans (g b)) H1 D (d.mono fun _ _ q=>⟨q.1,q.2.ev R⟩) (by rw[C]; exact z)
  refine⟨c',u.cells.toList++news,?_,?_,?_,by simp[X],R.trans W (by rw[Ũ]; exact bX _),V,fun b hb=>I b (O b hb),by rw[U,Ũ]⟩
  ·rw[uA rfl f hi]; exact Z
  ·rw[h2]
   have a1:(c.toList.take (i*ty.size)++u.cells.toList++c.toList.drop (i*ty.size+ty.size)).take ((i+1)*ty.size)=c.toList.take (i*ty.size)++u.cells.toList:=by
    have l:(c.toList.take (i*ty.size)++u.cells.toList).length=(i+1)*ty.size:=by
     rw[b7,cw,eM,m,cI,eO]; omega
    rw[<-l,List.take_left]
   have a2:(c.toList.take (i*ty.size)++u.cells.toList++c.toList.drop (i*ty.size+ty.size)).drop ((i+1+ps.length)*ty.size)=c.toList.drop ((i+(ps.length+1))*ty.size):=by
    have l:(c.toList.take (i*ty.size)++u.cells.toList).length=i*ty.size+ty.size:=by
     rw[b7,cw,eM,m]; omega
    rw[show(i+1+ps.length)*ty.size=(c.toList.take (i*ty.size)++u.cells.toList).length+ps.length*ty.size by rw[l,cI,cI,eO],<-eW,List.drop_left,eW];congr 1;rw[cI,cI,eO]; omega
   show(List.take ((i+1)*ty.size) _++news++List.drop ((i+1+ps.length)*ty.size) _)=_;rw[a1,a2];simp
  ·have s:uO w (Av ν (frzA (vT h vs) ps)) ty [x] u.cells.toList:=⟨by simp[f],fun q y E=>by
    cases q with
    |zero =>
     simp at E; subst E;simp only[Nat.zero_mul,List.drop_zero];rw[dv (by omega)];exact CR.mono O o
    |succ q=>simp at E⟩
   exact s.append Y
def L4 {S:St} {a:Act} {nid n:Nat} {t e:TypeId} {ty:Ty} {ps:Array (Nat×Operand)} {xs:y5 (Val ty)} (H:Sim ν S a w) (s:nid<S.h.length) (hd:lkB S.h nid=.dead) (J:xW P t=some e)
 (d:yq P e ty.size=true) (f:ps.toList.length=n) (u:n*ty.size<=65536) (D:EB S.h ty 0 (ps.toList.map fun p=>(p.1,ev S.t p.2))=some xs) :
 ļ P ν S.h w (Instr.buildSlice t n (ps.map fun(i,x)=>(i,a.eval x))) (.own nid 0) (ã (frzA S.h (ps.toList.map fun p=>(p.1,ev S.t p.2))) nid (.row ty 0 false xs)):=by
 obtain⟨i,z,hi,l,r,K,C,B⟩:=jl d;have E:=iu J
 have o:((Array.range (n*ty.size)).map (fun j=>(if n*ty.size=0 then(#[]:Array Value) else z.cells)[j % (if n*ty.size=0 then(#[]:Array Value) else z.cells).size]!)).size=n*ty.size:=by simp
 obtain⟨c',news,N,h2,A,q,M,L,O,k⟩:=RE (ν:=ν) (w:=w) (h0:=S.h) _ (ps.toList.map fun p=>(p.1,a.eval p.2)) 0 ((Array.range (n*ty.size)).map (fun j=>(if n*ty.size=0 then(#[]:Array Value) else z.cells)[j % (if n*ty.size=0 then(#[]:Array Value) else z.cells).size]!)) xs S.h (fun _=>rfl) H.heap D (yw H ps.toList)
  (by rw[o]; simp only[dg]; rw[f,cF]; exact bX _)
 rw[dg,f] at h2 q
 have g:c'.toList=news:=by
  rw[h2];simp
 have m:lkB (frzA S.h (ps.toList.map fun p=>(p.1,ev S.t p.2))) nid=.dead:=Gs _ hd
 have b:=xq (w':=w.alloc (.cells c' e)) L (id:=nid) (g':=0) (xs':=xs) (cap':=n) (by rw[k]; exact s) (fun V=>by rw[m]; trivial) rfl rfl rfl rfl (by omega) (by
  have:c'.size=news.length:=by rw[<-g]; simp
  rw[this,A.1,q]; exact bX _) A (fun j v y=>by rw[<-g] at y; simpa using y)
 rw[q] at b;refine⟨_,_,_,?_,sl (by rw[k]; exact s) rfl,b.2,(M.trans b.1 (by rw[k]; exact bX _)),by rw[Ë,k]⟩
 have G:(ps.map fun(x:Nat×Operand)=>(x.1,a.eval x.2)).toList=ps.toList.map fun p=>(p.1,a.eval p.2):=by simp
 have I:¬(16777216<n*ty.size):=by omega
 have c:Instr.fill (fun i=>some (i*ty.size,ty.size)) ((Array.range (n*ty.size)).map (fun j=>(if n*ty.size=0 then(#[]:Array Value) else z.cells)[j % (if n*ty.size=0 then(#[]:Array Value) else z.cells).size]!)) (ps.map fun(x:Nat×Operand)=>(x.1,a.eval x.2)).toList=some c':=by rw[G]; exact N
 simp only[Instr.buildSlice,Sem.run_bind,run_underlying E,Result.andThen_ok,sizeOf,typeInfo,run_program,hi,Sem.run_pure,l];rw[show(2:Nat) ^ 24=16777216 from rfl,if_neg (by omega:¬n*ty.size>16777216)]
 by_cases h0:n*ty.size=0
 ·simp only[h0,if_true,Sem.run_bind,Sem.run_pure,Result.andThen_ok] at c ⊢
  erw [c]
  simp[newRow]
 ·simp only[h0,if_false,Sem.run_bind,zeroValue,typeInfo,run_program,hi,C,Sem.run_pure,Result.andThen_ok] at c ⊢
  erw [c]
  simp[newRow]
end
end Go.Am
end

noncomputable section
namespace Go.Am
variable [Globs] [É]
section
variable {ν ν':Nat->Value} {h h':y5 Blk} {w w':World} {P:Program}
def upd2 (H:HR ν h w) {i j:Nat} {A B:Blk} {U V:Value} (L:i≠j) (hi:i<h.length) (hj:j<h.length) (X:w'.os=w.os) (C:w'.tape=w.tape) (K:w'.output=w.output)
 (o:w.heap.size<=w'.heap.size)
 (u:∀b,b<w.heap.size->((lkB h i).live=true->¬Ĝ (ν i) b)->((lkB h j).live=true->¬Ĝ (ν j) b)->w'.heap[b]?=w.heap[b]?)
 (hU:A.live=true->∀b,Ĝ U b->((lkB h i).live=true/\Ĝ (ν i) b)\/((lkB h j).live=true/\Ĝ (ν j) b)\/w.heap.size<=b)
 (hV:B.live=true->∀b,Ĝ V b->((lkB h i).live=true/\Ĝ (ν i) b)\/((lkB h j).live=true/\Ĝ (ν j) b)\/w.heap.size<=b)
 (z:A.live=true->B.live=true->∀b,Ĝ U b->Ĝ V b->False)
 (Z:(lkB h i).next ν (ì (ì ν i U) j V) i A) (Y:(lkB h j).next ν (ì (ì ν i U) j V) j B)
 (hbi:Ev h.length ν h w (ì (ì ν i U) j V) (ã (ã h i A) j B) w'->BR (ì (ì ν i U) j V) (ã (ã h i A) j B) w' i A)
 (hbj:Ev h.length ν h w (ì (ì ν i U) j V) (ã (ã h i A) j B) w'->BR (ì (ì ν i U) j V) (ã (ã h i A) j B) w' j B) :
 Ev h.length ν h w (ì (ì ν i U) j V) (ã (ã h i A) j B) w'/\HR (ì (ì ν i U) j V) (ã (ã h i A) j B) w':=by
 have J:lkB (ã (ã h i A) j B) i=A:=by rw[Ì _ L,Ø _ hi]
 have I:lkB (ã (ã h i A) j B) j=B:=Ø _ (by rw[Ë]; exact hj)
 have lo:∀{m},m≠i->m≠j->lkB (ã (ã h i A) j B) m=lkB h m:=fun c h2=>by rw[Ì _ h2,Ì _ c]
 have T:ì (ì ν i U) j V i=U:=by rw[ø _ _ L,È]
 have S:ì (ì ν i U) j V j=V:=È _ _ _
 have y:∀{m},m≠i->m≠j->ì (ì ν i U) j V m=ν m:=fun c h2=>by rw[ø _ _ h2,ø _ _ c]
 -- who owns a block now owned it, or it is new
 have own:∀m b,(lkB (ã (ã h i A) j B) m).live=true->Ĝ (ì (ì ν i U) j V m) b ->
  (∃q,(lkB h q).live=true/\Ĝ (ν q) b/\(q=m\/((q=i\/q=j)/\(m=i\/m=j))))\/(w.heap.size<=b/\(m=i\/m=j)):=by
  intro m b f hb
  by_cases c:m=i
  ·subst c;rw[J] at f; rw[T] at hb;rcases hU f b hb with h2|h2|h2
   ·exact .inl ⟨m,h2.1,h2.2,.inl rfl⟩
   ·exact .inl ⟨j,h2.1,h2.2,.inr ⟨.inr rfl,.inl rfl⟩⟩
   ·exact .inr ⟨h2,.inl rfl⟩
  ·by_cases h2:m=j
   ·subst h2;rw[I] at f; rw[S] at hb;rcases hV f b hb with h2|h2|h2
    ·exact .inl ⟨i,h2.1,h2.2,.inr ⟨.inl rfl,.inr rfl⟩⟩
    ·exact .inl ⟨m,h2.1,h2.2,.inl rfl⟩
    ·exact .inr ⟨h2,.inr rfl⟩
   ·rw[lo c h2] at f; rw[y c h2] at hb;exact .inl ⟨m,f,hb,.inl rfl⟩
 have ev:Ev h.length ν h w (ì (ì ν i U) j V) (ã (ã h i A) j B) w':=by
  refine⟨X,C,K,o,fun b hb l=>⟨u b hb (fun f M=>l ⟨i,f,M⟩) (fun f M=>l ⟨j,f,M⟩),?_⟩,fun m p=>?_⟩
  ·rintro⟨m,f,M⟩;rcases own m b f M with⟨q,c,h2,_⟩|⟨c,_⟩
   ·exact l ⟨q,c,h2⟩
   ·omega
  ·by_cases c:m=i
   ·subst c; rw[J]; exact Z
   ·by_cases h2:m=j
    ·subst h2; rw[I]; exact Y
    ·rw[lo c h2]
     cases hB:lkB h m with
     |dead=>trivial
     |cells cs=>exact⟨⟨cs,rfl⟩,y c h2⟩
     |row t g fz xs=>exact⟨g,fz,xs,rfl,bX _,fun _=>⟨y c h2,rfl⟩⟩
     |map k v es=>exact⟨⟨es,rfl⟩,y c h2⟩
     |deep k g xss=>exact⟨g,xss,rfl,bX _,fun _=>⟨y c h2,rfl⟩⟩
     |acc t xs=>exact⟨xs,rfl⟩
     |fns es=>exact⟨⟨es,rfl⟩,y c h2⟩
     |iter s q=>exact⟨⟨q,rfl⟩,y c h2⟩
 refine⟨ev,fun m=>?_,fun m n b p l e d=>?_,fun b hb=>cf (H.ghlt b hb) o,fun m b f hb hg=>?_,H.globE ev,H.globLE ev⟩
 ·by_cases c:m=i
  ·subst c; rw[J]; exact hbi ev
  ·by_cases h2:m=j
   ·subst h2; rw[I]; exact hbj ev
   ·rw[lo c h2];refine BR.ev ev (H.nd ev) (H.gl ev) (y c h2) (fun b f hb hlt=>u b hlt (fun D E=>c (H.inj m i b f D hb E)) (fun D E=>h2 (H.inj m j b f D hb E))) (H.blk m)
 ·-- one owner alone
  have hd:∀{m n b},(m=i\/m=j)->(n=i\/n=j)->(lkB (ã (ã h i A) j B) m).live=true->(lkB (ã (ã h i A) j B) n).live=true->Ĝ (ì (ì ν i U) j V m) b->Ĝ (ì (ì ν i U) j V n) b->m=n:=by
   intro m n b c h2 p l e d
   rcases c with rfl|rfl<;>rcases h2 with rfl|rfl
   ·rfl
   ·rw[J] at p; rw[I] at l; rw[T] at e; rw[S] at d;exact(z p l b e d).elim
   ·rw[I] at p; rw[J] at l; rw[S] at e; rw[T] at d;exact(z l p b d e).elim
   ·rfl
  rcases own m b p e with⟨q,c,h2,R⟩|⟨c,R⟩
  ·rcases own n b l d with⟨r,N,h5,x⟩|⟨N,x⟩
   ·have W:=H.inj q r b c N h2 h5;subst W;rcases R with rfl|⟨R,O⟩
    ·rcases x with rfl|⟨x,G⟩
     ·rfl
     ·exact hd x G p l e d
    ·rcases x with rfl|⟨x,G⟩
     ·exact hd O R p l e d
     ·exact hd O G p l e d
   ·have:=H.lt ⟨q,c,h2⟩; omega
  ·rcases own n b l d with⟨r,N,h5,x⟩|⟨N,x⟩
   ·have:=H.lt ⟨r,N,h5⟩; omega
   ·exact hd R x p l e d
 ·rcases own m b f hb with⟨q,c,h2,_⟩|⟨c,_⟩
  ·exact H.ghne q b c h2 hg
  ·have:=H.ghlt b hg; omega
def nz {l:y5 Value} {b:Nat}:Ĝ (.agg l.toArray) b↔∃u∈l,iT u=some b:=by
 show(∃u∈l.toArray.toList,iT u=some b)↔_;simp
def Z6 {k:IntKind} {xss:y5 (y5 Int)} {us:y5 Value} (h:í (Rg w k) xss us):∀u∈us,u.oneCell'=true:=by
 intro u b;obtain⟨i,hi,rfl⟩:=cm.1 b;obtain⟨xs,_,base,cap,e,_⟩:=h.get' (bY hi);rw[e]; rfl
def V8 {k:IntKind} {xss:y5 (y5 Int)} {us:y5 Value} (h:í (Rg w k) xss us):∀u∈us,∀b,iT u=some b->b<w.heap.size:=by
 intro u f b hb;obtain⟨i,hi,rfl⟩:=cm.1 f;obtain⟨xs,_,base,cap,e,_,d⟩:=h.get' (bY hi);rw[e] at hb;rcases d with⟨rfl,_⟩|⟨j,off,c,g,rfl,d,_⟩
 ·cases hb
 ·cases hb; exact Ù d
def aa0 (H:HR ν h w) {nid id g n:Nat} {t e:TypeId} {k:IntKind} {xs:y5 Int} {i:TypeInfo} {z:Value} (r:nid<h.length) (hd:lkB h nid=.dead) (ht:P.underlying t=some (.slice e)) (hi:P.info? e=some i) (K:i.size=1) (hz:i.zero=some z) (hzs:z.cells.size=1)
 (s:lkB h id=.row (.int k) g false xs) (hn:n=1) {R:Value} (J:R=ν id) :
 ļ P ν h w (Instr.buildSlice t n #[(0,R)]) (.dp nid 0) (ã (ã h id (.row (.int k) (g+1) false [])) nid (.deep k 0 [xs])):=by
 subst hn
 have D:id≠nid:=fun e=>by rw[e,hd] at s; cases s
 have L:id<h.length:=ĭ s (by simp);have X:=H.blk id;rw[s] at X;obtain⟨base,cap,G,h2,p⟩:=X
 have l:(lkB h id).live=true:=by rw[s]; rfl
 have N:(base=none/\cap=0)\/∃b off c e,base=some ⟨b,off,none⟩/\w.heap[b]?=some (.cells c e (0,0))/\off+cap<=c.size/\∀(j:Nat) (x:Int),xs[j]?=some x->c[off+j]?=some (.int k x):=by
  rcases p with p|⟨b,off,c,O,p,E,M,h6⟩
  ·exact .inl p
  ·refine .inr ⟨b,off,c,O,p,E,by simpa[Ty.size] using M,fun j x hx=>?_⟩;obtain⟨us,Z,Y⟩:=h6 j x hx;have I:us=[.int k x]:=Z;subst I;have:=Y 0 _ rfl;simp only[World.cell?,E] at this;simpa[Ty.size] using this
 have q:(ν id).oneCell'=true:=by rw[G]; rfl
 have d:(w.alloc (.cells #[ν id] e)).heap=w.heap.push (.cells #[ν id] e (0,0)):=rfl
 have f:∀b,b<w.heap.size->(w.alloc (.cells #[ν id] e)).heap[b]?=w.heap[b]?:=fun b hb=>by rw[d,dO]; simp[eQ hb]
 obtain⟨ev,hr⟩:=upd2 (w':=w.alloc (.cells #[ν id] e)) (A:=.row (.int k) (g+1) false []) (B:=.deep k 0 [xs]) (U:=.slice none 0 0) (V:=.agg [Value.slice (some ⟨w.heap.size,0,none⟩) 1 1,ν id].toArray) H D L r rfl rfl rfl (by rw[d]; simp)
  (fun b hb _ _=>f b hb) (fun _ b hb=>by cases hb)
  (fun _ b hb=>by
   obtain⟨u,T,hb⟩:=nz.1 hb;simp only[b9,dM,or_false] at T;rcases T with rfl|rfl
   ·cases hb; exact .inr (.inr (bX _))
   ·exact .inl ⟨l,by rw[G] at hb ⊢; exact hb⟩)
  (fun _ _ b hb _=>by cases hb)
  (by rw[s]; exact⟨g+1,false,[],rfl,fB _,fun hf=>by omega⟩) (by rw[hd]; trivial)
  (fun ev=>⟨none,0,by rw[ø _ _ D,È]; rfl,bX _,.inl ⟨rfl,rfl⟩⟩)
  (fun ev=>by
   have C:(w.alloc (.cells #[ν id] e)).heap[w.heap.size]?=some (.cells #[ν id] e (0,0)):=by rw[d]; simp
   refine⟨some ⟨w.heap.size,0,none⟩,1,[ν id],by rw[È]; rfl,by simp,?_,.inr ⟨w.heap.size,0,#[ν id],e,rfl,C,by simp,fun m u W=>?_⟩,⟨base,cap,G,h2,?_⟩,trivial⟩
   ·refine List.Pairwise.cons (fun v S b hb y=>?_) (fq _ _);simp at S;subst S
    obtain rfl:w.heap.size=b:=by simpa[iT] using hb
    have:=H.lt ⟨id,l,by rw[G] at y ⊢; exact y⟩;omega
   ·cases m with
    |zero=>simpa using W
    |succ m=>simp at W
   ·rcases N with p|⟨b,off,c,O,p,E,M⟩
    ·exact .inl p
    ·exact .inr ⟨b,off,c,O,p,by
      rw[f b (Ù E),E],M⟩)
 refine⟨_,w.alloc (.cells #[ν id] e),.slice (some ⟨w.heap.size,0,none⟩) 1 1,?_,⟨rfl,k,0,[xs],?_,bX _,fun _=>⟨[ν id],È _ _ _⟩⟩,hr,ev,by rw[Ë,Ë]⟩
 ·subst J;simp only[Instr.buildSlice,Sem.run_bind,run_underlying ht,Result.andThen_ok,sizeOf,typeInfo,run_program,hi,Sem.run_pure,K];rw[show(2:Nat) ^ 24=16777216 from rfl,if_neg (by omega:¬1*1>16777216)];simp only[eX,Nat.one_ne_zero,if_false,Sem.run_bind,zeroValue,typeInfo,run_program,hi,hz,Sem.run_pure,Result.andThen_ok]
  have o:Instr.fill (fun i=>some (i*1,1)) ((Array.range 1).map (fun j=>z.cells[j % z.cells.size]!)) [(0,ν id)]=some #[ν id]:=by
   have:=uA (place:=fun i=>some (i*1,1)) (cells:=(Array.range 1).map (fun j=>z.cells[j % z.cells.size]!)) (i:=0) (v:=ν id) (rest:=[]) (off:=0) (size:=1) rfl (by have:=nZ q; simpa using congrArg List.length this) (by simp);rw[this];have hc:=nZ q;simp[Instr.fill,hc]
  simp only[eX] at o
  erw [o]
  simp[newRow]
 ·exact Ø _ (by rw[Ë]; exact r)
def MA (H:HR ν h w) {G:Nat->Prop} {id g:Nat} {k:IntKind} {xss:y5 (y5 Int)} (N:lkB h id=.deep k g xss) {v:Value} (K:∃us,ν id=.agg (v::us).toArray) (O:∀b,Ĝ (ν id) b->¬G b) :
 CR w G (.slice (.slice (.int k))) xss [v]:=by
 obtain⟨us,s⟩:=K;obtain⟨base,cap,D,A,h2,_,V,U⟩:=H.table N;have z:=A;rw[s] at A;have q:=j6 A
 injection q with I E
 subst I E;have own:∀u∈Value.slice base xss.length cap::us,∀b,iT u=some b->¬G b:=fun u r b hb=>O b (by rw[z]; exact⟨u,by simpa using r,hb⟩);refine⟨base,cap,rfl,h2,?_⟩;rcases V with⟨rfl,rfl⟩|⟨b,off,c,e,rfl,B,X,T⟩
 ·exact .inl (cB.1 (by omega))
 ·refine .inr ⟨b,off,rfl,own _ (.head _) b rfl,Ù B,fun i xs J=>?_⟩;obtain⟨u,r,L⟩:=U.get J;refine⟨[u],?_,fun j y d=>?_⟩
  ·obtain⟨f,p,rfl,S,R⟩:=L;refine⟨f,p,rfl,S,?_⟩;rcases R with⟨rfl,rfl⟩|⟨C,l,Z,Y,rfl,o,W,t⟩
   ·exact .inl (cB.1 (by omega))
   ·refine .inr ⟨C,l,rfl,own _ (.tail _ (ci r)) C rfl,Ù o,fun m x M=>⟨[.int k x],rfl,fun j y d=>?_⟩⟩
    cases j with
    |zero =>
     simp at d;subst d;simp only[World.cell?,o];have:=t m x M;simpa[Ty.size] using this
    |succ j=>simp at d
  ·cases j with
   |zero =>
    simp at d;subst d;simp only[World.cell?,B];have:=T i _ r;simpa[Ty.size] using this
   |succ j=>simp at d
def aaZ (H:HR ν h w) {nid id g n:Nat} {t e:TypeId} {k:IntKind} {xss:y5 (y5 Int)} {i:TypeInfo} {z:Value} (D:nid<h.length) (hd:lkB h nid=.dead) (ht:P.underlying t=some (.slice e)) (hi:P.info? e=some i) (O:i.size=1) (hz:i.zero=some z) (hzs:z.cells.size=1)
 (I:lkB h id=.deep k g xss) (R:n=1) {d:Value} (s:∃us,ν id=.agg (d::us).toArray) :
 ļ P ν h w (Instr.buildSlice t n #[(0,d)]) (.own nid 0) (ã (ã h id (.deep k (g+1) [])) nid (.row (.slice (.slice (.int k))) 0 false [xss])):=by
 subst R;have K:=s;obtain⟨us,s⟩:=s
 have L:id≠nid:=fun e=>by rw[e,hd] at I; cases I
 have S:id<h.length:=ĭ I (by simp)
 have f:(lkB h id).live=true:=by rw[I]; rfl
 have C:d.oneCell'=true:=by
  obtain⟨base,cap,Y,X,_⟩:=H.table I;rw[s] at X;have q:=j6 X
  injection q with Z q2
  rw[Z]; rfl
 have l:(w.alloc (.cells #[d] e)).heap=w.heap.push (.cells #[d] e (0,0)):=rfl
 have p:∀b,b<w.heap.size->(w.alloc (.cells #[d] e)).heap[b]?=w.heap[b]?:=fun b hb=>by rw[l,dO]; simp[eQ hb]
 have E:(w.alloc (.cells #[d] e)).heap[w.heap.size]?=some (.cells #[d] e (0,0)):=by rw[l]; simp
 obtain⟨ν',o⟩:∃ν',ν'=ì (ì ν id (.agg [Value.slice none 0 0].toArray)) nid (.slice (some ⟨w.heap.size,0,none⟩) 1 1):=⟨_,rfl⟩;obtain⟨h',M⟩:∃h',h'=ã (ã h id (.deep k (g+1) [])) nid (.row (.slice (.slice (.int k))) 0 false [xss]):=⟨_,rfl⟩
 have J:∀b,Ĝ (ν id) b->¬Av ν' h' b:=by
  intro b hb;rintro(⟨m,G,c⟩|hg)
  ·by_cases W:m=nid
   ·subst W;rw[o,È] at c;obtain rfl:w.heap.size=b:=Option.some.inj c;have:=H.lt ⟨id,f,hb⟩;omega
   ·rw[o,ø _ _ W] at c;rw[M,Ì _ W] at G
    by_cases N:m=id
    ·subst N;rw[È] at c;obtain⟨u,y,c⟩:=nz.1 c;simp at y;subst y;cases c
    ·rw[ø _ _ N] at c;rw[Ì _ N] at G;exact N (H.inj m id b G f c hb)
  ·exact H.ghne id b f hb hg
 have T:CR (w.alloc (.cells #[d] e)) (Av ν' h') (.slice (.slice (.int k))) xss [d]:=CR.keep (fun b hb R=>⟨p b hb,R⟩) (MA H I K J)
 obtain⟨ev,hr⟩:=upd2 (w':=w.alloc (.cells #[d] e)) (A:=.deep k (g+1) []) (B:=.row (.slice (.slice (.int k))) 0 false [xss]) (U:=.agg [Value.slice none 0 0].toArray) (V:=.slice (some ⟨w.heap.size,0,none⟩) 1 1) H L S D rfl rfl rfl (by rw[l]; simp)
  (fun b hb _ _=>p b hb)
  (fun _ b hb=>by
   obtain⟨u,y,hb⟩:=nz.1 hb;simp at y;subst y
   cases hb)
  (fun _ b hb=>by
   obtain rfl:w.heap.size=b:=Option.some.inj hb
   exact .inr (.inr (bX _)))
  (fun _ _ b hb _=>by
   obtain⟨u,y,hb⟩:=nz.1 hb;simp at y;subst y
   cases hb)
  (by rw[I]; exact⟨g+1,[],rfl,fB _,fun hf=>by omega⟩) (by rw[hd]; trivial)
  (fun ev=>⟨none,0,[],by rw[ø _ _ L,È]; rfl,bX _,fq _ _,.inl ⟨rfl,rfl⟩,trivial⟩)
  (fun ev=>by
   rw[<-o,<-M];refine⟨some ⟨w.heap.size,0,none⟩,1,by rw[o,È]; rfl,by simp,.inr ⟨w.heap.size,0,#[d],e,rfl,E,by simp[Ty.size],fun m x G=>?_⟩⟩
   cases m with
   |zero =>
    simp at G;subst G;refine⟨[d],T,?_⟩;have:=ę.of_cells E;simpa using this
   |succ m=>simp at G)
 refine⟨_,w.alloc (.cells #[d] e),.slice (some ⟨w.heap.size,0,none⟩) 1 1,?_,⟨rfl,.slice (.slice (.int k)),0,false,[xss],?_,bX _,fun _=>(È _ _ _).symm⟩,hr,ev,by rw[Ë,Ë]⟩
 ·simp only[Instr.buildSlice,Sem.run_bind,run_underlying ht,Result.andThen_ok,sizeOf,typeInfo,run_program,hi,Sem.run_pure,O];rw[show(2:Nat) ^ 24=16777216 from rfl,if_neg (by omega:¬1*1>16777216)];simp only[eX,Nat.one_ne_zero,if_false,Sem.run_bind,zeroValue,typeInfo,run_program,hi,hz,Sem.run_pure,Result.andThen_ok]
  have r:Instr.fill (fun i=>some (i*1,1)) ((Array.range 1).map (fun j=>z.cells[j % z.cells.size]!)) [(0,d)]=some #[d]:=by
   have:=uA (place:=fun i=>some (i*1,1)) (cells:=(Array.range 1).map (fun j=>z.cells[j % z.cells.size]!)) (i:=0) (v:=d) (rest:=[]) (off:=0) (size:=1) rfl (by have:=nZ C; simpa using congrArg List.length this) (by simp);rw[this];have hc:=nZ C;simp[Instr.fill,hc]
  simp only[eX] at r
  erw [r]
  simp[newRow]
 ·exact Ø _ (by rw[Ë]; exact D)
def PJ {k:IntKind} {base:x9 Addr} {cap:Nat} {xss:y5 (y5 Int)} {us:y5 Value} (l:í (Rg w k) xss us)
 (d:(base=none/\cap=0)\/∃b off c e,base=some ⟨b,off,none⟩/\w.heap[b]?=some (.cells c e (0,0))/\off+cap<=c.size/\∀(i:Nat) (u:Value),us[i]?=some u->c[off+i]?=some u) (o:xss.length<=cap) :
 (∀a,base=some a->∀j u,us[j]?=some u->w.cell? (a.add j)=some u)/\(base=none->us=[]):=by
 constructor
 ·intro a ha j u m;rcases d with⟨d,_⟩|⟨b,off,c,e,d,g,_,f⟩
  ·rw[d] at ha; cases ha
  ·rw[d] at ha; cases ha;rw[Ĩ];simp only[World.cell?,g];exact f j u m
 ·intro hb;rcases d with⟨_,d⟩|⟨b,off,c,e,d,_⟩
  ·have:=l.length;exact cB.1 (by omega)
  ·rw[hb] at d; cases d
def LM (H:HR ν h w) {j f:Nat} (y:f≠j) (hj:j<h.length) {k:IntKind} {U g':Nat} {xss g:y5 (y5 Int)} (z:lkB h f=.deep k U g) {L:x9 Addr} {T:Nat} {us i:y5 Value} (B:ν f=.agg (Value.slice L g.length T::i).toArray)
 (J:∀W,(lkB h j).next ν W j (.deep k g' (xss++g)))
 (p:í (Rg w k) xss us) (D:∀u∈us,∀b,iT u=some b->(lkB h j).live=true/\Ĝ (ν j) b) (hap:Pv us)
 {base':x9 Addr} {cap':Nat} {w':World} (O:xss.length+g.length<=cap') (Y:w'.os=w.os) (E:w'.tape=w.tape) (M:w'.output=w.output) (G:w.heap.size<=w'.heap.size)
 (s:∀b,iT (.slice base' (xss.length+g.length) cap')=some b->((lkB h j).live=true/\Ĝ (ν j) b/\∀u∈us,iT u≠some b)\/w.heap.size<=b)
 (r:∀b,b<w.heap.size->iT (.slice base' (xss.length+g.length) cap')≠some b->w'.heap[b]?=w.heap[b]?)
 (A:(base'=none/\cap'=0)\/∃b off c e,base'=some ⟨b,off,none⟩/\w'.heap[b]?=some (.cells c e (0,0))/\off+cap'<=c.size/\∀(m:Nat) (u:Value),(us++i)[m]?=some u->c[off+m]?=some u) :
 Ev h.length ν h w (ì (ì ν f (.agg [Value.slice none 0 0].toArray)) j (.agg (Value.slice base' (xss.length+g.length) cap'::(us++i)).toArray)) (ã (ã h f (.deep k (U+1) [])) j (.deep k g' (xss++g))) w' /\
  HR (ì (ì ν f (.agg [Value.slice none 0 0].toArray)) j (.agg (Value.slice base' (xss.length+g.length) cap'::(us++i)).toArray)) (ã (ã h f (.deep k (U+1) [])) j (.deep k g' (xss++g))) w':=by
 have N:f<h.length:=ĭ z (by simp);obtain⟨V,cap2',us2',q1,q2,q3,q4,q5⟩:=H.table z;rw[B] at q1;have q:=j6 q1
 injection q with e1 e2
 subst e2
 have l:(lkB h f).live=true:=by rw[z]; rfl
 have o:∀u∈i,∀b,iT u=some b->Ĝ (ν f) b:=fun u d b hb=>by rw[B]; exact nz.2 ⟨u,by simp[d],hb⟩
 have R:Pv i:=q3.sublist (List.sublist_cons_self _ _)
 have K:∀u∈us,∀v∈i,∀b,iT u=some b->iT v≠some b:=fun u d v t b hb X =>
  y (H.inj f j b l (D u d b hb).1 (o v t b X) (D u d b hb).2)
 have S:∀u∈us++i,∀b,iT (.slice base' (xss.length+g.length) cap')=some b->iT u≠some b:=fun u d b hb x=>by
  rcases s b hb with⟨h1,h2,C⟩|h1
  ·rcases b8.1 d with d|d
   ·exact C u d x
   ·exact y (H.inj f j b l h1 (o u d b x) h2)
  ·rcases b8.1 d with d|d
   ·have:=V8 p u d b x; omega
   ·have:=V8 q5 u d b x; omega
 have I:∀u∈us++i,∀b,iT u=some b->b<w.heap.size->w'.heap[b]?=w.heap[b]?:=fun u d b hb Z=>r b Z fun t=>S u d b t hb;refine upd2 H y N hj Y E M G (fun b hb h1 h2=>r b hb fun t=>?_) (fun _ b hb=>?_) (fun _ b hb=>?_) (fun _ _ b hb _=>?_) ?_ (J _) (fun ev=>?_) (fun ev=>?_)
 ·rcases s b t with⟨C,h4,_⟩|C
  ·exact h2 C h4
  ·omega
 ·obtain⟨u,d,hb⟩:=nz.1 hb;simp at d;subst d;cases hb
 ·obtain⟨u,d,hb⟩:=nz.1 hb;rcases b9.1 d with rfl|d
  ·rcases s b hb with⟨C,h4,_⟩|C
   ·exact .inr (.inl ⟨C,h4⟩)
   ·exact .inr (.inr C)
  ·rcases b8.1 d with d|d
   ·exact .inr (.inl (D u d b hb))
   ·exact .inl ⟨l,o u d b hb⟩
 ·obtain⟨u,d,hb⟩:=nz.1 hb;simp at d;subst d;cases hb
 ·rw[z]; exact⟨U+1,[],rfl,fB _,fun hf=>by omega⟩
 ·exact⟨none,0,[],by rw[ø _ _ y,È]; rfl,bX _,fq _ _,.inl ⟨rfl,rfl⟩,trivial⟩
 ·refine⟨base',cap',us++i,by rw[È,b7],by rw[b7]; exact O,?_,A,?_⟩
  ·rw[b7];exact List.Pairwise.cons (fun v t b hb=>S v t b hb) (List.pairwise_append.2 ⟨hap,R,fun u d v t b hb=>K u d v t b hb⟩)
  ·exact(p.append q5).keepRows I
def Tw {n b:Nat} (c:n<=4294967296) (h2:b<=32768):n*b<=140737488355328:=by
 have:=fF c h2;omega
def OW (H:HR ν h w) (t ty:TypeId) {e:TypeId} {i:TypeInfo} {z:Value} (ht:P.underlying t=some (.slice e)) (hi:P.info? e=some i) (hz:i.zero=some z) (C:i.size=1) (hby:i.bytes<=32768) (hzs:z.cells.size=1)
 {j r:Nat} (S:r≠j) (hj:j<h.length) {k:IntKind} {g2 g':Nat} {xss d:y5 (y5 Int)} (K:lkB h r=.deep k g2 d) {base p:x9 Addr} {cap s:Nat} {us f:y5 Value} (B:ν r=.agg (Value.slice p d.length s::f).toArray)
 (x:∀W,(lkB h j).next ν W j (.deep k g' (xss++d)))
 (hx:(base=none/\cap=0/\xss=[]/\us=[])\/∃g,lkB h j=.deep k g xss/\ν j=.agg (Value.slice base xss.length cap::us).toArray)
 (I:xss.length+d.length<=4294967296) :
 ∃V w',(Builtin.append_ #[t,t] ty #[.slice base xss.length cap,.slice p d.length s]).run P w=.ok V w'/\V.oneCell'=true /\
  Ev h.length ν h w (ì (ì ν r (.agg [Value.slice none 0 0].toArray)) j (.agg (V::(us++f)).toArray)) (ã (ã h r (.deep k (g2+1) [])) j (.deep k g' (xss++d))) w' /\
  HR (ì (ì ν r (.agg [Value.slice none 0 0].toArray)) j (.agg (V::(us++f)).toArray)) (ã (ã h r (.deep k (g2+1) [])) j (.deep k g' (xss++d))) w':=by
 obtain⟨base2',cap2',us2',q1,q2,q3,q4,q5⟩:=H.table K;rw[B] at q1;have q:=j6 q1
 injection q with U e2
 injection U with U e3 e4
 subst U e2 e4;obtain⟨c2,n2⟩:=PJ q5 q4 q2;have l2:=q5.length;have R:=Z6 q5
 -- the table that grows
 have hX:í (Rg w k) xss us/\(∀u∈us,∀b,iT u=some b->(lkB h j).live=true/\Ĝ (ν j) b)/\Pv us /\
  ((base=none/\cap=0/\us=[]/\xss=[])\/∃b off c e,base=some ⟨b,off,none⟩/\w.heap[b]?=some (.cells c e (0,0))/\off+cap<=c.size/\xss.length<=cap/\(∀(i:Nat) (u:Value),us[i]?=some u->c[off+i]?=some u)/\((lkB h j).live=true/\Ĝ (ν j) b/\∀u∈us,iT u≠some b)):=by
  rcases hx with⟨rfl,rfl,rfl,rfl⟩|⟨g,hl,N⟩
  ·exact⟨trivial,fun u Y=>(by cases Y),List.Pairwise.nil,.inl ⟨rfl,rfl,rfl,rfl⟩⟩
  ·obtain⟨b',c',us',p1,p2,p3,p4,p5⟩:=H.table hl;rw[N] at p1;have q:=j6 p1
   injection q with U e2
   injection U with U e3 e4
   subst U e2 e4
   have G:(lkB h j).live=true:=by rw[hl]; rfl
   refine⟨p5,fun u Y b hb=>⟨G,by rw[N]; exact nz.2 ⟨u,by simp[Y],hb⟩⟩,p3.sublist (List.sublist_cons_self _ _),?_⟩;rcases p4 with⟨rfl,rfl⟩|⟨b,off,c,e',rfl,X,p7,p8⟩
   ·have h0:xss=[]:=cB.1 (by omega);subst h0;exact .inl ⟨rfl,rfl,cB.1 p5.length.symm,rfl⟩
   ·exact .inr ⟨b,off,c,e',rfl,X,p7,p2,p8,G,by rw[N]; exact nz.2 ⟨_,.head _,rfl⟩,fun u Y hub=>(cO.1 p3).1 u Y b rfl hub⟩
 obtain⟨x1,x2,x3,x4⟩:=hX;have l1:=x1.length
 have hU2:d≠[]->∃a,p=some a:=fun L=>by
  cases hb:p with
  |none=>exact absurd (cB.1 (by rw[l2,n2 hb]; rfl)) L
  |some a=>exact⟨a,rfl⟩
 -- a new array
 have M:∀E:Nat,∃V w',(Result.ok (Value.slice (some ⟨w.heap.size,0,none⟩) (xss.length+d.length) (grownCap w (xss.length+d.length) E e))
  (w.drew.alloc (.cells (us.toArray++f.toArray++Builtin.zeroCells z.cells (grownCap w (xss.length+d.length) E e-(xss.length+d.length))) e)):Result Value)=.ok V w'/\V.oneCell'=true /\
  Ev h.length ν h w (ì (ì ν r (.agg [Value.slice none 0 0].toArray)) j (.agg (V::(us++f)).toArray)) (ã (ã h r (.deep k (g2+1) [])) j (.deep k g' (xss++d))) w' /\
  HR (ì (ì ν r (.agg [Value.slice none 0 0].toArray)) j (.agg (V::(us++f)).toArray)) (ã (ã h r (.deep k (g2+1) [])) j (.deep k g' (xss++d))) w':=by
  intro E;have hge:=grownCap_ge w (xss.length+d.length) E e;obtain⟨q,hq⟩:∃q,q=grownCap w (xss.length+d.length) E e:=⟨_,rfl⟩;rw[<-hq] at hge ⊢;obtain⟨cs,A⟩:∃cs,cs=us.toArray++f.toArray++Builtin.zeroCells z.cells (q-(xss.length+d.length)):=⟨_,rfl⟩
  have O:cs.size=q:=by
   rw[A];simp only[fW,ee,size_zeroCells,hzs];omega
  have J:∀(m:Nat) (u:Value),(us++f)[m]?=some u->cs[m]?=some u:=fun m u D=>by
   rw[<-dJ] at D;rw[A,dU,if_pos]
   ·simpa using D
   ·have:=(dA.1 D).1;simpa using this
  rw[<-A];have y:(w.drew.alloc (.cells cs e)).heap=w.heap.push (.cells cs e (0,0)):=rfl
  have T:(w.drew.alloc (.cells cs e)).heap[w.heap.size]?=some (.cells cs e (0,0)):=by rw[y]; exact Array.getElem?_push_size
  exact⟨_,_,rfl,rfl,LM (w':=w.drew.alloc (.cells cs e)) H S hj K B x x1 x2 x3 (base':=some ⟨w.heap.size,0,none⟩) (cap':=q) hge rfl rfl rfl (by rw[y]; simp)
   (fun b hb=>.inr (by cases hb; exact bX _)) (fun b hb _=>by rw[y,dO]; simp[eQ hb]) (.inr ⟨w.heap.size,0,cs,e,rfl,T,by omega,fun m u D=>by rw[cF]; exact J m u D⟩)⟩
 rcases x4 with⟨rfl,rfl,rfl,rfl⟩|⟨b,off,c,e',rfl,X,p7,p8,p9,p10⟩
 ·by_cases L:d=[]
  ·subst L;have hu2:f=[]:=cB.1 l2.symm;subst hu2;have l:=nu (P:=P) (w:=w) t ty e i ht hi p s;exact⟨_,w,l,rfl,LM H S hj K B x x1 x2 x3 (base':=none) (cap':=0) (bX _) rfl rfl rfl (bX _) (fun b hb=>by cases hb) (fun b _ _=>rfl) (.inl ⟨rfl,rfl⟩)⟩
  ·have h0:0<d.length:=fm.2 L;obtain⟨a,rfl⟩:=hU2 L;rw[cz,cF] at I;have hb48:=Tw I hby;have l:=run_append_nil (P:=P) w t ty e i z ht hi hz a d.length s f (by rw[C]; omega) (c2 a rfl) h0 (by omega) (by omega);obtain⟨V,w',h1,h2,h3⟩:=M 0;refine⟨V,w',?_,h2,h3⟩;rw[<-h1];simpa using l
 ·by_cases v:xss.length+d.length<=cap
  ·have l:=l5 (P:=P) (o:=off) (sLen:=xss.length) (sCap:=cap) t ty e i ht hi X p d.length s f (by rw[C]; omega) c2 n2 R v (by rw[C]; omega);rw[C,eX] at l;obtain⟨cs,A⟩:∃cs,cs=(c.toList.take (off+xss.length)++f++c.toList.drop (off+xss.length+f.length)).toArray:=⟨_,rfl⟩
   have O:cs.size=c.size:=by
    rw[A];simp only[ee,b7,cw,eV,eM];omega
   have J:∀(m:Nat) (u:Value),(us++f)[m]?=some u->cs[off+m]?=some u:=fun m u D=>by
    have hs:=mS c.toList f (off+xss.length) (off+m) (by rw[show c.toList.length=c.size from eM]; omega);rw[A,dJ,hs];rw[dX] at D
    split at D
    ·rw[if_pos (by omega)];simpa using p9 m u D
    ·have hml:=(ca.1 D).1;rw[if_neg (by omega),if_pos (by omega),show off+m-(off+xss.length)=m-us.length by omega];exact D
   rw[<-A] at l;have hh:(w.setRow b cs).heap[b]?=some (.cells cs e' (0,0)):=setRow_heap w b c _ e' _ X
   exact⟨_,_,l,rfl,LM (w':=w.setRow b cs) H S hj K B x x1 x2 x3 (base':=some ⟨b,off,none⟩) (cap':=cap) v rfl rfl rfl (by rw[qN]; exact bX _)
    (fun b' hb=>.inl (by cases hb; exact p10)) (fun b' hb Z=>setRow_other w b b' _ fun he=>Z (by rw[he]; rfl)) (.inr ⟨b,off,cs,e',rfl,hh,by omega,J⟩)⟩
  ·have L:d≠[]:=fun e=>by rw[e,cz] at v; omega
   have h0:0<d.length:=fm.2 L;obtain⟨a,rfl⟩:=hU2 L;have l:=run_append_grow (P:=P) w t ty e i z ht hi hz ⟨b,off,none⟩ xss.length cap us (by rw[C]; omega) (fun m u D=>by rw[Ĩ]; simp only[World.cell?,X]; exact p9 m u D) a d.length s f (by rw[C]; omega) (c2 a rfl) (by omega) (by omega) (growslice_fits (by omega) (Tw I hby));obtain⟨V,w',h1,h2,h3⟩:=M cap;exact⟨V,w',l.trans h1,h2,h3⟩
def adD {S:St} {a:Act} {nid n:Nat} {t:TypeId} {ps:Array (Nat×Operand)} {v:AV} (H:Sim ν S a w) (J:nid<S.h.length) (hd:lkB S.h nid=.dead)
 (e:OT P S.h nid n t (ps.toList.map fun p=>(p.1,ev S.t p.2)) (fun v h=>some (v,h))=some (v,h')):ļ P ν S.h w (Instr.buildSlice t n (ps.map fun(i,x)=>(i,a.eval x))) v h':=by
 cases c:ps.toList with
 |nil=>rw[c] at e; cases e
 |cons p l =>
 cases l with
 |cons q l=>rw[c] at e; cases e
 |nil =>
 obtain⟨O,x⟩:=p;rw[c] at e;simp only[dC,eR,OT] at e;have B:=ċ H x
 cases s:ev S.t x<;>rw[s] at e<;>simp only at e<;>try (cases e; done)
 ·rename_i id g;rw[s] at B
  split at e<;>try (cases e; done)
  rename_i N u
  split at e<;>try (cases e; done)
  rename_i A
  split at e<;>try (cases e; done)
  rename_i k g' xs y
  split at e<;>try (cases e; done)
  rename_i r;cases e;simp only[bZ] at A;obtain⟨b,h0,G⟩:=A;obtain rfl:=cd h0;obtain rfl:=cd G
  obtain rfl:g=g':=by simpa using r
  obtain⟨ti,z,hi,m,_,E,C,f⟩:=jl b;have o:ps=#[(0,x)]:=cD.1 (by rw[c]);subst o;obtain⟨_,t2,L,M,K,d,_,j⟩:=B;rw[y] at d;cases d
  have D:((#[(0,x)]:Array (Nat×Operand)).map fun(i,x)=>(i,a.eval x))=#[(0,a.eval x)]:=by simp
  rw[D];exact aa0 H.heap J hd (iu u) hi m C f y rfl (j rfl)
 ·rename_i id g;rw[s] at B
  split at e<;>try (cases e; done)
  rename_i N u
  split at e<;>try (cases e; done)
  rename_i A
  split at e<;>try (cases e; done)
  rename_i k g' xss y
  split at e<;>try (cases e; done)
  rename_i r;cases e;simp only[bZ] at A;obtain⟨b,h0,G⟩:=A;obtain rfl:=cd h0;obtain rfl:=cd G
  obtain rfl:g=g':=by simpa using r
  obtain⟨ti,z,hi,m,_,E,C,f⟩:=jl b;have o:ps=#[(0,x)]:=cD.1 (by rw[c]);subst o;obtain⟨_,k2,L,I,d,_,j⟩:=B;rw[y] at d;cases d
  have D:((#[(0,x)]:Array (Nat×Operand)).map fun(i,x)=>(i,a.eval x))=#[(0,a.eval x)]:=by simp
  rw[D];exact aaZ H.heap J hd (iu u) hi m C f y rfl (j rfl)
def adE {nid:Nat} {t ty:TypeId} {s v:AV} {c R:Nat} {us Z:Value} (H:HR ν h w) (hn:nid<h.length) (hd:lkB h nid=.dead)
 (e:LN P h nid t s c R (fun v h=>some (v,h))=some (v,h')) (hs:VR ν h w s us) (hx:VR ν h w (.dp c R) Z):ļ P ν h w (Builtin.append_ #[t,t] ty #[us,Z]) v h':=by
 unfold LN at e
 split at e<;>try (cases e; done)
 rename_i el K
 split at e<;>try (cases e; done)
 rename_i r
 split at e<;>try (cases e; done)
 rename_i k O l b
 split at e<;>try (cases e; done)
 rename_i J
 obtain rfl:R=O:=by simpa using J
 obtain⟨ti,z,hi,p,_,B,hz,o⟩:=jl r;have ht:=iu K;have hid2:c<h.length:=ĭ b (by simp);obtain⟨_,k2,g3,X,x,_,G⟩:=hx;rw[b] at x; cases x;obtain⟨us2,d⟩:=G rfl;obtain⟨U,cap2,us2',D,_⟩:=H.table b;have q1':=D;rw[d] at D;have q:=j6 D
 injection q with T S
 subst T S
 split at e
 ·-- nil
  split at e<;>try (cases e; done)
  rename_i f;cases e;have I:us=.slice none 0 0:=hs;subst I
  have m:c≠nid:=fun e=>by rw[e,hd] at b; cases b
  obtain⟨V,w',N,h2,M,L⟩:=OW H t ty ht hi hz p B o m hn (g':=0) (xss:=[]) (us:=[]) b d (fun W=>by rw[hd]; trivial) (.inl ⟨rfl,rfl,rfl,rfl⟩) (by simp[Ú] at f; simpa using f);refine⟨_,w',V,N,⟨h2,k,0,l,Ø _ (by rw[Ë]; exact hn),bX _,fun _=>⟨_,È _ _ _⟩⟩,L,M,by rw[Ë,Ë]⟩
 ·rename_i id g
  split at e<;>try (cases e; done)
  rename_i A
  split at e<;>try (cases e; done)
  rename_i k' g' xss y
  split at e<;>try (cases e; done)
  rename_i hg
  split at e<;>try (cases e; done)
  rename_i hk _;subst hk
  split at e<;>try (cases e; done)
  rename_i f
  obtain rfl:g=g':=by simpa using hg
  cases e
  have m:c≠id:=fun e=>by rw[e] at A; simp at A
  have j:id<h.length:=ĭ y (by simp);obtain⟨_,k3,g4,Y,u,_,E⟩:=hs;rw[y] at u; cases u;obtain⟨C,i⟩:=E rfl;obtain⟨base,cap,us1',p1,_⟩:=H.table y;rw[i] at p1;have q:=j6 p1
  injection q with T S
  subst T S;obtain⟨V,w',N,h2,M,L⟩:=OW H t ty ht hi hz p B o m j (g':=g+1) (xss:=xss) (us:=C) b d (fun W=>by rw[y]; exact⟨g+1,xss++l,rfl,fB _,fun hf=>by omega⟩) (.inr ⟨g,y,i⟩) (by simpa[Ú] using f);refine⟨_,w',V,N,⟨h2,_,g+1,xss++l,Ø _ (by rw[Ë]; exact j),bX _,fun _=>⟨_,È _ _ _⟩⟩,L,M,by rw[Ë,Ë]⟩
 ·cases e
end
end Go.Am
end

noncomputable section
namespace Go.Am
variable {ρ:Type}
def yb (k:IntKind) (n:Int) (K:AV->x9 ρ):arK k n K=(arK k n some).bind K:=rfl
def vL (P:Program) (op:BinOp) (t:TypeId) (x y:AV) (K:AV->x9 ρ):adO P op t x y K=(adO P op t x y some).bind K:=by
 unfold adO; (repeat' split)<;>first|rfl|exact yb _ _ _|(unfold shK; (repeat' split)<;>rfl)
def vn (d:x9 TypeDesc) (h:y5 Blk) (x:AV) (K:AV->x9 ρ):ZC d h x K=(ZC d h x some).bind K:=by
 unfold ZC; (repeat' split)<;>rfl
def m8 (sz:Nat) (h:y5 Blk) (x i:AV) (K:AV->x9 ρ):w9 sz h x i K=(w9 sz h x i some).bind K:=by
 unfold w9; (repeat' split)<;>rfl
def mU (h:y5 Blk) (x:AV) (o:Nat) (K:AV->x9 ρ):tr h x o K=(tr h x o some).bind K:=by
 unfold tr; (repeat' split)<;>rfl
def qw (P:Program) (h:y5 Blk) (t:TypeId) (a:AV) (K:AV->x9 ρ):F8 P h t a K=(F8 P h t a some).bind K:=by
 unfold F8; (repeat' split)<;>rfl
def mR (P:Program) (h:y5 Blk) (t:TypeId) (a v:AV) (K:y5 Blk->x9 ρ):og P h t a v K=(og P h t a v some).bind K:=by
 unfold og; (repeat' split)<;>rfl
def uU (sz:Nat) (h:y5 Blk) (x:AV) (lo hi:x9 AV) (eat:Bool) (K:AV->y5 Blk->x9 ρ) :
 nr sz h x lo hi eat K=(nr sz h x lo hi eat fun v h=>some (v,h)).bind fun r=>K r.1 r.2:=by
 unfold nr; (repeat' split)<;>rfl
def sf (P:Program) (h:y5 Blk) (nid:Nat) (t:TypeId) (s x:AV) (K:AV->y5 Blk->x9 ρ) :
 sg P h nid t s x K=(sg P h nid t s x fun v h=>some (v,h)).bind fun r=>K r.1 r.2:=by
 unfold sg; (repeat' split)<;>rfl
def AZ (P:Program) (h:y5 Blk) (nid:Nat) (t:TypeId) (s:AV) (id g:Nat) (K:AV->y5 Blk->x9 ρ) :
 LN P h nid t s id g K=(LN P h nid t s id g fun v h=>some (v,h)).bind fun r=>K r.1 r.2:=by
 unfold LN; (repeat' split)<;>rfl
def AY (P:Program) (h:y5 Blk) (nid n:Nat) (t:TypeId) (ps:y5 (Nat×AV)) (K:AV->y5 Blk->x9 ρ) :
 OT P h nid n t ps K=(OT P h nid n t ps fun v h=>some (v,h)).bind fun r=>K r.1 r.2:=by
 unfold OT; (repeat' split)<;>rfl
def uS (P:Program) (h:y5 Blk) (nid:Nat) (t:TypeId) (s x:AV) (K:AV->y5 Blk->x9 ρ) :
 ye P h nid t s x K=(ye P h nid t s x fun v h=>some (v,h)).bind fun r=>K r.1 r.2:=by
 unfold ye; (repeat' split)<;>rfl
def vJ (P:Program) (h:y5 Blk) (t:TypeId) (x:AV) (K:y5 Blk->x9 ρ):A3 P h t x K=(A3 P h t x some).bind K:=by
 unfold A3; (repeat' split)<;>rfl
def kG (P:Program) (h:y5 Blk) (t:TypeId) (m i:AV) (ok:Bool) (K:AV->x9 ρ):kH P h t m i ok K=(kH P h t m i ok some).bind K:=by
 unfold kH; (repeat' split)<;>rfl
def iJ (P:Program) (h:y5 Blk) (t:TypeId) (m i x:AV) (K:y5 Blk->x9 ρ):ŝ P h t m i x K=(ŝ P h t m i x some).bind K:=by
 unfold ŝ; (repeat' split)<;>rfl
def Υ (gt:Bool) (l:y5 AV) (K:AV->x9 ρ):∀x,iD gt x l K=(iD gt x l some).bind K:=by
 induction l with
 |nil=>intro x; rfl
 |cons y l b =>
  intro x
  cases x<;>cases y<;>try rfl
  unfold iD; (repeat' split)<;>first|rfl|exact b _
def Y4 {α β γ:Type} {x:x9 α} {y:x9 β} {f:α->x9 β} {g:β->x9 γ} {k:α->x9 γ} {z:x9 γ}
 (b:z=x.bind k) (h2:y=x.bind f) (h:∀a,k a=(f a).bind g):z=y.bind g:=by
 subst b h2; cases x with
 |none=>rfl
 |some a=>exact h a
def vu (P:Program) (op:BinOp) (t:TypeId) (x:AV) (K:AV->x9 ρ):adh P op t x K=(adh P op t x some).bind K:=by
 unfold adh; (repeat' split)<;>rfl
def hZ (s:ByteArray) (j:Int) (K:AV->x9 ρ):nl s j K=(nl s j some).bind K:=by
 unfold nl; (repeat' split)<;>rfl
def hO (s:ByteArray) (lo hi:x9 AV) (K:AV->x9 ρ):nk s lo hi K=(nk s lo hi some).bind K:=by
 unfold nk; (repeat' split)<;>rfl
def ng (h:y5 Blk) (x:AV) (K:AV->x9 ρ):xj h x K=(xj h x some).bind K:=by
 unfold xj; (repeat' split)<;>rfl
def vv (s:ByteArray) (K:x9 AV->x9 ρ):∀es:y5 (ByteArray×AV),xb s es K=(xb s es some).bind K
 |[]=>rfl
 |e::es=>by
  unfold xb
  split
  ·rfl
  ·exact vv s K es
def kI (P:Program) (h:y5 Blk) (t:TypeId) (id:Nat) (i:AV) (ok:Bool) (K:AV->x9 ρ):pp P h t id i ok K=(pp P h t id i ok some).bind K:=by
 unfold pp; (repeat' split)<;>first|rfl|exact Y4 (vv _ _ _) (vv _ _ _) fun _=>by(repeat' split)<;>rfl
def iK (P:Program) (h:y5 Blk) (t:TypeId) (id:Nat) (i x:AV) (K:y5 Blk->x9 ρ):Ş P h t id i x K=(Ş P h t id i x some).bind K:=by
 unfold Ş; (repeat' split)<;>rfl
def yO (h:y5 Blk) (x:AV) (K:AV->y5 Blk->x9 ρ):KM h x K=(KM h x fun v h'=>some (v,h')).bind fun r=>K r.1 r.2:=by
 unfold KM; (repeat' split)<;>rfl
def opR (P:Program) (S:St) (nid:Nat) (eat:Bool) (o:Op):x9 (AV×St):=opK P S nid eat o fun v S=>some (v,S)
def ě {α β γ:Type} {x:x9 α} {y:x9 β} {f:α->x9 β} {g:β->x9 γ} {k:α->x9 γ} {z:x9 γ}
 (b:z=x.bind k) (h2:y=x.bind f) (h:∀a,k a=(f a).bind g):z=y.bind g:=by
 subst b h2; cases x with
 |none=>rfl
 |some a=>exact h a
def ο (j:Int) (K:Nat->x9 ρ):∀(n q:Nat),HB n q j K=(HB n q j some).bind K
 |0,_=>rfl
 |n+1,q=>by
  unfold HB
  split
  ·rfl
  ·exact ο j K n (q+1)
def Bv {j:Int} {v:Nat}:∀{n q:Nat},HB n q j some=some v->j=(v:Int)/\q<=v/\v<q+n
 |0,_,h=>by cases h
 |n+1,q,h=>by
  unfold HB at h
  split at h
  ·rename_i hd;cases h;exact⟨of_decide_eq_true hd,bX _,by omega⟩
  ·obtain⟨b,h2,c⟩:=Bv h;exact⟨b,by omega,by omega⟩
def KI (P:Program) (S:St) (nid:Nat) (eat:Bool) (o:Op) (K:AV->St->x9 ρ) :
 opK P S nid eat o K=(opR P S nid eat o).bind fun r=>K r.1 r.2:=by
 unfold opR;unfold opK;dsimp only
 (repeat' split)<;>first
  |rfl
  |exact ě (vn ..) (vn ..) fun _=>rfl
  |exact ě (qw ..) (qw ..) fun _=>rfl
  |exact ě (mR ..) (mR ..) fun _=>rfl
  |exact ě (vL ..) (vL ..) fun _=>rfl
  |exact ě (iJ ..) (iJ ..) fun _=>rfl
  |exact ě (kG ..) (kG ..) fun _=>rfl
  |exact ě (sf ..) (sf ..) fun _=>rfl
  |exact ě (AZ ..) (AZ ..) fun _=>rfl
  |exact ě (AY ..) (AY ..) fun _=>rfl
  |exact ě (uS ..) (uS ..) fun _=>rfl
  |exact ě (vJ ..) (vJ ..) fun _=>rfl
  |exact ě (Υ _ _ _ _) (Υ _ _ _ _) fun _=>rfl
  |exact ě (yb ..) (yb ..) fun _=>rfl
  |exact ě (uU ..) (uU ..) fun _=>rfl
  |exact ě (mU ..) (mU ..) fun _=>rfl
  |exact ě (m8 ..) (m8 ..) fun _=>rfl
  |exact ě (vu ..) (vu ..) fun _=>rfl
  |exact ě (hZ ..) (hZ ..) fun _=>rfl
  |exact ě (hO ..) (hO ..) fun _=>rfl
  |exact ě (ng ..) (ng ..) fun _=>rfl
  |exact ě (kI ..) (kI ..) fun _=>rfl
  |exact ě (iK ..) (iK ..) fun _=>rfl
  |exact ě (yO ..) (yO ..) fun _=>rfl
  |exact ě (ο ..) (ο ..) fun _=>rfl
  |exact ě (ο ..) (ο ..) fun _=>by(repeat' split)<;>rfl
end Go.Am
end

noncomputable section
namespace Go.Am
variable [Globs] [É]
section
variable {ν ν':Nat->Value} {h h':y5 Blk} {w w':World} {P:Program}
def PN {t:TypeId} {s:ByteArray} {k:IntKind} {j:Int} {v:AV} (H:HR ν h w) (c:P.underlying t=some .string) (e:nl s j some=some v):ļ P ν h w (Instr.index t (.string s) (.int k j)) v h:=by
 unfold nl at e
 split at e<;>try (cases e; done)
 rename_i h0;have h0:=of_decide_eq_true h0
 split at e<;>try (cases e; done)
 rename_i b hb;cases e;refine ļ.still H (u:=.int .u8 b.toNat) ?_ rfl;simp only[Instr.index,asIntOf,Sem.run_bind,Sem.run_pure,Result.andThen_ok,run_underlying c];rw[if_pos h0,hb];rfl
def nt {t:TypeId} {s:ByteArray} {lo hi:x9 Value} (b:P.underlying t=some .string):(Instr.sliceAt t (.string s) lo hi none).run P w=(Instr.slice t (.string s) lo hi none).run P w:=by
 simp only[Instr.sliceAt,Sem.run_bind,run_underlying b,Result.andThen_ok]
def PM {t:TypeId} {s:ByteArray} {lo hi:x9 AV} {b c:x9 Value} {v:AV} (H:HR ν h w) (g:P.underlying t=some .string) (e:nk s lo hi some=some v)
 (o:∀y,lo=some y->∃u,b=some u/\VR ν h w y u) (h2:lo=none->b=none) (j:∀y,hi=some y->∃u,c=some u/\VR ν h w y u) (p:hi=none->c=none):ļ P ν h w (Instr.sliceAt t (.string s) b c none) v h:=by
 unfold nk at e
 split at e
 ·rename_i k l i m;obtain⟨_,rfl,f⟩:=o _ rfl;obtain⟨_,rfl,d⟩:=j _ rfl;have f:_=Value.int k l:=f;have d:_=Value.int i m:=d;subst f d
  split at e<;>try (cases e; done)
  rename_i hb;simp only[bZ,decide_eq_true_eq] at hb;cases e;refine ļ.still H (u:=.string (s.extract l.toNat m.toNat)) ?_ rfl;rw[nt g,run_slice_string w t s k i l m g hb.1 hb.2.1 hb.2.2]
 ·rename_i k l;obtain⟨_,rfl,f⟩:=o _ rfl;have f:_=Value.int k l:=f;subst f;obtain rfl:=p rfl
  split at e<;>try (cases e; done)
  rename_i hb;simp only[bZ,decide_eq_true_eq] at hb;cases e;refine ļ.still H (u:=.string (s.extract l.toNat s.size)) ?_ rfl;rw[nt g,run_slice_string_from_if w t s k l g,if_pos hb]
 ·rename_i k m;obtain⟨_,rfl,d⟩:=j _ rfl;have d:_=Value.int k m:=d;subst d;obtain rfl:=h2 rfl
  split at e<;>try (cases e; done)
  rename_i hb;simp only[bZ,decide_eq_true_eq] at hb;cases e;refine ļ.still H (u:=.string (s.extract 0 m.toNat)) ?_ rfl;rw[nt g,run_slice_string_to_if w t s k m g,if_pos hb]
 ·cases e
def ZI {t:TypeId} (h:u8T P t=true):P.underlying t=some (.int .u8):=by
 unfold u8T at h
 split at h
 ·assumption
 ·cases h
def abu {d dst e:TypeId} {x v:AV} {m:Value} (H:HR ν h w) (o:P.underlying d=some (.slice e)) (hd:P.underlying dst=some .string) (r:P.underlying e=some (.int .u8)) (A:VR ν h w x m) (f:xj h x some=some v):ļ P ν h w (convert d dst m) v h:=by
 unfold xj at f
 split at f<;>try (cases f; done)
 rename_i id g
 split at f<;>try (cases f; done)
 rename_i g' xs p
 split at f<;>try (cases f; done)
 rename_i D;cases f;obtain⟨J,t,N,fz,y,j,C,B⟩:=A;rw[p] at j; cases j;have l:=B (eq_of_beq D);have s:=H.blk id;rw[p] at s;obtain⟨base,cap,I,h2,G⟩:=s;refine ļ.still H (u:=.string (YX xs)) ?_ rfl;rw[l,I];rcases G with⟨rfl,K⟩|⟨b,off,c,q,rfl,M,L,E⟩
 ·have:xs=[]:=cB.1 (by omega);subst this;exact run_convert_bytes_nil w d e o r _ _ dst hd
 ·refine run_convert_bytes_arg w d e o r b off xs.length cap xs rfl (fun i hi=>?_) dst hd;obtain⟨us,k,z⟩:=E i xs[i] (bY hi);have k:us=[Value.int .u8 xs[i]]:=k;subst k;have:=z 0 _ rfl;rw[fL,bY hi];simpa[Ty.size] using this
def RA {a b:ByteArray}:PT a b=true↔a=b:=by
 unfold PT;rw[decide_eq_true_eq];constructor
 ·intro h;exact ByteArray.ext (eo h)
 ·rintro rfl; rfl
def Z1 (a b:ByteArray):(a==b)=PT a b:=by
 have h:(a==b)=(a.data==b.data):=rfl;rw[h,eI,beq_iff_eq,RA];exact⟨fun h=>ByteArray.ext h,fun h=>by rw[h]⟩
def MB {t:TypeId} (h:strT P t=true):P.underlying t=some .string:=by
 unfold strT at h
 split at h
 ·assumption
 ·cases h
def yo {t:TypeId} {s:ByteArray} {empty:Bool} (b:P.underlying t=some .string) (m:Nat):(Instr.checkKey empty (m+1) t (.string s)).run P w=.ok () w:=by
 simp[Instr.checkKey,run_underlying b]
abbrev Mi (ν:Nat->Value) (h:y5 Blk) (w:World) (es:y5 (ByteArray×AV)) (ms:y5 MapEntry):Prop :=
 í (fun(e:ByteArray×AV) (m:MapEntry)=>m.key=.string e.1/\e.2.isFn=true/\VR1 ν h w e.2 m.val) es ms
def GB {s:ByteArray}:∀(es:y5 (ByteArray×AV)) (ms:y5 MapEntry) (i:Nat),Mi ν h w es ms ->
 (xb s es some=some none/\Instr.findNow .string (.string s) ms i=some none/\JT s es=true) \/
 ∃v u j,xb s es some=some (some v)/\Instr.findNow .string (.string s) ms i=some (some (j,u))/\v.isFn=true/\VR1 ν h w v u/\JT s es=false
 |[],[],i,_=>.inl ⟨rfl,rfl,rfl⟩
 |[],_::_,_,c=>c.elim
 |_::_,[],_,c=>c.elim
 |e::es,m::ms,i,c=>by
  obtain⟨⟨q,h2,p⟩,c⟩:=c
  have d:Instr.sameNow .string (.string s) m.key=some (PT s e.1):=by rw[q,<-Z1]; rfl
  cases b:PT s e.1 with
  |true =>
   rw[b] at d;exact .inr ⟨e.2,m.val,i,by simp[xb,b],by simp[Instr.findNow,d],h2,p,by simp[JT,b]⟩
  |false =>
   rw[b] at d;rcases GB (s:=s) es ms (i+1) c with⟨k,g,f⟩|⟨v,u,j,k,g,f,o,l⟩
   ·exact .inl ⟨by simp[xb,b,k],by simp[Instr.findNow,d,g],by unfold JT at f ⊢; rw[List.all_cons,f,b]; rfl⟩
   ·exact .inr ⟨v,u,j,by simp[xb,b,k],by simp[Instr.findNow,d,g],f,o,by unfold JT at l ⊢; rw[List.all_cons,l]; simp⟩
def XZ (H:HR ν h w) {id:Nat} {es:y5 (ByteArray×AV)} {um:Value} (k:lkB h id=.fns es) (i:VR ν h w (.ofn id) um) :
 ∃(b:Nat) (c:Array MapEntry) (d:Nat),um=.map (some b)/\ν id=.map (some b)/\w.heap[b]?=some (.map c d)/\Mi ν h w es c.toList:=by
 obtain⟨_,m,j,g⟩:=i;have e:=H.blk id;rw[k] at e;obtain⟨b,c,d,f,h2,l⟩:=e;exact⟨b,c,d,by rw[g,f],f,h2,l⟩
def Uz {t:TypeId} {id:Nat} {i v:AV} {um ui:Value} {ok:Bool} (H:HR ν h w) (e:pp P h t id i ok some=some v) (K:VR ν h w (.ofn id) um) (hi:VR ν h w i ui):ļ P ν h w (Instr.lookup t um ui ok) v h:=by
 unfold pp at e
 split at e<;>try (cases e; done)
 rename_i J et G
 split at e<;>try (cases e; done)
 rename_i z g
 split at e<;>try (cases e; done)
 rename_i s es x L;have A:=MB x;have hi:ui=.string s:=hi;subst hi;obtain⟨b,c,E,rfl,_,hb,O⟩:=XZ H L K
 cases d:P.info? et with
 |none=>simp[d] at g
 |some l =>
 cases f:l.zero with
 |none=>simp[d,f] at g
 |some p =>
 simp only[d,f,dI,di,Option.some.injEq] at g;subst g;have m:∀em,(Instr.checkKey em 10000 J (.string s)).run P w=.ok () w:=fun em=>yo A 9999
 have run:(∀y j,Instr.findNow .string (.string s) c.toList 0=some (some (j,y))->(Instr.lookup t (.map (some b)) (.string s) ok).run P w=.ok (if ok then .tuple #[y,.bool true] else y) w) /\
  (Instr.findNow .string (.string s) c.toList 0=some none->(Instr.lookup t (.map (some b)) (.string s) ok).run P w=.ok (if ok then .tuple #[p,.bool false] else p) w):=by
  constructor
  ·intro y j C;simp only[Instr.lookup,Sem.run_bind,run_underlying G,Result.andThen_ok,Sem.run_pure,ig hb,m];simp[Instr.findKey,run_underlying A,C]
  ·intro C;simp only[Instr.lookup,Sem.run_bind,run_underlying G,Result.andThen_ok,Sem.run_pure,ig hb,m];simp[Instr.findKey,run_underlying A,C,zeroValue,typeInfo,d,f]
 have k:∀{V:AV} {U:Value} {B:Bool},V.isTup=false->VR ν h w V U->VR ν h w (.tup [V,.bool B]) (.tuple #[U,.bool B]):=fun {V U B} r M=>by
  refine⟨#[U,.bool B],rfl,?_,rfl,trivial⟩
  rwa [qK r] at M
 rw[vv] at e;rcases GB (s:=s) es c.toList 0 O with⟨D,o,_⟩|⟨q,u,j,D,o,I,R,_⟩
 ·rw[D] at e;dsimp only[Option.bind_some] at e;have g:=OY (ν:=ν) (h:=h) (w:=w) p
  cases ok with
  |false=>cases e; exact ļ.still H (run.2 o) g
  |true=>cases e; exact ļ.still H (run.2 o) (k (OX p) g)
 ·rw[D] at e;dsimp only[Option.bind_some] at e
  have r:VR ν h w q u:=by
   cases q<;>try cases I
   exact R
  have N:q.isTup=false:=by cases q<;>first|rfl|cases I
  cases ok with
  |false=>cases e; exact ļ.still H (run.1 _ _ o) r
  |true=>cases e; exact ļ.still H (run.1 _ _ o) (k N r)
def Un {nid:Nat} {t:TypeId} (H:HR ν h w) (c:nid<h.length) (hd:lkB h nid=.dead):ļ P ν h w (Instr.makeMap t none) (.ofn nid) (ã h nid (.fns [])):=by
 obtain⟨ev,d⟩:=Ev.new (w':=w.alloc (.map #[] 0)) (o:=.map #[] 0) H (id:=nid) (B:=.fns []) (V:=.map (some w.heap.size)) c hd rfl rfl rfl rfl (fun b hb=>by cases hb; rfl) fun ev =>
  ⟨w.heap.size,#[],0,È _ _ _,heap_alloc_new w _,trivial⟩
 refine⟨_,_,.map (some w.heap.size),?_,⟨rfl,[],Ø _ c,(È _ _ _).symm⟩,d,ev,Ë _ _ _⟩;simp[Instr.makeMap]
def Wj {nid:Nat} {t:TypeId} {s:ByteArray} (H:HR ν h w) (c:nid<h.length) (hd:lkB h nid=.dead) (d:P.underlying t=some .string):ļ P ν h w (Instr.range t (.string s)) (.oit nid) (ã h nid (.iter s 0)):=by
 obtain⟨ev,e⟩:=Ev.new (w':=w.alloc (.stringIter s 0)) (o:=.stringIter s 0) H (id:=nid) (B:=.iter s 0) (V:=.pointer (some ⟨w.heap.size,0,none⟩)) c hd rfl rfl rfl rfl (fun b hb=>by cases hb; rfl) fun ev =>
  ⟨w.heap.size,È _ _ _,heap_alloc_new w _,cZ 0⟩
 refine⟨_,_,.pointer (some ⟨w.heap.size,0,none⟩),?_,⟨rfl,s,0,Ø _ c,(È _ _ _).symm⟩,e,ev,Ë _ _ _⟩;simp[Instr.range,Sem.run_bind,run_underlying d]
def ac2 (w:World) (k:Nat) (s:ByteArray) (b:Nat) (ty:TypeId) (c:w.heap[k]?=some (.stringIter s b)) (h:b<s.size) :
 (Instr.next (.pointer (some ⟨k,0,none⟩)) true ty).run P w =
  .ok (.tuple #[.bool true,.int .i64 b,.int .i32 (Utf8.decode s b).1]) {w with heap:=w.heap.setIfInBounds k (.stringIter s (b+(Utf8.decode s b).2))}:=by
 simp only[Instr.next,getObj,setObj,Sem.run_bind,Sem.run,c,Result.andThen,h,if_true];simp[goInt]
def aam (w:World) (k:Nat) (s:ByteArray) (b:Nat) (ty:TypeId) (c:w.heap[k]?=some (.stringIter s b)) (h:¬b<s.size) :
 (Instr.next (.pointer (some ⟨k,0,none⟩)) true ty).run P w=.ok (.tuple #[.bool false]) w:=by
 simp[Instr.next,getObj,Sem.run,c,h]
def ac1 {x v:AV} {u:Value} {ty:TypeId} (H:HR ν h w) (e:(KM h x fun v h'=>some (v,h'))=some (v,h')) (o:VR ν h w x u):ļ P ν h w (Instr.next u true ty) v h':=by
 unfold KM at e
 split at e<;>try (cases e; done)
 rename_i id
 split at e<;>try (cases e; done)
 rename_i s p d;obtain⟨G,s',E,A,t⟩:=o;subst t;have m:=H.blk id;rw[d] at m;obtain⟨b,g,h2,D⟩:=m;have f:id<h.length:=ĭ d (by simp);have j:=Ù h2;have z:(p.toNat:Int)=p:=fk D
 split at e
 ·rename_i hd;cases e;have hd:=of_decide_eq_true hd;rw[jb] at hd
  have y:p.toNat<s.size:=by omega
  have r:(p+PD s p).toNat=p.toNat+(Utf8.decode s p.toNat).2:=by unfold PD; omega
  have c:∀q,q<w.heap.size->((lkB h id).live=true->¬Ĝ (ν id) q)->({w with heap:=w.heap.setIfInBounds b (.stringIter s (p.toNat+(Utf8.decode s p.toNat).2))}:World).heap[q]?=w.heap[q]?:=fun q _ i=>by
   have:b≠q:=fun C=>i (by rw[d]; rfl) (by rw[g,C]; rfl);simp[dc,this]
  have l:(Blk.iter s (p+PD s p)).live=true->∀q,Ĝ (ν id) q->((lkB h id).live=true/\Ĝ (ν id) q)\/w.heap.size<=q:=fun _ q i=>.inl ⟨by rw[d]; rfl,i⟩;have ev:=Ev.upd H (B:=.iter s (p+PD s p)) (V:=ν id) (w':={w with heap:=w.heap.setIfInBounds b (.stringIter s (p.toNat+(Utf8.decode s p.toNat).2))}) f rfl rfl rfl (by simp) c l (by rw[d]; exact⟨⟨_,rfl⟩,È _ _ _⟩);have k:=HR.upd H f ev c l ⟨b,(È _ _ _).trans g,by rw[r]; simp[j],by unfold PD; omega⟩;rw[ic] at ev k;refine⟨ν,_,_,by rw[g]; exact ac2 w b s p.toNat ty h2 y,⟨#[.bool true,.int .i64 p.toNat,.int .i32 (Utf8.decode s p.toNat).1],rfl,rfl,congrArg (Value.int .i64) z,rfl,trivial⟩,k,ev,Ë _ _ _⟩
 ·rename_i hd;cases e;have hd:=of_decide_eq_false hd;rw[jb] at hd;exact ļ.still H (by rw[g]; exact aam w b s p.toNat ty h2 (by omega)) ⟨#[.bool false],rfl,rfl,trivial⟩
def yR {t:TypeId} {id:Nat} {i x:AV} {um ui f:Value} (H:HR ν h w) (e:Ş P h t id i x some=some h') (M:VR ν h w (.ofn id) um) (hi:VR ν h w i ui) (K:VR ν h w x f) :
 ∃w',(Instr.mapUpdate t um ui f).run P w=.ok () w'/\HR ν h' w'/\Ev h.length ν h w ν h' w'/\h'.length=h.length:=by
 unfold Ş at e
 split at e<;>try (cases e; done)
 rename_i J et L
 split at e<;>try (cases e; done)
 rename_i s es p j
 split at e<;>try (cases e; done)
 rename_i y;simp only[bZ] at y;cases e;have C:=MB p;have hi:ui=.string s:=hi;subst hi;obtain⟨m,b,c,rfl,I,h2,E⟩:=XZ H j M;have k:id<h.length:=ĭ j (by simp);have u:=Ù h2
 have l:x.isFn=true:=by cases x<;>first|rfl|cases y.2
 have o:VR1 ν h w x f:=by
  cases x<;>try cases l
  exact K
 have v:∀em,(Instr.checkKey em 10000 J (.string s)).run P w=.ok () w:=fun em=>yo C 9999
 have g:Instr.findNow .string (.string s) b.toList 0=some none:=by
  rcases GB (s:=s) es b.toList 0 E with⟨_,O,_⟩|⟨_,_,_,_,_,_,_,G⟩
  ·exact O
  ·rw[y.1] at G; cases G
 have d:∀q,q<w.heap.size->((lkB h id).live=true->¬Ĝ (ν id) q)->({w with heap:=w.heap.setIfInBounds m (.map (b.push {key:=.string s,val:=f,born:=c}) (c+1))}:World).heap[q]?=w.heap[q]?:=fun q _ r=>by
  have:m≠q:=fun N=>r (by rw[j]; rfl) (by rw[I,N]; rfl);simp[dc,this]
 have D:(Blk.fns (es++[(s,x)])).live=true->∀q,Ĝ (ν id) q->((lkB h id).live=true/\Ĝ (ν id) q)\/w.heap.size<=q:=fun _ q r=>.inl ⟨by rw[j]; rfl,r⟩;have ev:=Ev.upd H (B:=.fns (es++[(s,x)])) (V:=ν id) (w':={w with heap:=w.heap.setIfInBounds m (.map (b.push {key:=.string s,val:=f,born:=c}) (c+1))}) k rfl rfl rfl (by simp) d D (by rw[j]; exact⟨⟨_,rfl⟩,È _ _ _⟩)
 have z:Mi ν h w (es++[(s,x)]) (b.push {key:=.string s,val:=f,born:=c}).toList:=by
  rw[Array.toList_push];exact í.append E ⟨⟨rfl,l,o⟩,trivial⟩
 have A:=HR.upd H k ev d D ⟨m,b.push {key:=.string s,val:=f,born:=c},c+1,(È _ _ _).trans I,by simp[u],z.mono fun _ _ q=>⟨q.1,q.2.1,q.2.2.ev ev⟩⟩;rw[ic] at ev A;refine⟨_,?_,A,ev,Ë _ _ _⟩;simp only[Instr.mapUpdate,Sem.run_bind,run_underlying L,Result.andThen_ok,ig h2,v];simp[Instr.findKey,run_underlying C,g,setObj,Sem.run,h2]
end
end Go.Am
end

noncomputable section
namespace Go.Am
variable [Globs] [É]
section
variable {ν ν':Nat->Value} {w w':World} {P:Program}
def Vk (ν:Nat->Value) (S:St) (w:World) (r:Result Next) (v:AV) (b:St):Prop :=
 ∃ν' w' u,(r=.ok (.value u) w'\/(r=.ok .skip w'/\u=undef))/\VR ν' b.h w' v u/\HR ν' b.h w'/\Ev S.h.length ν S.h w ν' b.h w'/\b.h.length=S.h.length/\b.t=S.t
def ļ.step {S:St} {x:Sem Value} {v:AV} {h':y5 Blk} (hd:ļ P ν S.h w x v h') :
 Vk ν S w ((do let u <-x; pure (.value u):Sem Next).run P w) v {t:=S.t,h:=h'}:=by
 obtain⟨ν',w',u,e,h2,d,c,b⟩:=hd;refine⟨ν',w',u,.inl ?_,h2,d,c,b,rfl⟩;simp[e]
def Vk.still {S:St} {r:Result Next} {v:AV} {u:Value} (H:HR ν S.h w) (c:r=.ok (.value u) w) (b:VR ν S.h w v u):Vk ν S w r v S :=
 ⟨ν,w,u,.inl c,b,H,Ev.refl _ _ _ _,rfl,rfl⟩
def td {S:St} {x:Sem Unit} {h':y5 Blk} (hd:∃w',x.run P w=.ok () w'/\HR ν h' w'/\Ev S.h.length ν S.h w ν h' w'/\h'.length=S.h.length) :
 Vk ν S w ((do x; pure .skip:Sem Next).run P w) .any {t:=S.t,h:=h'}:=by
 obtain⟨w',e,d,c,b⟩:=hd;refine⟨ν,w',undef,.inr ⟨?_,rfl⟩,trivial,d,c,b,rfl⟩;simp[e]
def XI {a:AV} {v:Value} {h:y5 Blk} (hi:isV0 a=true) (b:VR ν h w a v):VR0 ν h w a v:=by
 have d:a.isFn=false:=by cases a<;>first|rfl|cases hi
 have h2:a.isAgg=false:=by cases a<;>first|rfl|cases hi
 have c:a.isTup=false:=by cases a<;>first|rfl|cases hi
 rwa [qK c,sR h2,qL d] at b
def í.of_map {α β γ:Type} {R:β->γ->Prop} {f:α->β} {g:α->γ}:∀{l:y5 α},(∀x∈l,R (f x) (g x))->í R (l.map f) (l.map g)
 |[],_=>trivial
 |x::l,h=>⟨h x (by simp),í.of_map fun y b=>h y (by simp[b])⟩
def Z5 (k:IntKind) (a b:Int):(Builtin.max2 (.int k a) (.int k b)).run P w=.ok (.int k (SP a b)) w:=rfl
def Z4 (k:IntKind) (a b:Int):(Builtin.min2 (.int k a) (.int k b)).run P w=.ok (.int k (UE a b)) w:=rfl
def V4 {S:St} {a:Act} {x y:Operand} (h:qO x y=true):a.eval x=a.eval y:=by
 unfold qO at h
 split at h
 ·have:=eq_of_beq h; subst this; rfl
 ·have:=of_decide_eq_true h; subst this; rfl
 ·cases h
def ġ {α β:Type} {x:x9 α} {f:α->x9 β} {r:β} (h:x.bind f=some r):∃a,x=some a/\f a=some r:=by
 cases x with
 |none=>cases h
 |some a=>exact⟨a,rfl,h⟩
def arr1 {α:Type} {a:Array α} {x:α} (h:a.toList=[x]):a=#[x]:=eo (by simpa using h)
def arr2 {α:Type} {a:Array α} {x y:α} (h:a.toList=[x,y]):a=#[x,y]:=eo (by simpa using h)
def i6 {S:St} {a:Act} {o:Oper} {b:Builtin} {args:Array Operand} {tys:Array TypeId} {f:Array TypeId->TypeId->Array Value->Sem Value} (d:o.op=.call ⟨.builtin b,args,tys⟩)
 (hb:∀c vs,builtin b tys o.type c vs=(do pure (.value (<-f tys o.type vs)):Sem Next)) :
 execOp a.eval o=(do let u <-f tys o.type (args.map a.eval); pure (.value u)):=by
 unfold execOp;rw[d];simp only[resolve,pure_bind,invoke,hb]
def aac {S S':St} {a:Act} {o:Oper} {nid:Nat} {eat:Bool} {v:AV} {clone:Nat->Bool} (H:Sim ν S a w) (hn:ā clone o.op=true->nid<S.h.length/\lkB S.h nid=.dead)
 (e:opR P S nid eat o.op=some (v,S')):Vk ν S w ((execOp a.eval o).run P w) v S':=by
 have E:=H.heap
 cases A:o.op with
 |move x =>
  rw[A] at e; cases e;exact Vk.still E (by unfold execOp; rw[A]; rfl) (ċ H x)
 |assign x =>
  rw[A] at e; cases e;exact Vk.still E (by unfold execOp; rw[A]; rfl) (ċ H x)
 |pick c x y =>
  rw[A] at e;simp only[opR,opK] at e
  split at e<;>try (cases e; done)
  rename_i b hb;have O:=ċ H c;rw[hb] at O;have O:a.eval c=.bool b:=O
  have D:(execOp a.eval o).run P w=.ok (.value (if b then a.eval x else a.eval y)) w:=by unfold execOp; rw[A]; simp[asBool,O]
  split at e
  ·cases e; exact Vk.still E D (ċ H x)
  ·cases e; exact Vk.still E D (ċ H y)
 |box W x =>
  rw[A] at e;simp only[opR,opK] at e
  split at e<;>try (cases e; done)
  rename_i cs R
  have D:execOp a.eval o=(do let u <-Instr.box W (a.eval x); pure (.value u)):=by unfold execOp; rw[A]
  rw[D]
  split at e
  ·split at e<;>try (cases e; done)
   split at e<;>try (cases e; done)
   rename_i y J;cases e;exact(adM E R J (ċ H x)).step
  ·cases e;obtain⟨B,h2⟩:=hn (by rw[A]; rfl);exact(box_ok E B h2 R (ċ H x)).step
 |alloc W =>
  rw[A] at e;simp only[opR,opK] at e
  split at e<;>try (cases e; done)
  rename_i z hz
  split at e<;>try (cases e; done)
  rename_i cs R;cases e;obtain⟨B,h2⟩:=hn (by rw[A]; rfl)
  have D:execOp a.eval o=(do let u <-Instr.alloc W true (.tuple #[]); pure (.value u)):=by unfold execOp; rw[A]
  rw[D];exact(abC E B h2 hz R).step
 |build t ps =>
  rw[A] at e;simp only[opR,opK] at e
  have D:execOp a.eval o=(do let u <-Instr.build t (ps.map fun(i,x)=>(i,a.eval x)); pure (.value u)):=by unfold execOp; rw[A]
  rw[D]
  split at e<;>try (cases e; done)
  ·rename_i fs I
   split at e<;>try (cases e; done)
   rename_i hfs
   split at e<;>try (cases e; done)
   rename_i z hz
   split at e<;>try (cases e; done)
   rename_i zs X
   split at e<;>try (cases e; done)
   rename_i cs R;cases e;exact(IC H I hfs hz X R).step
  ·rename_i n W I
   split at e<;>try (cases e; done)
   rename_i sz z U hz
   split at e<;>try (cases e; done)
   rename_i zs X
   split at e<;>try (cases e; done)
   rename_i cs R;cases e;exact(Q4 H I U hz X R).step
 |buildSlice t n ps =>
  rw[A] at e
  have D:execOp a.eval o=(do let u <-Instr.buildSlice t n (ps.map fun(i,x)=>(i,a.eval x)); pure (.value u)):=by unfold execOp; rw[A]
  rw[D];obtain⟨B,h2⟩:=hn (by rw[A]; rfl);simp only[opR,opK] at e
  split at e
  ·rw[AY] at e;obtain⟨⟨M,h'⟩,L,T⟩:=ġ e;cases T;exact(adD H B h2 L).step
  split at e<;>try (cases e; done)
  rename_i W hel
  split at e<;>try (cases e; done)
  rename_i ty hty
  split at e<;>try (cases e; done)
  rename_i O;simp only[bZ,beq_iff_eq,decide_eq_true_eq] at O
  split at e<;>try (cases e; done)
  rename_i xs hxs;cases e;exact(L4 H B h2 hel O.1 O.2.1 O.2.2 hxs).step
 |load t x =>
  rw[A] at e;simp only[opR,opK] at e;rw[qw] at e;obtain⟨M,B,h2⟩:=ġ e;cases h2
  have D:execOp a.eval o=(do let u <-Instr.loadAt t (a.eval x); pure (.value u)):=by unfold execOp; rw[A]
  rw[D];obtain⟨u,L,T⟩:=Xr E B (ċ H x);exact(ļ.still E L T).step
 |store t x y =>
  rw[A] at e;simp only[opR,opK] at e
  have D:execOp a.eval o=(do Instr.storeAt t (a.eval x) (a.eval y); pure .skip):=by unfold execOp; rw[A]
  rw[D]
  split at e
  ·split at e<;>try (cases e; done)
   rename_i id g lo n hsub
   split at e<;>try (cases e; done)
   rename_i ty g' xs hl
   split at e<;>try (cases e; done)
   rename_i O;simp only[bZ,beq_iff_eq,decide_eq_true_eq] at O;obtain⟨rfl,hln⟩:=O;rw[mR] at e;obtain⟨h',B,h2⟩:=ġ e;cases h2;have J:=ċ H y;rw[hsub] at J;obtain⟨ν1,v1,H1,ev1⟩:=adA E hl hln J;obtain⟨w',k1,k2,k3,k4⟩:=Rw H1 B ((ċ H x).ev ev1) v1;refine⟨ν1,w',undef,.inr ⟨?_,rfl⟩,trivial,k2,ev1.trans k3 (ez (Ë _ _ _).symm),k4.trans (Ë _ _ _),rfl⟩;simp[k1]
  ·rw[mR] at e;obtain⟨h',B,h2⟩:=ġ e;cases h2;exact td (Rw E B (ċ H x) (ċ H y))
 |nilCheck x =>
  rw[A] at e;simp only[opR,opK] at e;have C:=ċ H x
  split at e<;>try (cases e; done)
  ·rename_i id off he;cases e;rw[he] at C;have K:=C;obtain⟨cs,b,B,h2,L⟩:=K;exact Vk.still E (by unfold execOp; rw[A]; simp only[L]; rfl) (L▸C)
  ·rename_i t x' off he;cases e;rw[he] at C;have K:=C;obtain⟨b,o',us,L,T⟩:=K;exact Vk.still E (by unfold execOp; rw[A]; simp only[L]; rfl) (L▸C)
  ·rename_i id g i off he
   split at e<;>try (cases e; done)
   rename_i t g' fz xs hl
   split at e<;>try (cases e; done)
   rename_i hgg;cases e;rw[he] at C;have K:=C;obtain⟨ho,t2,g2,fz2,xs2,hl2,hle,hf⟩:=K;rw[hl] at hl2; cases hl2;obtain⟨_,b,o',cap,_,L⟩:=hf (eq_of_beq hgg);exact Vk.still E (by unfold execOp; rw[A]; simp only[L]; rfl) (L▸C)
 |binOp op t x y yt =>
  rw[A] at e;simp only[opR,opK] at e
  have D:execOp a.eval o=(do let u <-(do eqGuard op t x y (a.eval x) (a.eval y); binOp op t (a.eval x) (a.eval y)); pure (.value u)):=by unfold execOp; rw[A]
  rw[D]
  split at e
  ·rename_i hnil
   have J:y=.const .nilIface:=by
    unfold XJ at hnil
    split at hnil
    ·rfl
    ·cases hnil
   subst J;rw[vu] at e;obtain⟨M,B,h2⟩:=ġ e;cases h2;exact(ifc_ok x E B (ċ H x)).step
  ·rw[vL] at e;obtain⟨M,B,h2⟩:=ġ e;cases h2;exact(abv x y E B (ċ H x) (ċ H y)).step
 |unOp op t x =>
  rw[A] at e;simp only[opR,opK] at e
  have D:execOp a.eval o=(do let u <-Op.unary op (a.eval x); pure (.value u)):=by unfold execOp; rw[A]
  rw[D];have C:=ċ H x
  split at e<;>try (cases e; done)
  ·rename_i b he;cases e;rw[he] at C;exact(VC (op:=.not) E C rfl).step
  ·rename_i k n he;rw[yb] at e;obtain⟨M,B,h2⟩:=ġ e;cases h2;rw[he] at C;exact(VC (op:=.neg) E C B).step
 |convert src dst x =>
  rw[A] at e;simp only[opR,opK] at e
  have D:execOp a.eval o=(do let u <-convert src dst (a.eval x); pure (.value u)):=by unfold execOp; rw[A]
  rw[D];have C:=ċ H x
  split at e<;>try (cases e; done)
  ·rename_i d k k' n U hd he;cases e;rw[he] at C;have C:a.eval x=.int k' n:=C;refine(ļ.still (v:=.int k (k.wrap n)) (u:=.int k (k.wrap n)) E ?_ rfl).step;rw[C];simp only[convert,Sem.run_bind,run_underlying U,run_underlying hd,Result.andThen_ok];simp[Conv.intToInt]
  ·rename_i W U hd
   split at e<;>try (cases e; done)
   rename_i hu8;rw[ng] at e;obtain⟨M,B,h2⟩:=ġ e;cases h2;exact(abu E U hd (ZI hu8) C B).step
 |makeFunc fn first caps =>
  rw[A] at e;simp only[opR,opK] at e
  split at e<;>try (cases e; done)
  rename_i O;simp only[bZ,cr] at O;cases e
  have D:execOp a.eval o=(do let u <-Instr.makeFunc fn (first.map a.eval) (caps.map a.eval); pure (.value u)):=by unfold execOp; rw[A]
  rw[D];refine(ļ.still (v:=.fn fn (first.toList.map (ev S.t)) (caps.toList.map (ev S.t))) (u:=.func fn (first.map a.eval) (caps.map a.eval)) E rfl ⟨_,_,rfl,?_,?_⟩).step
  ·rw[fj];exact í.of_map fun x D=>XI (O.1 _ (List.mem_map_of_mem D)) (ċ H x)
  ·rw[fj];exact í.of_map fun x D=>XI (O.2 _ (List.mem_map_of_mem D)) (ċ H x)
 |makeMap t r =>
  rw[A] at e;simp only[opR,opK] at e
  split at e<;>try (cases e; done)
  rename_i kt et I;obtain⟨B,h2⟩:=hn (by rw[A]; rfl)
  have D:execOp a.eval o=(do let u <-Instr.makeMap t none; pure (.value u)):=by unfold execOp; rw[A]; rfl
  rw[D]
  split at e<;>try (cases e; done)
  ·rename_i k M hk C
   split at e<;>try (cases e; done)
   cases e;exact(Um k M E B h2).step
  ·split at e<;>try (cases e; done)
   cases e;exact(Un E B h2).step
 |makeSlice t l c =>
  rw[A] at e;simp only[opR,opK] at e
  split at e<;>try (cases e; done)
  rename_i k n W hsame hl hel
  split at e<;>try (cases e; done)
  rename_i ty hty
  split at e<;>try (cases e; done)
  rename_i hrow
  split at e<;>try (cases e; done)
  rename_i zs X
  split at e<;>try (cases e; done)
  rename_i z hz
  split at e<;>try (cases e; done)
  rename_i hb;simp only[bZ,decide_eq_true_eq,Ú] at hb;cases e;obtain⟨B,h2⟩:=hn (by rw[A]; rfl);have C:=ċ H l;rw[hl] at C;have C:a.eval l=.int k n:=C
  have O:a.eval c=.int k n:=by rw[<-V4 (S:=S) hsame,C]
  have D:execOp a.eval o=(do let u <-Instr.makeSlice t (.int k n) (.int k n); pure (.value u)):=by unfold execOp; rw[A]; simp only[C,O]
  rw[D];exact(NE E B h2 hel hrow X hz hb.1 hb.2).step
 |slice t x lo hi mx =>
  rw[A] at e;simp only[opR,opK] at e
  split at e<;>try (cases e; done)
  all_goals
   have D:execOp a.eval o=(do let u <-Instr.sliceAt t (a.eval x) (lo.map a.eval) (hi.map a.eval) none; pure (.value u)):=by unfold execOp; rw[A]; rfl
   rw[D]
  ·rename_i W I
   split at e<;>try (cases e; done)
   rename_i sz U;rw[uU] at e;obtain⟨⟨M,h'⟩,B,h2⟩:=ġ e;cases h2;refine(ZZ E I U B (ċ H x) (fun y J=>?_) (fun J=>?_) (fun y J=>?_) (fun J=>?_)).step
   ·cases lo with
    |none=>cases J
    |some l=>cases J; exact⟨_,rfl,ċ H l⟩
   ·cases lo with
    |none=>rfl
    |some l=>cases J
   ·cases hi with
    |none=>cases J
    |some l=>cases J; exact⟨_,rfl,ċ H l⟩
   ·cases hi with
    |none=>rfl
    |some l=>cases J
  ·rename_i I;have C:=ċ H x
   split at e<;>try (cases e; done)
   rename_i s U;rw[U] at C;have C:a.eval x=.string s:=C;rw[hO] at e;obtain⟨M,B,h2⟩:=ġ e;cases h2;rw[C];refine(PM E I B (fun y J=>?_) (fun J=>?_) (fun y J=>?_) (fun J=>?_)).step
   ·cases lo with
    |none=>cases J
    |some l=>cases J; exact⟨_,rfl,ċ H l⟩
   ·cases lo with
    |none=>rfl
    |some l=>cases J
   ·cases hi with
    |none=>cases J
    |some l=>cases J; exact⟨_,rfl,ċ H l⟩
   ·cases hi with
    |none=>rfl
    |some l=>cases J
 |fieldAddr t x f =>
  rw[A] at e;simp only[opR,opK] at e
  split at e<;>try (cases e; done)
  rename_i fs I
  split at e<;>try (cases e; done)
  rename_i fd hf
  split at e<;>try (cases e; done)
  rename_i n U;rw[mU] at e;obtain⟨M,B,h2⟩:=ġ e;cases h2
  have D:execOp a.eval o=(do let u <-Instr.fieldAt t (a.eval x) f; pure (.value u)):=by unfold execOp; rw[A]
  rw[D];exact(OM E I hf U B (ċ H x)).step
 |field t x f =>
  rw[A] at e;simp only[opR,opK] at e;have C:=ċ H x
  split at e<;>try (cases e; done)
  rename_i fs cs I O
  split at e<;>try (cases e; done)
  rename_i fd hf
  split at e<;>try (cases e; done)
  rename_i agg n hl
  split at e<;>try (cases e; done)
  rename_i ds hg
  split at e<;>try (cases e; done)
  rename_i M V;cases e;rw[O] at C
  have D:execOp a.eval o=(do let u <-Instr.field t (a.eval x) f; pure (.value u)):=by unfold execOp; rw[A]
  rw[D];exact(aaP E I hf hl hg V C).step
 |indexAddr t x i =>
  rw[A] at e;simp only[opR,opK] at e
  have D:execOp a.eval o=(do let u <-Instr.indexAt t (a.eval x) (a.eval i); pure (.value u)):=by unfold execOp; rw[A]
  rw[D]
  split at e<;>try (cases e; done)
  ·rename_i W I
   split at e<;>try (cases e; done)
   rename_i sz U;rw[m8] at e;obtain⟨M,B,h2⟩:=ġ e;cases h2;exact(aaJ E I U B (ċ H x) (ċ H i)).step
  ·rename_i n W I;have C:=ċ H x;have hi:=ċ H i
   split at e<;>try (cases e; done)
   rename_i id off k j Y hi'
   split at e<;>try (cases e; done)
   rename_i sz U;rw[ο] at e;obtain⟨q,B,h2⟩:=ġ e;obtain⟨rfl,_,hb⟩:=Bv B;cases h2;rw[Y] at C;rw[hi'] at hi;have hi:a.eval i=.int k (q:Int):=hi;rw[hi];have:=(Gm E I (j:=(q:Int)) (k:=k) ⟨by omega,by omega⟩ U C).step;simpa using this
 |index t x i =>
  rw[A] at e;simp only[opR,opK] at e
  have D:execOp a.eval o=(do let u <-Instr.index t (a.eval x) (a.eval i); pure (.value u)):=by unfold execOp; rw[A]
  rw[D];have C:=ċ H x;have hi:=ċ H i
  split at e<;>try (cases e; done)
  ·rename_i n W cs k j I Y hi';rw[ο] at e;obtain⟨q,B,h2⟩:=ġ e;obtain⟨rfl,_,hb⟩:=Bv B
   split at h2<;>try (cases h2; done)
   rename_i agg m hl
   split at h2<;>try (cases h2; done)
   rename_i ds hg
   split at h2<;>try (cases h2; done)
   rename_i M V;cases h2;rw[Y] at C;rw[hi'] at hi;have hi:a.eval i=.int k (q:Int):=hi;rw[hi];exact(QE E I (j:=(q:Int)) (k:=k) ⟨by omega,by omega⟩ hl (by simpa using hg) V C).step
  ·rename_i s k j I Y hi';rw[hZ] at e;obtain⟨M,B,h2⟩:=ġ e;cases h2;rw[Y] at C;rw[hi'] at hi;have hi:a.eval i=.int k j:=hi;have C:a.eval x=.string s:=C;rw[hi,C];exact(PN E I B).step
 |lookup t m i ok =>
  rw[A] at e;simp only[opR,opK] at e
  have D:execOp a.eval o=(do let u <-Instr.lookup t (a.eval m) (a.eval i) ok; pure (.value u)):=by unfold execOp; rw[A]
  rw[D];have V:=ċ H m
  split at e
  ·rename_i id hid;rw[hid] at V;rw[kI] at e;obtain⟨M,B,h2⟩:=ġ e;cases h2;exact(Uz E B V (ċ H i)).step
  ·rw[kG] at e;obtain⟨M,B,h2⟩:=ġ e;cases h2;exact(Xl E B V (ċ H i)).step
 |mapUpdate t m i x =>
  rw[A] at e;simp only[opR,opK] at e
  have D:execOp a.eval o=(do Instr.mapUpdate t (a.eval m) (a.eval i) (a.eval x); pure .skip):=by unfold execOp; rw[A]
  rw[D];have V:=ċ H m
  split at e
  ·rename_i id hid;rw[hid] at V;rw[iK] at e;obtain⟨h',B,h2⟩:=ġ e;cases h2;exact td (yR E B V (ċ H i) (ċ H x))
  ·rw[iJ] at e;obtain⟨h',B,h2⟩:=ġ e;cases h2;exact td (CF E B V (ċ H i) (ċ H x))
 |insert t m i x =>
  rw[A] at e;simp only[opR,opK] at e
  have D:execOp a.eval o=(do Instr.mapUpdate t (a.eval m) (a.eval i) (a.eval x); pure .skip):=by unfold execOp; rw[A]
  rw[D];have V:=ċ H m
  split at e
  ·rename_i id hid;rw[hid] at V;rw[iK] at e;obtain⟨h',B,h2⟩:=ġ e;cases h2;exact td (yR E B V (ċ H i) (ċ H x))
  ·rw[iJ] at e;obtain⟨h',B,h2⟩:=ġ e;cases h2;exact td (CF E B V (ċ H i) (ċ H x))
 |range t x =>
  rw[A] at e;simp only[opR,opK] at e
  split at e<;>try (cases e; done)
  rename_i s I C;cases e;obtain⟨B,h2⟩:=hn (by rw[A]; rfl)
  have D:execOp a.eval o=(do let u <-Instr.range t (a.eval x); pure (.value u)):=by unfold execOp; rw[A]
  have K:=ċ H x;rw[C] at K;have K:a.eval x=.string s:=K;rw[D,K];exact(Wj E B h2 I).step
 |next x b =>
  rw[A] at e;simp only[opR,opK] at e
  cases b with
  |false=>cases e
  |true =>
  have D:execOp a.eval o=(do let u <-Instr.next (a.eval x) true o.type; pure (.value u)):=by unfold execOp; rw[A]
  rw[D];rw[yO] at e;obtain⟨⟨M,h'⟩,B,h2⟩:=ġ e;cases h2;exact(ac1 E B (ċ H x)).step
 |extract x i =>
  rw[A] at e;simp only[opR,opK] at e;have C:=ċ H x
  split at e<;>try (cases e; done)
  rename_i vs hvs
  split at e<;>try (cases e; done)
  rename_i M K;cases e;rw[hvs] at C;obtain⟨us,hu,h2⟩:=C;obtain⟨u,L,T⟩:=h2.get K;refine Vk.still E (u:=u) (by unfold execOp; rw[A]; simp only[hu]; simp at L; simp[Instr.extract,L]) ?_
  cases I:v.isTup with
  |true =>
   cases v<;>try cases I
   exact T.elim
  |false=>rw[qK I]; exact T
 |call c =>
  obtain⟨f,args,tys⟩:=c;rw[A] at e
  cases f with
  |value f=>cases e
  |invoke r n=>cases e
  |builtin b =>
   simp only[opR,opK] at e
   split at e
   ·-- len
    rename_i x t rest G N;rw[vn] at e;obtain⟨M,B,h2⟩:=ġ e;cases h2;rw[i6 (S:=S) (f:=Builtin.len_) A (fun _ _=>rfl),arr1 G,show Array.map a.eval #[x]=#[a.eval x] by simp]
    have Z:tys[0]?=some t:=by rw[<-fc,N]; rfl
    exact(len_ok E B (ċ H x) Z).step
   ·rename_i s x t t' G N;obtain⟨B,h2⟩:=hn (by rw[A]; rfl);rw[i6 (S:=S) (f:=Builtin.append_) A (fun _ _=>rfl),arr2 G,arr2 N,show Array.map a.eval #[s,x]=#[a.eval s,a.eval x] by simp]
    split at e
    ·rename_i htt;have htt:=eq_of_beq htt;subst htt;have hvx:=ċ H x
     split at e
     ·rename_i id g hdp;rw[hdp] at hvx;rw[AZ] at e;obtain⟨⟨M,h'⟩,L,T⟩:=ġ e;cases T;exact(adE E B h2 L (ċ H s) hvx).step
     ·rw[sf] at e;obtain⟨⟨M,h'⟩,L,T⟩:=ġ e;cases T;exact(Zg E B h2 L (ċ H s) hvx).step
    ·split at e<;>try (cases e; done)
     rename_i hu;rw[uS] at e;obtain⟨⟨M,h'⟩,L,T⟩:=ġ e;cases T;exact(ZE E B h2 hu L (ċ H s) (ċ H x)).step
   ·rename_i x t G N
    split at e<;>try (cases e; done)
    rename_i d hd;rw[vJ] at e;obtain⟨h',B,h2⟩:=ġ e;cases h2;rw[i6 (S:=S) (f:=Builtin.clear_) A (fun _ _=>rfl),arr1 G,show Array.map a.eval #[x]=#[a.eval x] by simp]
    have Z:tys[0]?=some t:=by rw[<-fc,N]; rfl
    exact(aa9 Z E B (by rw[hd]; rfl) (ċ H x)).step
   ·rename_i x t rest G N
    split at e<;>try (cases e; done)
    rename_i W I D;cases e;have C:=ċ H x;rw[D] at C;have C:a.eval x=.slice none 0 0:=C;rw[i6 (S:=S) (f:=Builtin.cap_) A (fun _ _=>rfl),arr1 G]
    have Z:tys[0]?=some t:=by rw[<-fc,N]; rfl
    exact(ļ.still (v:=.int .i64 0) (u:=.int .i64 0) E (by simp[Builtin.cap_,Z,C,run_underlying I,goInt]) rfl).step
   ·rename_i x xs G;rw[Υ] at e;obtain⟨M,B,h2⟩:=ġ e;cases h2;rw[i6 (S:=S) (f:=Builtin.min_) A (fun _ _=>rfl)];obtain⟨u,L,T⟩:=E4 (P:=P) (f:=Builtin.min2) (gt:=false) (fun k p q=>Z4 k p q) (xs.map (ev S.t)) (xs.map a.eval) _ v (a.eval x) B (ċ H x) (í.of_map fun y _=>ċ H y);refine(ļ.still E ?_ T).step;simp only[Builtin.min_,fj,G,dC];exact L
   ·rename_i x xs G;rw[Υ] at e;obtain⟨M,B,h2⟩:=ġ e;cases h2;rw[i6 (S:=S) (f:=Builtin.max_) A (fun _ _=>rfl)];obtain⟨u,L,T⟩:=E4 (P:=P) (f:=Builtin.max2) (gt:=true) (fun k p q=>Z5 k p q) (xs.map (ev S.t)) (xs.map a.eval) _ v (a.eval x) B (ċ H x) (í.of_map fun y _=>ċ H y);refine(ļ.still E ?_ T).step;simp only[Builtin.max_,fj,G,dC];exact L
   ·cases e
 |_=>rw[A] at e; cases e
end
end Go.Am
end

noncomputable section
namespace Go.Am
variable [Globs] [É]
def ĝ (nid:Nat) (h h':y5 Blk):Prop:=∀j,j≠nid->lkB h j=.dead->lkB h' j=.dead
def ĝ.refl (nid:Nat) (h:y5 Blk):ĝ nid h h:=fun _ _ hd=>hd
def ĝ.upd {nid id:Nat} {h:y5 Blk} (B:Blk) (b:id=nid\/lkB h id≠.dead):ĝ nid h (ã h id B):=fun j c hd=>by
 rw[Ì]
 ·exact hd
 ·rintro rfl;rcases b with rfl|b
  ·exact c rfl
  ·exact b hd
def ĝ.trans {nid:Nat} {h h' b:y5 Blk} (d:ĝ nid h h') (h2:ĝ nid h' b):ĝ nid h b:=fun j c hd=>h2 j c (d j c hd)
def ĝ.upd2 {nid i j:Nat} {h:y5 Blk} (A B:Blk) (hi:lkB h i≠.dead) (c:j=nid\/lkB h j≠.dead):ĝ nid h (ã (ã h i A) j B):=fun m b hd=>by
 have d:m≠i:=fun e=>hi (by rw[<-e]; exact hd);have h2:m≠j:=fun e=>c.elim (fun q=>b (e.trans q)) fun q=>q (by rw[<-e]; exact hd);rw[Ì _ h2,Ì _ d];exact hd
def ĝ.frz {nid:Nat} {h:y5 Blk} (v:AV):ĝ nid h (frz h v):=fun _ _ hd=>SX hd
def ĝ.frzA {nid:Nat} {h:y5 Blk} (ps:y5 (Nat×AV)):ĝ nid h (frzA h ps):=fun _ _ hd=>Gs ps hd
def ja {h:y5 Blk} {id:Nat} {B:Blk} (b:lkB h id=B) (c:B≠.dead):lkB h id≠.dead:=by rw[b]; exact c
def adn {v:AV} {id:Nat} {h:y5 Blk} {k u:Ty} {es:y5 (Val k×Val u)} (b:lkB h id=.map k u es):lkB (frz h v) id=.map k u es:=by
 unfold frz; split
 ·exact LA _ b
 ·exact S6 b
def IM {P:Program} {h h':y5 Blk} {t:TypeId} {a v:AV} {nid:Nat} (b:og P h t a v some=some h'):ĝ nid h h':=by
 unfold og at b
 (repeat' split at b)<;>first
  |(cases b; done)
  |(cases b; exact ĝ.upd _ (.inr (ja ‹lkB h _=.cells _› (by simp))))
  |(cases b; exact ĝ.upd _ (.inr (ja ‹lkB h _=.deep _ _ _› (by simp))))
  |(cases b; exact(ĝ.frz _).trans (ĝ.upd _ (.inr (ja ‹lkB (frz h _) _=.row _ _ _ _› (by simp)))))
def WD {P:Program} {S f:St} {o:Op} {nid:Nat} {eat:Bool} {v:AV} (e:opR P S nid eat o=some (v,f)):ĝ nid S.h f.h:=by
 unfold opR opK at e;dsimp only at e
 (repeat' split at e)<;>first
  |(cases e; done)
  |(cases e; exact ĝ.refl _ _)
  |(cases e; exact ĝ.upd _ (.inl rfl))
  |(cases e; exact(ĝ.frzA _).trans (ĝ.upd _ (.inl rfl)))
  |(rw[qw] at e; obtain⟨c,b,h2⟩:=ġ e; cases h2; exact ĝ.refl _ _)
  |(rw[vL] at e; obtain⟨c,b,h2⟩:=ġ e; cases h2; exact ĝ.refl _ _)
  |(rw[yb] at e; obtain⟨c,b,h2⟩:=ġ e; cases h2; exact ĝ.refl _ _)
  |(rw[mU] at e; obtain⟨c,b,h2⟩:=ġ e; cases h2; exact ĝ.refl _ _)
  |(rw[m8] at e; obtain⟨c,b,h2⟩:=ġ e; cases h2; exact ĝ.refl _ _)
  |(rw[vu] at e; obtain⟨c,b,h2⟩:=ġ e; cases h2; exact ĝ.refl _ _)
  |(rw[ng] at e; obtain⟨c,b,h2⟩:=ġ e; cases h2; exact ĝ.refl _ _)
  |(rw[hO] at e; obtain⟨c,b,h2⟩:=ġ e; cases h2; exact ĝ.refl _ _)
  |(rw[hZ] at e; obtain⟨c,b,h2⟩:=ġ e; cases h2; exact ĝ.refl _ _)
  |(rw[kI] at e; obtain⟨c,b,h2⟩:=ġ e; cases h2; exact ĝ.refl _ _)
  |(rw[kG] at e; obtain⟨c,b,h2⟩:=ġ e; cases h2; exact ĝ.refl _ _)
  |(rw[vn] at e; obtain⟨c,b,h2⟩:=ġ e; cases h2; exact ĝ.refl _ _)
  |(rw[Υ] at e; obtain⟨c,b,h2⟩:=ġ e; cases h2; exact ĝ.refl _ _)
  |(rw[mR] at e; obtain⟨h',b,h2⟩:=ġ e; cases h2; exact IM b)
  | (rw [mR] at e; obtain ⟨h', b, h2⟩ := ġ e; cases h2
     exact(ĝ.upd _ (.inr (ja ‹lkB S.h _=.row _ _ _ _› (by simp)))).trans (IM b))
  | (rw [uU] at e; obtain ⟨⟨c, h'⟩, b, h2⟩ := ġ e; cases h2
     unfold nr at b
     (repeat' split at b)<;>first
      |(cases b; done)
      |(cases b; exact ĝ.refl _ _)
      |(cases b; exact ĝ.upd _ (.inr (ja ‹lkB S.h _=.row _ _ _ _› (by simp)))))
  | (rw [sf] at e; obtain ⟨⟨c, h'⟩, b, h2⟩ := ġ e; cases h2
     unfold sg at b
     (repeat' split at b)<;>first
      |(cases b; done)
      |(cases b; exact ĝ.upd _ (.inl rfl))
      |(cases b; exact ĝ.upd _ (.inr (ja ‹lkB S.h _=.row _ _ _ _› (by simp)))))
  | (rw [AY] at e; obtain ⟨⟨c, h'⟩, b, h2⟩ := ġ e; cases h2
     unfold OT at b
     (repeat' split at b)<;>first
      |(cases b; done)
      |(cases b; exact ĝ.upd2 _ _ (ja ‹lkB S.h _=.row _ _ _ _› (by simp)) (.inl rfl))
      |(cases b; exact ĝ.upd2 _ _ (ja ‹lkB S.h _=.deep _ _ _› (by simp)) (.inl rfl)))
  | (rw [AZ] at e; obtain ⟨⟨c, h'⟩, b, h2⟩ := ġ e; cases h2
     unfold LN at b
     split at b<;>try (cases b; done)
     split at b<;>try (cases b; done)
     split at b<;>try (cases b; done)
     rename_i d
     split at b<;>try (cases b; done)
     (repeat' split at b)<;>first
      |(cases b; done)
      |(cases b; exact ĝ.upd2 _ _ (ja d (by simp)) (.inl rfl))
      |(cases b; exact ĝ.upd2 _ _ (ja d (by simp)) (.inr (ja (by assumption) (by simp)))))
  | (rw [uS] at e; obtain ⟨⟨c, h'⟩, b, h2⟩ := ġ e; cases h2
     unfold ye at b
     (repeat' split at b)<;>first
      |(cases b; done)
      |(cases b; exact ĝ.upd _ (.inl rfl)))
  | (rw [vJ] at e; obtain ⟨h', b, h2⟩ := ġ e; cases h2
     unfold A3 at b
     (repeat' split at b)<;>first
      |(cases b; done)
      |(cases b; exact ĝ.refl _ _)
      |(cases b; exact ĝ.upd _ (.inr (ja ‹lkB S.h _=.row _ _ _ _› (by simp)))))
  | (rw [ο] at e; obtain ⟨q, b, h2⟩ := ġ e
     (repeat' split at h2)<;>first
      |(cases h2; done)
      |(cases h2; exact ĝ.refl _ _))
  | (rw [iK] at e; obtain ⟨h', b, h2⟩ := ġ e; cases h2
     unfold Ş at b
     (repeat' split at b)<;>first
      |(cases b; done)
      |(cases b; exact ĝ.upd _ (.inr (ja ‹lkB S.h _=.fns _› (by simp)))))
  | (rw [yO] at e; obtain ⟨⟨c, h'⟩, b, h2⟩ := ġ e; cases h2
     unfold KM at b
     (repeat' split at b)<;>first
      |(cases b; done)
      |(cases b; exact ĝ.refl _ _)
      |(cases b; exact ĝ.upd _ (.inr (ja ‹lkB S.h _=.iter _ _› (by simp)))))
  | (rw [iJ] at e; obtain ⟨h', b, h2⟩ := ġ e; cases h2
     unfold ŝ at b
     (repeat' split at b)<;>first
      |(cases b; done)
      |(cases b; exact(ĝ.frz _).trans (ĝ.upd _ (.inr (ja (adn ‹lkB S.h _=.map _ _ _›) (by simp))))))
end Go.Am
end

noncomputable section
namespace Go.Am
variable [Globs] [É]
section
variable {ρ:Type} {ν ν':Nat->Value} {h h':y5 Blk} {w w':World} {P:Program}
def Ev.same (d:∀id,lkB h' id=lkB h id) (c:w'.heap=w.heap) (i:w'.os=w.os) (h2:w'.tape=w.tape) (g:w'.output=w.output) (m:Nat):Ev m ν h w ν h' w' :=
 ⟨i,h2,g,by rw[c]; exact bX _,fun b _ hb=>⟨by rw[c],fun⟨id,f,e⟩=>hb ⟨id,by rwa [d] at f,e⟩⟩,fun id _=>by rw[d]; exact Blk.next_refl _ _ _⟩
def HR.same (H:HR ν h w) (d:∀id,lkB h' id=lkB h id) (c:w'.heap=w.heap) (k:w'.os=w.os) (h2:w'.tape=w.tape) (g:w'.output=w.output):HR ν h' w':=by
 refine⟨fun id=>?_,fun i j b e f=>H.inj i j b (by rwa [d] at e) (by rwa [d] at f),fun b hb=>by rw[c]; exact H.ghlt b hb,fun id b e=>H.ghne id b (by rwa [d] at e),Globs.keep _ _ H.glob (fun b _=>by rw[c]),fun b hb ⟨id,e,f⟩=>H.globL b hb ⟨id,by rwa [d] at e,f⟩⟩;rw[d];exact BR.ev (Ev.same d c k h2 g _) (fun b o hb _=>by rw[c]; exact hb) (fun b hb=>by rw[c]) rfl (fun b _ _ _=>by rw[c]) (H.blk id)
def Sim.same {S:St} {a:Act} (H:Sim ν S a w) (d:∀id,lkB h' id=lkB S.h id) (c:w'.heap=w.heap) (f:w'.os=w.os) (h2:w'.tape=w.tape) (e:w'.output=w.output):Sim ν {t:=S.t,h:=h'} a w' :=
 ⟨H.defers.keep (by rw[c]; exact bX _) (fun b o hb _=>by rw[c]; exact hb),H.len,fun i=>(H.tmps i).ev (Ev.same d c f h2 e _),H.heap.same d c f h2 e⟩
def sL:∀(h:y5 Blk) (d:Nat),h.length<=d->lkB h d=.dead
 |[],_,_=>rfl
 |x::xs,0,h=>by simp at h
 |x::xs,d+1,h=>by simpa[Ll,Lm,Lj] using sL xs d (by simpa using h)
def Ga:∀(h:y5 Blk) (n id:Nat),lkB (h++List.replicate n .dead) id=lkB h id
 |[],0,_=>rfl
 |[],n+1,0=>rfl
 |[],n+1,id+1=>by simpa[List.replicate_succ,Ll,Lm,Lj] using Ga [] n id
 |x::xs,n,0=>rfl
 |x::xs,n,id+1=>by simpa[Ll,Lm,Lj] using Ga xs n id
abbrev fen:Fence:={Fence.wide with round:=É.Q}
def TM (P:Program) (L:Nat) (call:y5 Nat->Bool->Nat->y5 AV->y5 Blk->(AV->y5 Blk->x9 ρ)->x9 ρ):Prop :=
 ∀path b g args h (K:AV->y5 Blk->x9 ρ) r,path.length=L->call path b g args h K=some r->∀ν w vals,HR ν h w->É.B<=w.heap.size->í (VR ν h w) args vals ->
  (∃fn c,P.funcs[g]?=some fn/\fn.body=some c) /\
  CallsIn Fence.wide 0 P g vals.toArray w fun e w'=>∃ν' h' v u,e=.returned u/\VR ν' h' w' v u/\HR ν' h' w'/\Ev h.length ν h w ν' h' w'/\h.length<=h'.length/\(∀j,j<h.length->lkB h j=.dead->lkB h' j=.dead)/\K v h'=some r
def Cq (P:Program) (clone:Nat->Bool):Prop :=
 ∀g,clone g=true->∀fz S nid x v b,sP P g fz S nid x (fun v S=>some (v,S))=some (v,b)->∀ν w u,HR ν S.h w->VR ν S.h w x u->nid<S.h.length->lkB S.h nid=.dead ->
  (∃fn c,P.funcs[g]?=some fn/\fn.body=some c) /\
  CallsIn Fence.wide 0 P g #[u] w fun e w'=>∃ν' u',e=.returned u'/\VR ν' b.h w' v u'/\HR ν' b.h w'/\Ev S.h.length ν S.h w ν' b.h w'/\S.h.length<=b.h.length/\ĝ nid S.h b.h/\b.t=S.t
def Cg (P:Program) (g:Nat) (fz:Bool) (S:St) (nid:Nat) (x:AV) (K:AV->St->x9 ρ):sP P g fz S nid x K=(sP P g fz S nid x fun v S=>some (v,S)).bind fun r=>K r.1 r.2:=by
 unfold sP; (repeat' split)<;>rfl
def Aft (m:Nat) (ν:Nat->Value) (h:y5 Blk) (w:World) (K:St->x9 ρ) (r:ρ) (c:Act) (w':World):Prop :=
 ∃ν' b,Sim ν' b c w'/\Ev m ν h w ν' b.h w'/\h.length<=b.h.length/\K b=some r
def Aft.trans {m f:Nat} {K:St->x9 ρ} {r:ρ} {g:Act} {ν b:Nat->Value} {h c:y5 Blk} {w d w':World} (e:Ev m ν h w b c d) (j:h.length<=c.length) (i:m<=f) (ha:Aft f b c d K r g w'):Aft m ν h w K r g w':=by
 obtain⟨ν',p,o,h2,l,k⟩:=ha;exact⟨ν',p,o,e.trans h2 i,cg j l,k⟩
def op_nid {S:St} {o:Op} {nid nid':Nat} {eat:Bool} {clone:Nat->Bool} (d:ā clone o=false):opR P S nid eat o=opR P S nid' eat o:=by
 cases o<;>try first|rfl|(cases d; done)
 rename_i c;obtain⟨f,args,tys⟩:=c
 cases f<;>try rfl
 rename_i b
 cases b<;>first|(cases d; done)|rfl|(unfold opR opK; dsimp only; (repeat' split)<;>first|rfl|simp_all)
def YldP (P:Program) (y:YFun):Prop:=∃f:y.ty=É.T,∀(O X:Nat->Prop) (c:y5 (Val É.T)) (v:Val É.T) (u:Value) (W:World),É.J O X c W->(∀b,O b->X b)->(∀b,X b->b<W.heap.size)->(c++[v] <+: pz (F:=fun t=>y5 (Val t)) f y.all)->CR W X É.T v [u]->É.B<=W.heap.size ->
 YieldAt Fence.wide 0 P É.L #[u] W fun e d=>e=.returned (.bool (ygo y.stop (pz (F:=fun t=>y5 (Val t)) f y.all) (c++[v])))/\d.os=W.os/\d.tape=W.tape/\d.output=W.output/\W.heap.size<=d.heap.size /\
  ∃us,(∀b,b<W.heap.size->¬O b->d.heap[b]?=W.heap[b]?/\¬Ĝ (.agg us) b)/\(∀b,Ĝ (.agg us) b->∃o,d.heap[b]?=some o/\CD o=true)/\É.J (Ĝ (.agg us)) (fun b=>(X b/\¬O b)\/Ĝ (.agg us) b) (c++[v]) d
def Ι (E:Env ρ):Prop:=∀y,E.yld=some y->YldP E.P y
def ľ {E:Env ρ} (h:E.yld=none):Ι E:=fun y e=>by rw[h] at e; cases e
def acn {α:Type} {all l:y5 α} {k:x9 ρ} {r:ρ} (h:yg all l k=some r):l <+: all/\k=some r:=by
 unfold yg at h
 split at h
 ·exact⟨‹_›,h⟩
 ·cases h
def TQ {t:Ty} (b:t.isAgg=false) {a:AV} {v:Val t} (e:Ô t [a]=some v):a.isAgg=false/\a.isTup=false:=by
 cases t<;>first|(cases b; done)|(cases a<;>first|exact⟨rfl,rfl⟩|cases e)
def PP (h:y5 Blk) {a:AV} (e:(ñ h a).isAgg=false/\(ñ h a).isTup=false):a.isAgg=false/\a.isTup=false:=by
 cases a<;>first|exact⟨rfl,rfl⟩|exact e
def Vy {E:Env ρ} (hy:Ι E) {x:AV} {u:Value} {K:AV->y5 Blk->x9 ρ} {r:ρ} (H:HR ν h w) (hv:VR ν h w x u) (hB:É.B<=w.heap.size) (e:yldK E h x K=some r) :
 YieldAt Fence.wide 0 E.P É.L #[u] w fun e w'=>∃b,e=.returned (.bool b)/\∃ν' h',HR ν' h' w'/\Ev h.length ν h w ν' h' w'/\h'.length=h.length/\(∀j,lkB h j=.dead->lkB h' j=.dead)/\K (.bool b) h'=some r:=by
 unfold yldK at e
 split at e<;>try (cases e; done)
 rename_i y hE
 split at e<;>try (cases e; done)
 rename_i O
 split at e<;>try (cases e; done)
 rename_i G
 split at e<;>try (cases e; done)
 rename_i v k
 split at e<;>try (cases e; done)
 rename_i t xs f
 split at e<;>try (cases e; done)
 rename_i he hq;clear hq;obtain⟨ty,all,stp⟩:=y;obtain⟨hT,hY⟩:=hy _ hE;have M:t=ty:=he;subst M;have R:t=É.T:=hT;subst R;obtain⟨m,hk⟩:=acn e;obtain⟨C,A⟩:=PP h (TQ O k);have D:=hv.one C A;obtain⟨S,g,_⟩:=Gu H x;have N:CR w (Av ν (oc h x)) É.T v [u]:=ď k ⟨Gt H D G,trivial⟩;have hb:=g.blk 0;rw[f] at hb;obtain⟨Z,h1,h2,h3,h4⟩:=hb;obtain⟨fn,tmps,assign,body,l,hR⟩:=hY _ _ xs v u w h4 (fun b hb=>.inl ⟨0,by rw[f]; rfl,hb⟩) (fun b hb=>g.ltA hb) m N hB;refine⟨fn,tmps,assign,body,l,hR.mono fun e' w' hw=>?_⟩;obtain⟨rfl,o1,o2,o3,o4,us,U,o6,o7⟩:=hw;refine⟨_,rfl,?_⟩
 have c:(lkB (oc h x) 0).live=true:=by rw[f]; rfl
 have s:0<(oc h x).length:=ĭ f (by simp);have d:∀b,b<w.heap.size->((lkB (oc h x) 0).live=true->¬Ĝ (ν 0) b)->w'.heap[b]?=w.heap[b]?:=fun b hb p=>(U b hb (p c)).1
 have Y:(Blk.acc É.T (xs++[v])).live=true->∀b,Ĝ (.agg us) b->((lkB (oc h x) 0).live=true/\Ĝ (ν 0) b)\/w.heap.size<=b:=fun _ b hb=>by
  rcases cW b w.heap.size with I|J
  ·by_cases W:Ĝ (ν 0) b
   ·exact .inl ⟨c,W⟩
   ·exact absurd hb (U b I W).2
  ·exact .inr J
 have z:=Ev.upd g (B:=.acc É.T (xs++[v])) (V:=.agg us) s o1 o2 o3 o4 d Y (by rw[f]; exact⟨_,rfl⟩)
 have H2:HR (ì ν 0 (.agg us)) (ã (oc h x) 0 (.acc É.T (xs++[v]))) w':=by
  refine HR.upd g s z d Y ⟨us,È _ _ _,?_,rfl,?_⟩
  ·rw[È]; exact o6
  ·rw[È];refine É.st _ _ _ _ _ _ o7 ⟨rfl,rfl,rfl,bX _,fun b _ p=>?_,fun b o hb _ _=>hb,fun b o hb _ _=>hb,fun _ _ _=>rfl⟩;rintro(⟨i,hi,hb⟩|X)
   ·by_cases h0:i=0
    ·subst h0; rw[È] at hb; exact p (.inr hb)
    ·rw[Ì _ h0] at hi;rw[ø _ _ h0] at hb;exact p (.inl ⟨.inl ⟨i,hi,hb⟩,fun q=>h0 (g.inj i 0 b hi c hb q)⟩)
   ·exact p (.inl ⟨.inr X,fun q=>g.ghne 0 b c q X⟩)
 refine⟨_,_,H2,S.trans z (by rw[kM]; exact bX _),by rw[Ë,kM],fun j hj=>?_,hk⟩;have hd:lkB (oc h x) j=.dead:=Gv hj;rw[Ì _ (fun q=>by rw[q,f] at hd; cases hd)];exact hd
def PW {E : Env ρ} {call : y5 Nat -> Bool -> Nat -> y5 AV -> y5 Blk -> (AV -> y5 Blk -> x9 ρ) -> x9 ρ} {L : Nat} (I : TM E.P L call) (hP : ∀ (f : Nat) (fn : Func), E.P.funcs[f]? = some fn -> (fn.name == "runtime.NumGoroutine") = false)
 (B:Cq E.P E.clone) (N:Ι E)
 {fid:Nat} {path:y5 Nat} {y:Bool} {S:St} {a:Act} {nid:Nat} {o:Oper} {K:AV->St->x9 ρ} {r:ρ} (hp:path.length=L) (H:Sim ν S a w) (hn:ā E.clone o.op=true->nid<S.h.length/\lkB S.h nid=.dead)
 (e:iG E call fid path y S nid o K=some r) {next:Act->World->Prop} {Q:Exit->Act->World->Prop}
 (X:∀(ν':Nat->Value) (w':World) (u:Value) (v:AV) (k:St),VR ν' k.h w' v u->HR ν' k.h w'->Ev S.h.length ν S.h w ν' k.h w'->S.h.length<=k.h.length->(∀j,j<S.h.length->j≠nid\/ā E.clone o.op=false->lkB S.h j=.dead->lkB k.h j=.dead)->k.t=S.t->K v k=some r->next (a.put o.dst u) w') :
 o.wpIn fen 0 E.P a w next Q:=by
 refine⟨fun _ _=>trivial,?_⟩
 have Z:∀c,o.op≠.defer c:=by
  intro c M;rw[gP] at e
  try simp only[CC] at e
  split at e<;>try (cases e; done)
  split at e
  ·rename_i i;rw[M] at i; cases i
  ·rw[M] at e;cases e
 rw[Oper.semAt_eq _ _ _ Z]
 have plain:∀v k,opR E.P S nid (GR E y fid o) o.op=some (v,k)->K v k=some r->o.uponIn fen 0 E.P a next Q ((execOp a.eval o).run E.P w):=by
  intro v k z h2;obtain⟨ν',w',u,J,h4,h5,h6,h7,h8⟩:=aac (clone:=E.clone) H hn z
  have:=X ν' w' u v k h4 h5 h6 (ez h7.symm) (fun j _ C hd=>by
   rcases C with C|hal
   ·exact WD z j C hd
   ·rw[op_nid (nid':=j+1) hal] at z
    exact WD z j (by omega) hd) h8 h2
  rcases J with J|⟨J,rfl⟩
  ·rw[J]; exact this
  ·rw[J]; exact this
 rw[gP] at e
 try simp only[CC] at e
 split at e<;>try (cases e; done)
 split at e
 ·rename_i f args tys i
  split at e<;>try (cases e; done)
  rotate_left
  ·rename_i p
   split at e<;>try (cases e; done)
   rename_i x d
   have D:a.eval f=.func (.yield É.L) #[] #[]:=by
    have:=ċ H f;rw[p] at this;exact this
   obtain⟨fn,tmps,assign,body,T,hR⟩:=Vy N H.heap (ċ H x) H.defers.bnd e
   have O:(execOp a.eval o).run E.P w=.ok (.round É.L fn tmps assign body) w:=by
    rw[<-T];unfold execOp;rw[i,arr1 d];simp[resolve,D,Deferred.ofValue,invoke,Sem.run_bind,Result.andThen_ok,callFunc,run_program]
   rw[O,Oper.uponIn_round];refine⟨fun p=>(by cases p),RoundIn.mono (show RoundIn fen 0 E.P _ _ _ _ _ _ _ from hR) fun e' w' R=>?_⟩;obtain⟨b,rfl,ν',h',g1,g2,g3,g4,g5⟩:=R;exact X ν' w' (.bool b) (.bool b) {t:=S.t,h:=h'} rfl g1 g2 (ez g3.symm) (fun j _ _ hd=>g4 j hd) rfl g5
  rename_i g first W p;have V:=ċ H f;rw[p] at V;obtain⟨fs,cs,D,A,G⟩:=V
  split at e
  ·rename_i l
   split at e<;>try (cases e; done)
   rename_i x d;rw[Cg] at e;obtain⟨⟨v,k⟩,z,h2⟩:=ġ e;simp only[bZ] at l;obtain⟨l,U⟩:=l
   have hfg:f=.func g:=by
    cases f<;>try (cases U; done)
    simp only[ev] at p
    injection p with Y
    injection Y with Y
    rw[Y]
   subst hfg;obtain⟨hn1,hn2⟩:=hn (by rw[i]; exact l);obtain⟨⟨fn,c,s,m⟩,M⟩:=B g l _ S nid _ v k z ν w _ H.heap (ċ H x) hn1 hn2
   have O:(execOp a.eval o).run E.P w=.ok (.enter g #[a.eval x]) w:=by
    unfold execOp;rw[i,arr1 d];simp only[resolve,Act.eval,Deferred.ofValue,pure_bind,invoke,callFunc,Sem.run_bind,run_program,Result.andThen_ok,s,hP g fn s,m];simp only[Bool.false_eq_true,if_false,Option.isNone_some];show Result.ok (Next.enter g _) w=_;congr 2;apply Array.ext'
    cases x<;>simp[Act.eval]
   rw[O,Oper.uponIn_enter];refine⟨fun p=>(by cases p),M.mono fun e' w' R=>?_⟩;obtain⟨ν',u',rfl,g1,g2,g3,g4,g6,g5⟩:=R;exact X ν' w' u' v k g1 g2 g3 g4 (fun j _ C hd=>g6 j (C.resolve_right (by rw[i]; exact fun p=>by rw[show ā E.clone (.call ⟨.value (.func g),args,tys⟩)=E.clone g from rfl,l] at p; cases p)) hd) g5 h2
  ·rename_i l
   have d:í (VR ν S.h w) (first++(args.toList.map (ev S.t)++W)) (fs.toList++(args.toList.map a.eval++cs.toList)) :=
    (A.mono fun _ _ q=>q.up.up).append ((í.of_map fun x _=>ċ H x).append (G.mono fun _ _ q=>q.up.up))
   obtain⟨⟨fn,c,s,m⟩,M⟩:=I path y g _ _ _ r hp e ν w _ H.heap H.defers.bnd d
   have O:(execOp a.eval o).run E.P w=.ok (.enter g (fs.toList++(args.toList.map a.eval++cs.toList)).toArray) w:=by
    unfold execOp;rw[i];simp only[resolve,D,Deferred.ofValue,pure_bind,invoke,callFunc,Sem.run_bind,run_program,Result.andThen_ok,s,hP g fn s,m];simp only[Bool.false_eq_true,if_false,Option.isNone_some];show Result.ok (Next.enter g _) w=_;congr 2;apply Array.ext';simp
   rw[O,Oper.uponIn_enter];refine⟨fun p=>(by cases p),M.mono fun e' w' R=>?_⟩;obtain⟨ν',h',v,u,rfl,z,h2,J,h4,h6,h5⟩:=R;exact X ν' w' u v {t:=S.t,h:=h'} z h2 J h4 (fun j C _ hd=>h6 j C hd) rfl h5
 ·rename_i op hne;rw[KI] at e;obtain⟨⟨v,k⟩,z,h2⟩:=ġ e;exact plain v k z h2
def yf:∀(t:y5 AV) (d:Nat),upd t d (lk t d)=t
 |[],_=>rfl
 |_::_,0=>rfl
 |x::t,d+1=>by simp[Ms,Mu,Mr,ZA,ZB,Zz,yf t d]
def abF (n nid:Nat) (h:y5 Blk):Prop:=∀j,nid<=j->j<nid+n->j<h.length/\lkB h j=.dead
def lq {clone:Nat->Bool} {o:Oper} {os:y5 Oper}:Τ clone (o::os)=bif ā clone o.op then Τ clone os+1 else Τ clone os:=rfl
def JR {all:y5 Oper} {o:Oper} {j:Nat} {b:Bool}:∀{l:y5 Oper},oV all l=true->o∈l->o.guard=some (j,b)->∃p d,all[j]?=some p/\p.dst=some d
 |[],_,c,_=>by cases c
 |x::l,f,c,g=>by
  simp only[oV,bZ] at f;rcases b9.1 c with rfl|c
  ·have e:=f.1;rw[g] at e;simp only at e
   split at e
   ·rename_i p i;obtain⟨d,hd⟩:=fi.1 e;exact⟨p,d,i,hd⟩
   ·cases e
  ·exact JR f.2 c g
def TO {c:Array Oper} {tmps:Array Value} {j d:Nat} {p:Oper} (g:c.toList[j]?=some p) (hd:p.dst=some d) :
 (∀b,tmps.getD d undef=.bool b->yielded c tmps j=some b)/\(tmps.getD d undef=undef->yielded c tmps j=none):=by
 have e:c[j]?=some p:=by simpa using g
 constructor
 ·intro b hb;unfold yielded;rw[e];simp only[Option.bind_some,hd]
  cases f:tmps[d]? with
  |none=>simp[cE,f,undef] at hb
  |some v=>simp[cE,f] at hb; subst hb; rfl
 ·intro hb;unfold yielded;rw[e];simp only[Option.bind_some,hd]
  cases f:tmps[d]? with
  |none=>rfl
  |some v=>simp[cE,f] at hb; subst hb; rfl
def np (E:Env ρ) (call:y5 Nat->Bool->Nat->y5 AV->y5 Blk->(AV->y5 Blk->x9 ρ)->x9 ρ) (fid:Nat) (path:y5 Nat) (c:Bool) (all:y5 Oper) (i nid:Nat) (o:Oper) (S:St) (K:St->x9 ρ):x9 ρ :=
 match o.guard with
 |none=>iG E call fid (path++[i]) c S nid o fun v S=>K {t:=ò S.t o.dst v,h:=S.h}
 |some (j,want)=>match lk S.t (mH all j) with
  |.bool b=>match b==want with
   |true=>iG E call fid (path++[i]) c S nid o fun v S=>K {t:=ò S.t o.dst v,h:=S.h}
   |false=>K {t:=ò S.t o.dst .und,h:=S.h}
  |.und=>K {t:=ò S.t o.dst .und,h:=S.h}
  |_=>none
def Wy {E:Env ρ} {call:y5 Nat->Bool->Nat->y5 AV->y5 Blk->(AV->y5 Blk->x9 ρ)->x9 ρ} {fid:Nat} {path:y5 Nat} {c:Bool} {all:y5 Oper} {o:Oper} {os:y5 Oper} {i nid:Nat} {S:St} {K:St->x9 ρ} :
 Ud E call fid path c all (o::os) i nid S K=np E call fid path c all i nid o S fun m=>Ud E call fid path c all os (i+1) (bif ā E.clone o.op then nid+1 else nid) m K:=by
 simp only[Ud,np]
 have f:∀d b,lk S.t d=.bool b->({t:=upd S.t d (.bool b),h:=S.h}:St)=S:=fun d b hb=>by rw[<-hb,yf]
 have e:∀d b,lk S.t d=.bool b->upd S.t d (.bool b)=S.t:=fun d b hb=>by rw[<-hb,yf]
 cases o.guard with
 |none=>rfl
 |some g =>
  obtain⟨j,k⟩:=g;simp only
  cases hb:lk S.t (mH all j)<;>try rfl
  rename_i b;have l:=f _ b hb;have h2:=e _ b hb
  cases b<;>cases k<;>simp only[l,h2]<;>rfl
def Ep {E : Env ρ} {call : y5 Nat -> Bool -> Nat -> y5 AV -> y5 Blk -> (AV -> y5 Blk -> x9 ρ) -> x9 ρ} {L : Nat} (y : TM E.P L call) (U : ∀ (f : Nat) (fn : Func), E.P.funcs[f]? = some fn -> (fn.name == "runtime.NumGoroutine") = false)
 (l:Cq E.P E.clone) (z:Ι E) {fid:Nat} {path:y5 Nat} {m:Bool} {c:Array Oper} (T:oV c.toList c.toList=true)
 {S:St} {a:Act} {nid i:Nat} {o:Oper} {K:St->x9 ρ} {r:ρ} (D:path.length+1=L) (N:c[i]?=some o) (H:Sim ν S a w) (R:ā E.clone o.op=true->nid<S.h.length/\lkB S.h nid=.dead)
 (e:np E call fid path m c.toList i nid o S K=some r) {next:Act->World->Prop} {Q:Exit->Act->World->Prop}
 (O:∀(ν':Nat->Value) (w':World) (u:Value) (v:AV) (q:St),VR ν' q.h w' v u->HR ν' q.h w'->Ev S.h.length ν S.h w ν' q.h w'->S.h.length<=q.h.length->(∀j,j<S.h.length->j≠nid\/ā E.clone o.op=false->lkB S.h j=.dead->lkB q.h j=.dead)->q.t=S.t ->
  K {t:=ò q.t o.dst v,h:=q.h}=some r->next (a.put o.dst u) w') :
 wpOpIn fen 0 E.P c Q i next a w:=by
 have run:iG E call fid (path++[i]) m S nid o (fun v S=>K {t:=ò S.t o.dst v,h:=S.h})=some r ->
  o.wpIn fen 0 E.P a w next Q:=fun J=>PW y U l z (by simpa using D) H R J O
 -- it is left out
 have skip:K {t:=ò S.t o.dst .und,h:=S.h}=some r->next (a.put o.dst undef) w :=
  fun J=>O ν w undef .und S rfl H.heap (Ev.refl _ _ _ _) (bX _) (fun _ _ _ hd=>hd) rfl J
 have B:o∈c.toList:=by
  have:c.toList[i]?=some o:=by simpa using N
  exact ci this
 unfold wpOpIn;rw[N];simp only[np] at e
 split at e
 ·rename_i g
  have s:Region.wanted o (yielded c a.tmps)=true:=by simp[Region.wanted,g]
  simp only[s,if_true];exact run e
 ·rename_i j M g;obtain⟨p,d,D,hd⟩:=JR T B g;obtain⟨I,G⟩:=TO (tmps:=a.tmps) D hd
  have x:mH c.toList j=d:=by simp[mH,D,hd]
  rw[x] at e;have C:=H.tmps d
  split at e
  ·rename_i b hb;rw[hb] at C;have A:=I b C
   split at e
   ·rename_i k
    have s:Region.wanted o (yielded c a.tmps)=true:=by
     simp only[beq_iff_eq] at k;simp[Region.wanted,g,A,k]
    simp only[s,if_true];exact run e
   ·rename_i k
    have s:Region.wanted o (yielded c a.tmps)=false:=by
     simp only[beq_eq_false_iff_ne] at k;simpa[Region.wanted,g,A] using k
    simp only[s,cA,if_false];exact⟨fun _ _=>trivial,skip e⟩
  ·rename_i hb;rw[hb] at C
   have s:Region.wanted o (yielded c a.tmps)=false:=by simp[Region.wanted,g,G C]
   simp only[s,cA,if_false];exact⟨fun _ _=>trivial,skip e⟩
  ·cases e
def Wx {E : Env ρ} {call : y5 Nat -> Bool -> Nat -> y5 AV -> y5 Blk -> (AV -> y5 Blk -> x9 ρ) -> x9 ρ} {L : Nat} (m : TM E.P L call) (I : ∀ (f : Nat) (fn : Func), E.P.funcs[f]? = some fn -> (fn.name == "runtime.NumGoroutine") = false)
 (g:Cq E.P E.clone) (p:Ι E) {fid:Nat} {path:y5 Nat} {k:Bool} {c:Array Oper} (G:oV c.toList c.toList=true)
 {S:St} {a:Act} {nid i:Nat} {o:Oper} {os:y5 Oper} {K:St->x9 ρ} {r:ρ} (z:path.length+1=L) (A:c[i]?=some o) (H:Sim ν S a w) (x:abF (Τ E.clone (o::os)) nid S.h)
 (e:Ud E call fid path k c.toList (o::os) i nid S K=some r) {next:Act->World->Prop} {Q:Exit->Act->World->Prop}
 (C:∀(ν':Nat->Value) (w':World) (u:Value) (v:AV) (d:St),VR ν' d.h w' v u->HR ν' d.h w'->Ev S.h.length ν S.h w ν' d.h w'->S.h.length<=d.h.length->abF (Τ E.clone os) (bif ā E.clone o.op then nid+1 else nid) d.h->(∀j,j<S.h.length->j<nid->lkB S.h j=.dead->lkB d.h j=.dead)->d.t=S.t ->
  Ud E call fid path k c.toList os (i+1) (bif ā E.clone o.op then nid+1 else nid) {t:=ò d.t o.dst v,h:=d.h} K=some r->next (a.put o.dst u) w') :
 wpOpIn fen 0 E.P c Q i next a w:=by
 have s:ā E.clone o.op=true->nid<S.h.length/\lkB S.h nid=.dead:=fun b=>x nid (bX _) (by rw[lq,b]; simp)
 have l:abF (Τ E.clone os) (bif ā E.clone o.op then nid+1 else nid) S.h:=fun j q h2=>by
  cases b:ā E.clone o.op with
  |true=>rw[b] at q h2; exact x j (by simp at q; omega) (by rw[lq,b]; simp at h2 ⊢; omega)
  |false=>rw[b] at q h2; exact x j (by simpa using q) (by rw[lq,b]; simpa using h2)
 rw[Wy] at e;refine Ep m I g p G z A H s e fun ν' w' u v d W V U T y R O=>C ν' w' u v d W V U T (fun j h2 N=>?_) (fun j D B hd=>y j D (.inl (by omega)) hd) R O;obtain⟨M,J⟩:=l j h2 N;refine⟨by omega,y j M ?_ J⟩
 cases b:ā E.clone o.op with
 |true=>left; rw[b] at h2; simp at h2; omega
 |false=>exact .inr rfl
end
end Go.Am
end

noncomputable section
namespace Go.Am
variable [Globs] [É]
section
variable {ρ:Type} {ν ν':Nat->Value} {h h':y5 Blk} {w w':World} {P:Program}
def Dd (m:Nat) (h h':y5 Blk):Prop:=∀j,j<m->lkB h j=.dead->lkB h' j=.dead
def Dd.refl (m:Nat) (h:y5 Blk):Dd m h h:=fun _ _ hd=>hd
def Dd.trans {m c:Nat} {h h' b:y5 Blk} (f:Dd m h h') (h2:Dd c h' b) (e:m<=c):Dd m h b:=fun j d hd=>h2 j (cf d e) (f j d hd)
def Pw (m:Nat) (ν:Nat->Value) (h:y5 Blk) (w:World) (K:Exit->St->x9 ρ) (r:ρ) (e:Exit) (c:Act) (w':World):Prop :=
 ∃ν' b,Sim ν' b c w'/\Ev m ν h w ν' b.h w'/\m<=b.h.length/\Dd m h b.h/\K e b=some r
def Pw.trans {m g:Nat} {K:Exit->St->x9 ρ} {r:ρ} {e:Exit} {i:Act} {b:Nat->Value} {c:y5 Blk} {d:World} (ev:Ev m ν h w b c d) (hd:Dd m h c) (f:m<=g) (ha:Pw g b c d K r e i w'):Pw m ν h w K r e i w':=by
 obtain⟨ν',p,o,h2,l,k,j⟩:=ha;exact⟨ν',p,o,ev.trans h2 f,cg f l,hd.trans k f,j⟩
def Zp (E:Env ρ) (call:y5 Nat->Bool->Nat->y5 AV->y5 Blk->(AV->y5 Blk->x9 ρ)->x9 ρ):Prop :=
 (∀path b g args h K,call path b g args h K=none) \/
 ((∀ f p, E.pure f = some p -> ∀ path b args h K, call path b f args h K = Kw (b && !E.fz f) p h args K) /\
  (∀f,E.pure f=none->E.sort f=true->∀path b args h K,call path b f args h K=match args with|[x]=>Ko h x K|_=>none) /\
  (∀f,E.pure f=none->E.sort f=false->E.compact f=true->∀path b args h K,call path b f args h K=match args with|[x]=>mN h x K|_=>none))
def NormOk (m:Nat) (N:St->x9 St):Prop:=∀(S b:St) (ν:Nat->Value) (a:Act) (w:World),N S=some b->Sim ν S a w->m<=S.h.length->∃ν',Sim ν' b a w/\Ev m ν S.h w ν' b.h w/\m<=b.h.length/\Dd m S.h b.h
def TI (E:Env ρ):Prop:=∀path fid rid m J,E.joins path fid rid m=some J->∃N,NormOk m N/\∀body rest,J body rest=body (fun S=>match N S with|some b=>rest b|none=>none)
def Ń {E:Env ρ} (h:E.joins=fun _ _ _ _=>none):TI E:=by
 intro path fid rid m J e;rw[h] at e;cases e
structure gN (E:Env ρ) (L:Nat) (call:y5 Nat->Bool->Nat->y5 AV->y5 Blk->(AV->y5 Blk->x9 ρ)->x9 ρ):Prop where
 pureEq:Zp E call
 call:TM E.P L call
 plain : ∀ (f : Nat) (fn : Func), E.P.funcs[f]? = some fn -> (fn.name == "runtime.NumGoroutine") = false
 clone:Cq E.P E.clone
 joins:TI E
 yld:Ι E
def Np {E:Env ρ} {call:y5 Nat->Bool->Nat->y5 AV->y5 Blk->(AV->y5 Blk->x9 ρ)->x9 ρ} {L:Nat} (g:gN E L call) {fid:Nat} {path:y5 Nat} {l:Bool} {b:Array Oper} (A:path.length+1=L) (C:oV b.toList b.toList=true)
 {K:St->x9 ρ} {r:ρ} {Q:Exit->Act->World->Prop} {m:Nat}:∀(os:y5 Oper) (i nid:Nat) (S:St) (a:Act) (ν:Nat->Value) (w:World),(∀k,os[k]?=b[i+k]?)->Sim ν S a w->abF (Τ E.clone os) nid S.h->m<=nid->m<=S.h.length ->
  Ud E call fid path l b.toList os i nid S K=some r ->
  (∀ν' c G w',Sim ν' c G w'->Ev m ν S.h w ν' c.h w'->m<=c.h.length->Dd m S.h c.h->K c=some r->Q .normal G w') ->
  wpOpsIn fen 0 E.P b Q (List.range' i os.length) a w
 |[],i,nid,S,a,ν,w,_,H,_,_,s,e,x=>x ν S a w H (Ev.refl _ _ _ _) s (Dd.refl _ _) e
 |o::os,i,nid,S,a,ν,w,B,H,I,J,s,e,x=>by
  rw[cj,List.range'_succ,wpOpsIn_cons]
  have q:b[i]?=some o:=by have:=B 0; simpa using this.symm
  refine Wx g.call g.plain g.clone g.yld C A q H I e fun ν' w' u v c U h2 D h4 T N R O=>?_;have f:=H.put D h2 o.dst U
  refine Np g A C os (i+1) _ {t:=ò c.t o.dst v,h:=c.h} _ ν' w' (fun k=>by have:=B (k+1); rw[show i+1+k=i+(k+1) by omega]; simpa using this) (by rw[R]; exact f) T (by cases ā E.clone o.op<;>simp<;>omega) (by simp; omega) O
   fun d z y p Z Y X W V=>x d z y p Z ((D.mono s).trans Y (bX _)) X (fun j M hd=>W j M (N j (by omega) (by omega) hd)) V
def P1 {E:Env ρ} {call:y5 Nat->Bool->Nat->y5 AV->y5 Blk->(AV->y5 Blk->x9 ρ)->x9 ρ} {L:Nat} (o:gN E L call) {fid rid:Nat} {path:y5 Nat} {c:Array Oper} {S:St} {a:Act} {K:Exit->St->x9 ρ} {r:ρ} {m:Nat} (g:path.length+1=L)
 (e:EE E call fid path false c.toList S (K .normal)=some r) (H:Sim ν S a w) (i:m<=S.h.length):(Code.region rid c false).wpIn fen 0 E.P (Pw m ν S.h w K r) a w:=by
 unfold EE at e
 split at e<;>try (cases e; done)
 rename_i f;simp only[fU,Bool.false_or,eA] at f;apply wpIn_region;have b:=fun id=>Ga S.h (Τ E.clone c.toList) id;have z:Sim ν {t:=S.t,h:=S.h++List.replicate (Τ E.clone c.toList) .dead} a w:=H.same b rfl rfl rfl rfl;have d:Ev m ν S.h w ν (S.h++List.replicate (Τ E.clone c.toList) .dead) w:=Ev.same b rfl rfl rfl rfl m
 have:=Np (m:=m) (Q:=Pw m ν S.h w K r) o g f c.toList 0 S.h.length _ a ν w (fun k=>by simp) z (fun j p h2=>⟨by simp; omega,by simp only[b]; exact sL _ _ p⟩) i (by simp; omega) e
  (fun ν' y A w' x v u s q=>⟨ν',y,x,d.trans v (bX _),u,fun j l hd=>s j l (by simp only[b]; exact hd),q⟩)
 rw[List.range_eq_range'];simpa using this
def kd (E:Env ρ) (L:Nat) (call:y5 Nat->Bool->Nat->y5 AV->y5 Blk->(AV->y5 Blk->x9 ρ)->x9 ρ):Prop :=
 ∀(fid rid:Nat) (path:y5 Nat) (b:Array Oper) (S:St) (a:Act) (K:Exit->St->x9 ρ) (r:ρ) (m:Nat) (ν:Nat->Value) (w:World),path.length+1=L ->
  EE E call fid path true b.toList S (K .normal)=some r->Sim ν S a w->m<=S.h.length->(Code.region rid b true).wpIn fen 0 E.P (Pw m ν S.h w K r) a w
def drawn:Code->Bool
 |.region _ _ d=>d
 |.seq a b=>drawn a||drawn b
 |.cond _ a b=>drawn a||drawn b
 |.block _ b=>drawn b
 |.scope b=>drawn b
 |_=>false
def noGoto (Q:Exit->Act->World->Prop):Exit->Act->World->Prop
 |.goto _,_,_=>False
 |e,a,w=>Q e a w
section
variable {F:Fence} {n:Nat} {P:Program} {Q:Exit->Act->World->Prop} {a:Act} {w:World}
def ks {b:Frame} {k:y5 Item} {cs:y5 Frame} {c:Code}:step P (lone (b.atR a (.code (.scope c)::k)) cs w)=.next (lone (b.atR a (.code c::.inScope c::k)) cs w) :=
 step_lone_go (by simp[stepG,stepG.exec,Frame.atR])
def Kl {b:Frame} {k:y5 Item} {cs:y5 Frame} {c:Code}:step P (lone (b.atR a (.inScope c::k)) cs w)=.next (lone (b.atR a k) cs w) :=
 step_lone_go (by simp[stepG,stepG.exec,Frame.atR])
def TP {c:Code} (h:c.wpIn F n P (noGoto Q) a w):(Code.scope c).wpIn F n P Q a w:=by
 intro b k cs j hb o;have h0:(lone (b.atR a (.code (.scope c)::k)) cs w).fenced P F:=fenced_calm hb o rfl;obtain⟨e,g,f,i,d⟩:=h b (.inScope c::k) cs j hb o
 cases e with
 |normal=>exact⟨.normal,g,f,i,.head h0 ks (StepsIn.trans d (.one (fenced_calm hb o rfl) Kl))⟩
 |exit id =>
  have q:exitTo id (.inScope c::k)=exitTo id k:=by simp[exitTo]
  exact⟨.exit id,g,f,i,fun r p=>.head h0 ks (d.1 r (by rw[q]; exact p)),
   fun m p=>let ⟨k₁,s,h2⟩:=d.2 m (by rw[q]; exact p); ⟨k₁,s,.head h0 ks h2⟩⟩
 |goto l=>exact i.elim
 |ret=>exact⟨_,g,f,i,.of_steps (.one h0 ks) d⟩
 |panic ch=>exact⟨_,g,f,i,.of_steps (.one h0 ks) d⟩
 |outgrown=>exact⟨_,g,f,i,.of_steps (.one h0 ks) d⟩
end
def iy (E:Env ρ) (path:y5 Nat) (fid bid:Nat):LI->Prop
 |.lp b=>∀(m:Nat) (S:St) (K:Exit->St->x9 ρ) (r:ρ) (ν:Nat->Value) (a:Act) (w:World),E.loops path fid bid m S K=some r->Sim ν S a w->m<=S.h.length->(Code.loop b).wpIn fen 0 E.P (Pw m ν S.h w K r) a w
 |.rf g ps x y=>∀(m:Nat) (S:St) (K:Exit->St->x9 ρ) (r:ρ) (ν:Nat->Value) (a:Act) (w:World),E.ranges path fid bid m (ev S.t g) S K=some r->Sim ν S a w->m<=S.h.length->(Code.rangeFunc g ps x y).wpIn fen 0 E.P (Pw m ν S.h w K r) a w
def kL {E:Env ρ} {call:y5 Nat->Bool->Nat->y5 AV->y5 Blk->(AV->y5 Blk->x9 ρ)->x9 ρ} {L:Nat} (R:gN E L call) {fid:Nat} {path:y5 Nat} (O:path.length+2=L) {m:Nat} {r:ρ}:∀(c:Code) (bid:Nat) (S:St) (K:Exit->St->x9 ρ) (ν:Nat->Value) (a:Act) (w:World),
 (drawn c=true->kd E L call)->(∀x∈Ñ bid c,iy E path fid x.1 x.2)->goC E call fid path m bid c S K=some r->Sim ν S a w->m<=S.h.length->c.wpIn fen 0 E.P (Pw m ν S.h w K r) a w:=by
 intro c
 induction c with
 |skip=>exact fun bid S K ν a w _ _ e H p=>wpIn_skip ⟨ν,S,H,Ev.refl _ _ _ _,p,Dd.refl _ _,e⟩
 |label l=>exact fun bid S K ν a w _ _ e H p=>wpIn_label ⟨ν,S,H,Ev.refl _ _ _ _,p,Dd.refl _ _,e⟩
 |exit id=>exact fun bid S K ν a w _ _ e H p=>wpIn_exit ⟨ν,S,H,Ev.refl _ _ _ _,p,Dd.refl _ _,e⟩
 |ret=>exact fun bid S K ν a w _ _ e H p=>wpIn_ret ⟨ν,S,H,Ev.refl _ _ _ _,p,Dd.refl _ _,e⟩
 |region rid ops draw =>
  intro bid S K ν a w s _ e H p;simp only[goC,XW] at e
  cases draw with
  |false=>exact P1 R (by simpa using O) e H p
  |true=>exact s rfl fid rid _ ops S a K r m ν w (by simpa using O) e H p
 |seq x y ihx ihy =>
  intro bid S K ν a w s q e H p;simp only[goC] at e
  cases u:E.joins path fid (Gn y) m with
  |none =>
   rw[u] at e;simp only at e;refine wpIn_seq (wpIn_mono (ihx bid S _ ν a w (fun h=>s (by simp[drawn,h])) (fun z t=>q z (dh _ t)) e H p) fun v A w' ha=>?_);obtain⟨ν',o,k,h2,i,f,d⟩:=ha
   cases v with
   |normal =>
    exact wpIn_mono (ihy bid o K ν' A w' (fun h=>s (by simp[drawn,h])) (fun z t=>q z (cJ _ t)) d k i) fun I M G ha=>ha.trans h2 f (bX _)
   |exit id=>exact⟨ν',o,k,h2,i,f,d⟩
   |goto l=>exact⟨ν',o,k,h2,i,f,d⟩
   |ret=>exact⟨ν',o,k,h2,i,f,d⟩
   |panic ch=>exact⟨ν',o,k,h2,i,f,d⟩
   |outgrown=>exact⟨ν',o,k,h2,i,f,d⟩
  |some J =>
   rw[u] at e;simp only at e;obtain⟨N,U,V⟩:=R.joins _ _ _ _ _ u;rw[V] at e;refine wpIn_seq (wpIn_mono (ihx bid S _ ν a w (fun h=>s (by simp[drawn,h])) (fun z t=>q z (dh _ t)) e H p) fun v A w' ha=>?_);obtain⟨ν',o,k,h2,i,f,d⟩:=ha
   cases v with
   |normal =>
    simp only at d
    split at d<;>try (cases d; done)
    rename_i D T;obtain⟨B,Z,Y,X,W⟩:=U o D ν' A w' T k i;exact wpIn_mono (ihy bid D K B A w' (fun h=>s (by simp[drawn,h])) (fun z t=>q z (cJ _ t)) d Z X) fun I M G ha=>ha.trans (h2.trans Y (bX _)) (f.trans W (bX _)) (bX _)
   |exit id=>exact⟨ν',o,k,h2,i,f,d⟩
   |goto l=>exact⟨ν',o,k,h2,i,f,d⟩
   |ret=>exact⟨ν',o,k,h2,i,f,d⟩
   |panic ch=>exact⟨ν',o,k,h2,i,f,d⟩
   |outgrown=>exact⟨ν',o,k,h2,i,f,d⟩
 |cond c x y ihx ihy =>
  intro bid S K ν a w s q e H p;simp only[goC] at e
  split at e<;>try (cases e; done)
  rename_i b hb;have C:=ċ H c;rw[hb] at C;have C:a.eval c=.bool b:=C
  split at e
  ·exact wpIn_cond_true C (ihx bid S K ν a w (fun h=>s (by simp[drawn,h])) (fun z t=>q z (dh _ t)) e H p)
  ·exact wpIn_cond_false C (ihy bid S K ν a w (fun h=>s (by simp[drawn,h])) (fun z t=>q z (cJ _ t)) e H p)
 |block id b ih =>
  intro bid S K ν a w s q e H p;simp only[goC] at e;refine wpIn_block (wpIn_mono (ih id S _ ν a w (fun h=>s (by simpa[drawn] using h)) q e H p) fun v A w' ha=>?_);obtain⟨ν',o,k,h2,i,f,d⟩:=ha
  cases v with
  |exit j =>
   simp only[Exit.inBlock];simp only at d
   split at d
   ·rename_i u;rw[if_pos (eq_of_beq u)];exact⟨ν',o,k,h2,i,f,d⟩
   ·rename_i u
    have:¬j=id:=by simpa using u
    rw[if_neg this];exact⟨ν',o,k,h2,i,f,d⟩
  |normal=>exact⟨ν',o,k,h2,i,f,d⟩
  |goto l=>exact⟨ν',o,k,h2,i,f,d⟩
  |ret=>exact⟨ν',o,k,h2,i,f,d⟩
  |panic ch=>exact⟨ν',o,k,h2,i,f,d⟩
  |outgrown=>exact⟨ν',o,k,h2,i,f,d⟩
 |loop b ih =>
  intro bid S K ν a w s q e H p;simp only[goC] at e;exact q (bid,.lp b) (by simp[Ñ]) m S K r ν a w e H p
 |rangeFunc g ps x y ihx ihy =>
  intro bid S K ν a w s q e H p;simp only[goC] at e;exact q (bid,.rf g ps x y) (by simp[Ñ]) m S K r ν a w e H p
 |scope b ih =>
  intro bid S K ν a w s q e H p;simp only[goC] at e;refine TP (wpIn_mono (ih bid S _ ν a w (fun h=>s (by simpa[drawn] using h)) q e H p) fun v A w' ha=>?_);obtain⟨ν',o,k,h2,i,f,d⟩:=ha
  cases v with
  |goto l=>cases d
  |normal=>exact⟨ν',o,k,h2,i,f,d⟩
  |exit id=>exact⟨ν',o,k,h2,i,f,d⟩
  |ret=>exact⟨ν',o,k,h2,i,f,d⟩
  |panic ch=>exact⟨ν',o,k,h2,i,f,d⟩
  |outgrown=>exact⟨ν',o,k,h2,i,f,d⟩
 |_=>intro bid S K ν a w s q e H p; cases e
def iP {E:Env ρ} {call:y5 Nat->Bool->Nat->y5 AV->y5 Blk->(AV->y5 Blk->x9 ρ)->x9 ρ} {L:Nat} (g:gN E L call) (i:kd E L call) {fid:Nat} {path:y5 Nat} (b:path.length+2=L) {m:Nat} {r:ρ} (c:Code) (bid:Nat) (S:St) (K:Exit->St->x9 ρ) (ν:Nat->Value) (a:Act) (w:World)
 (f:∀x∈Ñ bid c,iy E path fid x.1 x.2) (e:goC E call fid path m bid c S K=some r) (H:Sim ν S a w) (d:m<=S.h.length):c.wpIn fen 0 E.P (Pw m ν S.h w K r) a w :=
 kL g b c bid S K ν a w (fun _=>i) f e H d
end
end Go.Am
end

noncomputable section
namespace Go.Am
variable [Globs] [É]
section
variable {ρ:Type} {ν ν':Nat->Value} {h h':y5 Blk} {w w':World} {P:Program}
def Zn:Prop:=∀(T:Tpl) (pin:Nat) (cs vs:y5 Ty) (S:St) (p:Val (tyL cs)) (v:Val (tyL vs)) (ν:Nat->Value) (a:Act) (w:World),lr T pin cs vs S=some (p,v)->Sim ν S a w ->
 ∃ν',Sim ν' (â T cs vs p v) a w/\Ev pin ν S.h w ν' (â T cs vs p v).h w/\pin<=(â T cs vs p v).h.length/\Dd pin S.h (â T cs vs p v).h
def JU:∀(l:y5 (Exit×Tpl×y5 Ty)) (e:Exit) (i j:Nat),aaM l e i=some j->∃x,i<=j/\l[j-i]?=some x/\DR x.1 e=true
 |[],_,_,_,h=>by cases h
 |x::l,e,i,j,h=>by
  unfold aaM at h
  split at h
  ·rename_i b;cases h;exact⟨x,bX _,by simp,b⟩
  ·obtain⟨y,d,h2,c⟩:=JU l e (i+1) j h;refine⟨y,by omega,?_,c⟩;rw[show j-i=(j-(i+1))+1 by omega];simpa using h2
def PU {a b:Exit} (h:DR a b=true):a=b:=by
 unfold DR at h
 split at h
 ·rw[eq_of_beq h]
 ·rfl
 ·cases h
def SF (X:Zn) {E:Env ρ} {call:y5 Nat->Bool->Nat->y5 AV->y5 Blk->(AV->y5 Blk->x9 ρ)->x9 ρ} {N:Nat} (hE:gN E N call) (hD:kd E N call) {fid bid:Nat} {path:y5 Nat} (D:path.length+2=N) {b:Code}
 (W:∀x∈Ñ bid b,iy E path fid x.1 x.2) (L:Æ)
 (bF:Val (tyL L.cs)->Val (tyL L.vs)->(Val (tyL L.vs)->x9 ρ)->((i:Nat)->Val (tyL (L.zs i))->x9 ρ)->x9 ρ)
 (law:∀p v kn kx,goC E call fid path L.pin bid b (â L.head L.cs L.vs p v) (TU L kn kx)=bF p v (kn p) (fun i=>kx i p)) {m:Nat} {S:St} {K:Exit->St->x9 ρ} {r:ρ} {ν:Nat->Value} {a:Act} {w:World} (e:PX L bF m S K=some r) (H:Sim ν S a w) (hm:m<=S.h.length):(Code.loop b).wpIn fen 0 E.P (Pw m ν S.h w K r) a w:=by
 unfold PX at e
 split at e<;>try (cases e; done)
 rename_i c;have c:m<=L.pin:=dl c
 split at e<;>try (cases e; done)
 rename_i p v u;obtain⟨n,hn⟩:=Uy e;obtain⟨d,H1,M,I,R⟩:=X _ _ _ _ _ _ _ ν a w u H;apply wpIn_loop_rounds n
 have U:∀(n:Nat) (p:Val (tyL L.cs)) (v:Val (tyL L.vs)) (d:Nat->Value) (o:Act) (f:World),iter (fun v kn=>bF p v kn fun i z=>K (L.xk i) (â (L.tpl i) L.cs (L.zs i) p z)) n v=some r ->
  Sim d (â L.head L.cs L.vs p v) o f->Ev m ν S.h w d (â L.head L.cs L.vs p v).h f->L.pin<=(â L.head L.cs L.vs p v).h.length->Dd m S.h (â L.head L.cs L.vs p v).h ->
  Code.roundsIn fen 0 E.P b (Pw m ν S.h w K r) n o f:=by
  intro n
  induction n with
  |zero=>intro p v d o f e; cases e
  |succ n ih =>
   intro p v d o f e H1 M I R;rw[roundsIn_succ];have hl:=law p v (fun p v=>iter (fun v kn=>bF p v kn fun i z=>K (L.xk i) (â (L.tpl i) L.cs (L.zs i) p z)) n v) (fun i p z=>K (L.xk i) (â (L.tpl i) L.cs (L.zs i) p z))
   have e':goC E call fid path L.pin bid b (â L.head L.cs L.vs p v) (TU L (fun p v=>iter (fun v kn=>bF p v kn fun i z=>K (L.xk i) (â (L.tpl i) L.cs (L.zs i) p z)) n v) (fun i p z=>K (L.xk i) (â (L.tpl i) L.cs (L.zs i) p z)))=some r:=by
    rw[hl]; exact e
   refine wpIn_mono (iP hE hD D b bid _ _ d o f W e' H1 I) fun x t k ha=>?_;obtain⟨s,A,H2,Y,hp2,Z,g⟩:=ha;have B:Ev m ν S.h w s A.h k:=M.trans Y c;have C:Dd m S.h A.h:=R.trans Z c
   have out:∀x,x≠.normal->TU L (fun p v=>iter (fun v kn=>bF p v kn fun i z=>K (L.xk i) (â (L.tpl i) L.cs (L.zs i) p z)) n v) (fun i p z=>K (L.xk i) (â (L.tpl i) L.cs (L.zs i) p z)) x A=some r->Pw m ν S.h w K r x t k:=by
    intro x hx g;unfold TU at g
    split at g
    ·exact absurd rfl hx
    ·split at g<;>try (cases g; done)
     rename_i i hi
     split at g<;>try (cases g; done)
     rename_i T z u;obtain⟨y,_,h1,h2⟩:=JU _ _ _ _ hi
     have V:L.xk i=x:=by
      have:L.exits[i]?=some y:=by simpa using h1
      unfold Æ.xk;rw[this];exact PU h2
     obtain⟨q,H3,J,G,O⟩:=X _ _ _ _ _ _ _ s t k u H2;have g:K (L.xk i) (â (L.tpl i) L.cs (L.zs i) T z)=some r:=g;rw[V] at g;exact⟨q,_,H3,B.trans J c,cg c G,C.trans O c,g⟩
   cases x with
   |normal =>
    simp only[TU] at g
    split at g<;>try (cases g; done)
    rename_i T v' u;obtain⟨q,H3,J,G,O⟩:=X _ _ _ _ _ _ _ s t k u H2;exact ih T v' q t k g H3 (B.trans J c) G (C.trans O c)
   |exit id=>exact out _ (by simp) g
   |ret=>exact out _ (by simp) g
   |goto l=>exact out _ (by simp) g
   |panic ch=>exact out _ (by simp) g
   |outgrown=>exact out _ (by simp) g
 exact U n p v d a w hn H1 (M.mono c) I (fun j hj hd=>R j (by omega) hd)
end
end Go.Am
end

noncomputable section
namespace Go.Am
variable [Globs] [É]
section
variable {ν:Nat->Value} {h h':y5 Blk} {w:World}
def O8 {t:Ty} {d:DV} {x:Val t} (e:G8 t d=some x):d=⟨t,x⟩:=by
 unfold G8 at e
 split at e<;>try (cases e; done)
 rename_i b _;obtain⟨ty,val⟩:=d;simp only at b;subst b;cases e;rfl
def TR (u:Ty) (l:y5 Ty) (t:Ty) (d:DV) (b:y5 DV):TS (u::l) t (d::b)=(match G8 t d with
 |some x=>match TS l u b with
  |some y=>some ((x,y):Val t×Val (tys u l))
  |none=>none
 |none=>none):=rfl
def WG (t:Ty) (x:Val t):Uh t [] x=[⟨t,x⟩]:=rfl
def Ug (t u:Ty) (l:y5 Ty) (x:Val t) (y:Val (tys u l)):Uh t (u::l) ((x,y):Val t×Val (tys u l))=⟨t,x⟩::Uh u l y:=rfl
def ZL (l:y5 Ty):∀(t:Ty) (b:y5 DV) (x:Val (tys t l)),TS l t b=some x->Uh t l x=b:=by
 induction l with
 |nil =>
  intro t b x e
  match b,e with
  |[],e=>exact absurd (show(none:x9 (Val t))=some x from e) (fun h=>by cases h)
  |[d],e =>
   have e:G8 t d=some x:=e;rw[O8 e]; exact WG t x
  |_::_::_,e=>exact absurd (show(none:x9 (Val t))=some x from e) (fun h=>by cases h)
 |cons u l g =>
  intro t b x e
  match b,e with
  |[],e=>exact absurd (show(none:x9 (Val t×Val (tys u l)))=some x from e) (fun h=>by cases h)
  |d::b,e =>
   rw[TR] at e
   cases c:G8 t d with
   |none=>rw[c] at e; exact absurd (show(none:x9 (Val t×Val (tys u l)))=some x from e) (fun h=>by cases h)
   |some y =>
    cases f:TS l u b with
    |none=>rw[c,f] at e; exact absurd (show(none:x9 (Val t×Val (tys u l)))=some x from e) (fun h=>by cases h)
    |some z =>
     rw[c,f] at e;have e:((y,z):Val t×Val (tys u l))=x:=Option.some.inj e;rw[<-e,O8 c,<-g u b z f];exact Ug t u l y z
def Ru (l:y5 Ty) (b:y5 DV) (x:Val (tyL l)) (e:acr l b=some x):P9 l x=b:=by
 cases l with
 |nil=>cases b with
  |nil=>rfl
  |cons=>cases e
 |cons t l=>exact ZL l t b x e
def νb (B:y5 Bd) (ν:Nat->Value) (i:Nat):Value :=
 match ε B i with
 |some (.at_ id)=>ν id
 |some .new=>.slice none 0 0
 |some .newd=>.agg [Value.slice none 0 0].toArray
 |_=>undef
structure Ext (M M':Mt):Prop where
 bd:∀i id,ε M.bd i=some (.at_ id)->ε M'.bd i=some (.at_ id)
 new:∀i,ε M.bd i=some .new->ε M'.bd i=some .new
 newd:∀i,ε M.bd i=some .newd->ε M'.bd i=some .newd
 cons:M.cons <+: M'.cons
 vars:M.vars <+: M'.vars
 freed:∀i∈M.freed,i∈M'.freed
 len:M'.bd.length=M.bd.length
def Ext.refl (M:Mt):Ext M M:=⟨fun _ _ h=>h,fun _ h=>h,fun _ h=>h,dt,dt,fun _ h=>h,rfl⟩
def Ext.trans {M M' b:Mt} (h:Ext M M') (k:Ext M' b):Ext M b :=
 ⟨fun i id q=>k.bd i id (h.bd i id q),fun i q=>k.new i (h.new i q),fun i q=>k.newd i (h.newd i q),h.cons.trans k.cons,h.vars.trans k.vars,fun i q=>k.freed i (h.freed i q),k.len.trans h.len⟩
def ō:∀(l:y5 Bd) (d:Nat) (b:Bd) (i:Nat),ε (C9 l d b) i=if i=d/\d<l.length then some b else ε l i
 |[],d,v,i=>by simp[C9,ε]
 |x::xs,0,v,0=>by simp[C9,ε]
 |x::xs,0,v,i+1=>by simp[C9,ε]
 |x::xs,d+1,v,0=>by simp[C9,ε]
 |x::xs,d+1,v,i+1=>by simp[C9,ε,ō xs d v i]
def oS:∀(l:y5 Bd) (d:Nat) (b:Bd),(C9 l d b).length=l.length
 |[],_,_=>rfl
 |_::_,0,_=>rfl
 |_::xs,d+1,v=>by simp[C9,oS xs d v]
def rN:∀{l:y5 Bd} {i:Nat} {b:Bd},ε l i=some b->i<l.length
 |[],_,_,h=>by cases h
 |_::_,0,_,_=>gi _
 |_::_,i+1,_,h=>Nat.succ_lt_succ (rN (by simpa[ε] using h))
def ĸ {M M':Mt} {i id:Nat} (e:Bb M i id=some M'):Ext M M'/\ε M'.bd i=some (.at_ id)/\M'.cons=M.cons/\M'.vars=M.vars:=by
 unfold Bb at e
 split at e<;>try (cases e; done)
 ·rename_i c;cases e;have f:=rN c;refine⟨⟨fun j d q=>?_,fun j q=>?_,fun j q=>?_,dt,dt,fun _ q=>q,oS _ _ _⟩,by simp[ō,f],rfl,rfl⟩
  ·simp only[ō]
   by_cases b:j=i
   ·subst b; rw[c] at q; cases q
   ·simp[b,q]
  ·simp only[ō]
   by_cases b:j=i
   ·subst b; rw[c] at q; cases q
   ·simp[b,q]
  ·simp only[ō]
   by_cases b:j=i
   ·subst b; rw[c] at q; cases q
   ·simp[b,q]
 ·rename_i d c
  split at e<;>try (cases e; done)
  rename_i hi;cases e;rw[eq_of_beq hi] at c;exact⟨Ext.refl _,c,rfl,rfl⟩
def C4 {M M':Mt} {i:Nat} (e:Q6 M i=some M'):Ext M M'/\ε M'.bd i=some .new/\M'.cons=M.cons/\M'.vars=M.vars:=by
 unfold Q6 at e
 split at e<;>try (cases e; done)
 rename_i c;cases e;have d:=rN c;refine⟨⟨fun j f q=>?_,fun j q=>?_,fun j q=>?_,dt,dt,fun _ q=>q,oS _ _ _⟩,by simp[ō,d],rfl,rfl⟩
 ·simp only[ō]
  by_cases b:j=i
  ·subst b; rw[c] at q; cases q
  ·simp[b,q]
 ·simp only[ō]
  by_cases b:j=i
  ·subst b; rw[c] at q; cases q
  ·simp[b,q]
 ·simp only[ō]
  by_cases b:j=i
  ·subst b; rw[c] at q; cases q
  ·simp[b,q]
def Ba {M M':Mt} {i:Nat} (e:L6 M i=some M'):Ext M M'/\ε M'.bd i=some .newd/\M'.cons=M.cons/\M'.vars=M.vars:=by
 unfold L6 at e
 split at e<;>try (cases e; done)
 rename_i c;cases e;have d:=rN c;refine⟨⟨fun j f q=>?_,fun j q=>?_,fun j q=>?_,dt,dt,fun _ q=>q,oS _ _ _⟩,by simp[ō,d],rfl,rfl⟩
 ·simp only[ō]
  by_cases b:j=i
  ·subst b; rw[c] at q; cases q
  ·simp[b,q]
 ·simp only[ō]
  by_cases b:j=i
  ·subst b; rw[c] at q; cases q
  ·simp[b,q]
 ·simp only[ō]
  by_cases b:j=i
  ·subst b; rw[c] at q; cases q
  ·simp[b,q]
def kin:Blk->Blk->Prop
 |.row t _ false xs,B=>B=.row t 0 false xs
 |.row t g true xs,B=>B=.row t g true xs
 |.map k v es,B=>B=.map k v es
 |.cells _,B=>∃c,B=.cells c
 |.dead,B=>B=.dead
 |.deep k _ xss,B=>B=.deep k 0 xss
 |.acc t xs,B=>B=.acc t xs
 |.fns _,B=>∃b,B=.fns b
 |.iter s q,B=>B=.iter s q
structure Fin (ν:Nat->Value) (h:y5 Blk) (w:World) (M:Mt) (h':y5 Blk):Prop where
 at_:∀i id,ε M.bd i=some (.at_ id)->kin (lkB h id) (lkB h' i)
 new:∀i,ε M.bd i=some .new->∃t,lkB h' i=.row t 0 false []
 newd:∀i,ε M.bd i=some .newd->∃k,lkB h' i=.deep k 0 []
 out:∀i,(∀id,ε M.bd i≠some (.at_ id))->ε M.bd i≠some .new->ε M.bd i≠some .newd->lkB h' i=.dead
 freed:∀id∈M.freed,∀i,ε M.bd i≠some (.at_ id)
 inj:∀i j id,ε M.bd i=some (.at_ id)->ε M.bd j=some (.at_ id)->i=j
def Fin.live {M:Mt} (F:Fin ν h w M h') {b:Nat} (hb:mq (νb M.bd ν) h' b):∃i id,ε M.bd i=some (.at_ id)/\(lkB h id).live=true/\Ĝ (ν id) b:=by
 obtain⟨i,d,e⟩:=hb
 cases c:ε M.bd i with
 |none=>rw[F.out i (by simp[c]) (by simp[c]) (by simp[c])] at d; cases d
 |some bd =>
  cases bd with
  |open_=>rw[F.out i (by simp[c]) (by simp[c]) (by simp[c])] at d; cases d
  |new=>simp only[νb,c] at e; cases e
  |newd =>
   simp only[νb,c] at e;obtain⟨u,k,hb⟩:=e;simp at k;subst k;cases hb
  |at_ id =>
   refine⟨i,id,c,?_,by simpa[νb,c] using e⟩;have j:=F.at_ i id c
   cases f:lkB h id with
   |dead=>rw[f] at j; rw[show lkB h' i=_ from j] at d; cases d
   |cells=>rfl
   |map=>rfl
   |deep=>rfl
   |acc=>rfl
   |fns=>rfl
   |iter=>rfl
   |row t g fz xs =>
    cases fz with
    |false=>rfl
    |true=>rw[f] at j; rw[show lkB h' i=_ from j] at d; cases d
def Fin.subL {M:Mt} (F:Fin ν h w M h') (b:Nat) (hb:mq (νb M.bd ν) h' b):mq ν h b:=by
 obtain⟨i,id,_,h2,c⟩:=F.live hb;exact⟨id,h2,c⟩
def Fin.sub {M:Mt} (F:Fin ν h w M h') (b:Nat) (hb:Av (νb M.bd ν) h' b):Av ν h b:=hb.imp_left (F.subL b)
def Th (H:HR ν h w) {M:Mt} (F:Fin ν h w M h') {t:Ty} {v:AV} {u:Value} {x:Val t} (z:∀i∈JS h v,i∈M.freed) (e:Ô t [ñ h v]=some x) (y:VR ν h w v u) :
 VR (νb M.bd ν) h' w (UP ⟨t,x⟩) u:=by
 have c:∀(q:v.isAgg=false) (p:v.isTup=false),CR w (Av (νb M.bd ν) h') t x [u]:=by
  intro q p;have m:=y.one q p;refine ď e ⟨tq H F.sub m fun id b A l hb=>?_,trivial⟩;rintro(hlive|s)
  rotate_left
  ·exact H.ghne id b l hb s
  obtain⟨i,o,h2,C,B⟩:=F.live hlive;have r:id=o:=H.inj id o b l C hb B;subst r;refine F.freed id (z id ?_) i h2;rcases A with⟨g,rfl⟩|⟨g,lo,n,rfl⟩|rfl
  ·obtain⟨_,t',g',fz,xs,j,_⟩:=m;rw[j] at l
   cases fz with
   |true=>cases l
   |false=>simp[JS,j]
  ·obtain⟨_,t',g',fz,xs,j,_⟩:=m;rw[j] at l
   cases fz with
   |true=>cases l
   |false=>simp[JS,j]
  ·simp[JS]
 have fin:(t≠.unit/\∀a b,t≠.pair a b)->v.isAgg=false/\v.isTup=false:=fun⟨m,h2⟩=>by
  constructor
  ·cases v<;>try rfl
   cases t<;>first|(exact absurd rfl m)|(exact absurd rfl (h2 _ _))|(simp[ñ,Ô,ř] at e)
  ·cases v<;>try rfl
   cases t<;>first|(exact absurd rfl m)|(exact absurd rfl (h2 _ _))|(simp[ñ,Ô,ř] at e)
 cases t with
 |unit=>trivial
 |pair a b=>trivial
 |bool=>obtain⟨f,d⟩:=fin ⟨by simp,by simp⟩; exact CZ (c f d)
 |int k=>obtain⟨f,d⟩:=fin ⟨by simp,by simp⟩; exact CZ (c f d)
 |str=>obtain⟨f,d⟩:=fin ⟨by simp,by simp⟩; exact CZ (c f d)
 |slice t=>obtain⟨f,d⟩:=fin ⟨by simp,by simp⟩; exact CZ (c f d)
 |map k v=>obtain⟨f,d⟩:=fin ⟨by simp,by simp⟩; exact CZ (c f d)
 |ptr t=>obtain⟨f,d⟩:=fin ⟨by simp,by simp⟩; exact CZ (c f d)
def Ą {α:Type} {l C:y5 α} {d:α} (h:(l++[d]) <+: C):C.drop l.length=d::C.drop (l.length+1):=by
 obtain⟨t,rfl⟩:=h;simp[cq]
def gE {B:y5 Bd} {i id:Nat} (h:ε B i=some (.at_ id)):νb B ν i=ν id:=by simp[νb,h]
def Vx {B:y5 Bd} {i:Nat} (h:ε B i=some .new):νb B ν i=.slice none 0 0:=by simp[νb,h]
def Rk {B:y5 Bd} {i:Nat} (h:ε B i=some .newd):νb B ν i=.agg [Value.slice none 0 0].toArray:=by simp[νb,h]
def Ŧ:∀(ps:y5 (Nat×Nat)) (vs:y5 AV) (us:y5 Value) (M M1:Mt),pP h ps vs M=some M1->Ext M M1/\M1.cons=M.cons/\M1.vars=M.vars /\
 ∀d,Ext M1 d->Fin ν h w d h'->í (VR0 ν h w) vs us->í (VR0 (νb d.bd ν) h' w) (ps.map fun c=>.box c.1 c.2) us
 |[],[],us,M,M1,e=>by
  cases e;exact⟨Ext.refl _,rfl,rfl,fun d _ _ f=>by cases us with|nil=>trivial|cons=>exact f.elim⟩
 |[],_::_,_,_,_,e=>by cases e
 |_::_,[],_,_,_,e=>by cases e
 |(i,o)::ps,v::vs,us,M,M1,e=>by
  cases v<;>try (simp[pP] at e; done)
  rename_i id off;simp only[pP] at e
  split at e<;>try (cases e; done)
  rename_i q
  split at e<;>try (cases e; done)
  rename_i cs r
  split at e<;>try (cases e; done)
  rename_i p hb;obtain⟨t,A,z,v1⟩:=ĸ hb;obtain⟨m,y,v2,_⟩:=Ŧ ps vs us p M1 e;refine⟨t.trans m,y.trans z,v2.trans v1,fun d l F f=>?_⟩
  cases us with
  |nil=>exact f.elim
  |cons u us =>
   refine⟨?_,(Ŧ ps vs us p M1 e).2.2.2 d l F f.2⟩;obtain⟨x,b,B,h2,s⟩:=f.1;have g:=l.bd i id (m.bd i id A);have j:=F.at_ i id g;rw[r] at j;obtain⟨k,j⟩:=j;exact⟨k,b,j,(gE g).trans h2,by rw[eq_of_beq q]; exact s⟩
def mB:∀(ps:y5 (ByteArray×Nat×y5 (Nat×Nat))) (es:y5 (ByteArray×AV)) (ms:y5 MapEntry) (M M1:Mt),D2 h ps es M=some M1->Ext M M1/\M1.cons=M.cons/\M1.vars=M.vars /\
 ∀b,Ext M1 b->Fin ν h w b h'->Mi ν h w es ms->Mi (νb b.bd ν) h' w (ps.map fun e=>(e.1,.fn (.func e.2.1) [] (e.2.2.map fun c=>.box c.1 c.2))) ms
 |[],[],ms,M,M1,e=>by
  cases e;exact⟨Ext.refl _,rfl,rfl,fun b _ _ d=>by cases ms with|nil=>trivial|cons=>exact d.elim⟩
 |[],_::_,_,_,_,e=>by cases e
 |_::_,[],_,_,_,e=>by cases e
 |p::ps,x::es,ms,M,M1,e=>by
  obtain⟨s,v⟩:=x;simp only[D2] at e
  split at e<;>try (cases e; done)
  rename_i f vs
  split at e<;>try (cases e; done)
  rename_i i;simp only[bZ] at i;have t:=RA.1 i.1;have u:=cd i.2;subst u
  split at e<;>try (cases e; done)
  rename_i g k;obtain⟨z,B,v1,_⟩:=Ŧ (ν:=ν) (w:=w) (h':=h') p.2.2 vs [] M g k;obtain⟨o,A,v2,_⟩:=mB ps es ms g M1 e;refine⟨z.trans o,A.trans B,v2.trans v1,fun b l F d=>?_⟩
  cases ms with
  |nil=>exact d.elim
  |cons m ms =>
   refine⟨?_,(mB ps es ms g M1 e).2.2.2 b l F d.2⟩;obtain⟨j,h2,fs,cs,y,r,q⟩:=d.1;have j:m.key=.string s:=j;have:=(Ŧ (ν:=ν) (w:=w) (h':=h') p.2.2 vs cs.toList M g k).2.2.2 b (o.trans l) F q;exact⟨by rw[j,<-t],rfl,fs,cs,y,by rw[r.nil_left]; trivial,this⟩
def rest (b M:Mt):It:=⟨b.cons.drop M.cons.length,b.vars.drop M.vars.length⟩
def pk:∀(ts:y5 Ty) (vs:y5 AV) (M M1:Mt),tN ts vs M=some M1->Ext M M1/\∀c,Ext M1 c->(vr ts (rest c M)).2=rest c M1 /\
 ∀us:y5 Value,Fin ν h w c h'->í (VR0 ν h w) vs us->í (VR0 (νb c.bd ν) h' w) (vr ts (rest c M)).1 us
 |[],[],M,M1,e=>by
  cases e;exact⟨Ext.refl _,fun c _=>⟨rfl,fun us _ d=>by cases us with|nil=>trivial|cons=>exact d.elim⟩⟩
 |[],_::_,_,_,e=>by cases e
 |_::_,[],_,_,e=>by cases e
 |t::ts,v::vs,M,M1,e=>by
  cases v<;>try (simp[tN] at e; done)
  rename_i t' x o;simp only[tN] at e
  split at e<;>try (cases e; done)
  rename_i f
  split at e<;>try (cases e; done)
  rename_i s _;have f:=cd f;subst f;obtain⟨i,k2⟩:=pk ts vs _ M1 e;have r:Ext M {M with cons:=M.cons++[⟨.ptr t',x⟩]}:=⟨fun _ _ q=>q,fun _ q=>q,fun _ q=>q,dG _ _,dt,fun _ q=>q,rfl⟩;refine⟨r.trans i,fun c g=>?_⟩;obtain⟨k3,k4⟩:=k2 c g;have hd:=Ą (i.trans g).cons
  have j:rest c {M with cons:=M.cons++[⟨.ptr t',x⟩]}=⟨c.cons.drop (M.cons.length+1),c.vars.drop M.vars.length⟩:=by simp[rest]
  rw[j] at k3 k4;simp only[rest,vr,hd];refine⟨k3,fun us F d=>?_⟩
  cases us with
  |nil=>exact d.elim
  |cons u us =>
   refine⟨?_,k4 us F d.2⟩;obtain⟨b,o,ws,p,h2,m,l,k⟩:=d.1;exact⟨b,o,ws,p,fun h=>h2 (F.sub b h),m,CR.mono F.sub l,k⟩
def E5 (H:HR ν h w) {p:Pat} {v:AV} {M M1:Mt} (e:Ō h p v M=some M1):Ext M M1/\∀j u,Ext M1 j->Fin ν h w j h'->VR ν h w v u ->
 VR (νb j.bd ν) h' w (nS p ⟨j.cons.drop M.cons.length,j.vars.drop M.vars.length⟩).1 u /\
  (nS p ⟨j.cons.drop M.cons.length,j.vars.drop M.vars.length⟩).2=⟨j.cons.drop M1.cons.length,j.vars.drop M1.vars.length⟩:=by
 cases p with
 |any=>cases e; exact⟨Ext.refl _,fun j u _ _ _=>⟨trivial,rfl⟩⟩
 |con t =>
  simp only[Ō] at e
  split at e<;>try (cases e; done)
  rename_i x K;cases e;refine⟨⟨fun _ _ q=>q,fun _ q=>q,fun _ q=>q,dG _ _,dt,fun _ q=>cJ _ q,rfl⟩,fun j u m F d=>?_⟩;have hd:=Ą m.cons;simp only[nS,hd];exact⟨Th H F (fun i hi=>m.freed i (dh _ hi)) K d,by simp⟩
 |var t =>
  simp only[Ō] at e
  split at e<;>try (cases e; done)
  rename_i x K;cases e;refine⟨⟨fun _ _ q=>q,fun _ q=>q,fun _ q=>q,dt,dG _ _,fun _ q=>cJ _ q,rfl⟩,fun j u m F d=>?_⟩;have hd:=Ą m.vars;simp only[nS,hd];exact⟨Th H F (fun i hi=>m.freed i (dh _ hi)) K d,by simp⟩
 |own i =>
  simp only[Ō] at e
  split at e<;>try (cases e; done)
  ·rename_i id g
   split at e<;>try (cases e; done)
   rename_i t g' xs A
   split at e<;>try (cases e; done)
   rename_i L;obtain⟨o,z,y,v1⟩:=ĸ e;refine⟨o,fun j u m F d=>⟨?_,by simp only[nS,y,v1]⟩⟩;have c:=m.bd i id z;have l:=F.at_ i id c;rw[A] at l;obtain⟨D,t2,Y,Z,V,r,_,C⟩:=d;rw[A] at r; cases r;exact⟨D,t,0,false,xs,l,bX _,fun _=>(C (eq_of_beq L)).trans (gE c).symm⟩
  ·obtain⟨o,z,y,v1⟩:=C4 e;refine⟨o,fun j u m F d=>⟨?_,by simp only[nS,y,v1]⟩⟩;have B:=m.new i z;obtain⟨t,l⟩:=F.new i B;have E:u=.slice none 0 0:=d;exact⟨by rw[E]; rfl,t,0,false,[],l,bX _,fun _=>E.trans (Vx B).symm⟩
 |dp i =>
  simp only[Ō] at e
  split at e<;>try (cases e; done)
  ·rename_i id g
   split at e<;>try (cases e; done)
   rename_i k g' xss A
   split at e<;>try (cases e; done)
   rename_i L;obtain⟨o,z,y,v1⟩:=ĸ e;refine⟨o,fun j u m F d=>⟨?_,by simp only[nS,y,v1]⟩⟩;have c:=m.bd i id z;have l:=F.at_ i id c;rw[A] at l;obtain⟨D,k2,Y,T,r,_,C⟩:=d;rw[A] at r; cases r;exact⟨D,k,0,xss,l,bX _,fun _=>by rw[gE c]; exact C (eq_of_beq L)⟩
  ·obtain⟨o,z,y,v1⟩:=Ba e;refine⟨o,fun j u m F d=>⟨?_,by simp only[nS,y,v1]⟩⟩;have B:=m.newd i z;obtain⟨k,l⟩:=F.newd i B;have E:u=.slice none 0 0:=d;exact⟨by rw[E]; rfl,k,0,[],l,bX _,fun _=>⟨[],by rw[Rk B,E]⟩⟩
 |omp i =>
  simp only[Ō] at e
  split at e<;>try (cases e; done)
  rename_i id
  split at e<;>try (cases e; done)
  rename_i k W es A;obtain⟨o,z,y,v1⟩:=ĸ e;refine⟨o,fun j u m F d=>⟨?_,by simp only[nS,y,v1]⟩⟩;have c:=m.bd i id z;have l:=F.at_ i id c;rw[A] at l;obtain⟨D,k2,v2,O,r,C⟩:=d;exact⟨D,k,W,es,l,C.trans (gE c).symm⟩
 |box i off =>
  simp only[Ō] at e
  split at e<;>try (cases e; done)
  rename_i id U
  split at e<;>try (cases e; done)
  rename_i G
  split at e<;>try (cases e; done)
  rename_i cs A;obtain⟨o,z,y,v1⟩:=ĸ e;refine⟨o,fun j u m F d=>⟨?_,by simp only[nS,y,v1]⟩⟩;have c:=m.bd i id z;have l:=F.at_ i id c;rw[A] at l;obtain⟨S,l⟩:=l;obtain⟨cs',b,h1,h2,X⟩:=d;exact⟨S,b,l,(gE c).trans h2,by rw[eq_of_beq G]; exact X⟩
 |nils =>
  simp only[Ō] at e
  split at e<;>try (cases e; done)
  cases e;exact⟨Ext.refl _,fun j u _ _ d=>⟨d,rfl⟩⟩
 |nilp =>
  simp only[Ō] at e
  split at e<;>try (cases e; done)
  cases e;exact⟨Ext.refl _,fun j u _ _ d=>⟨d,rfl⟩⟩
 |nilfn =>
  simp only[Ō] at e
  split at e<;>try (cases e; done)
  cases e;exact⟨Ext.refl _,fun j u _ _ d=>⟨d,rfl⟩⟩
 |yld =>
  simp only[Ō] at e
  split at e<;>try (cases e; done)
  cases e;exact⟨Ext.refl _,fun j u _ _ d=>⟨d,rfl⟩⟩
 |ofn i =>
  simp only[Ō] at e
  split at e<;>try (cases e; done)
  rename_i id
  split at e<;>try (cases e; done)
  rename_i es A;obtain⟨o,z,y,v1⟩:=ĸ e;refine⟨o,fun j u m F d=>⟨?_,by simp only[nS,y,v1]⟩⟩;have c:=m.bd i id z;have l:=F.at_ i id c;rw[A] at l;obtain⟨R,l⟩:=l;obtain⟨D,O,r,C⟩:=d;exact⟨D,R,l,C.trans (gE c).symm⟩
 |oit i =>
  simp only[Ō] at e
  split at e<;>try (cases e; done)
  rename_i id
  split at e<;>try (cases e; done)
  rename_i s q A;obtain⟨o,z,y,v1⟩:=ĸ e;refine⟨o,fun j u m F d=>⟨?_,by simp only[nS,y,v1]⟩⟩;have c:=m.bd i id z;have l:=F.at_ i id c;rw[A] at l;obtain⟨D,s2,I,r,C⟩:=d;exact⟨D,s,q,l,C.trans (gE c).symm⟩
 |fn f caps =>
  simp only[Ō] at e
  split at e<;>try (cases e; done)
  rename_i f' vs
  split at e<;>try (cases e; done)
  rename_i N;obtain⟨o,y,v1,_⟩:=Ŧ (ν:=ν) (w:=w) (h':=h') caps vs [] M M1 e;refine⟨o,fun j u m F d=>⟨?_,by simp only[nS,y,v1]⟩⟩;obtain⟨fs,cs,rfl,J,I⟩:=d;have:=(Ŧ (ν:=ν) (w:=w) (h':=h') caps vs cs.toList M M1 e).2.2.2 j m F I;exact⟨fs,cs,by rw[eq_of_beq N],by rw[J.nil_left]; trivial,this⟩
 |fnd f ts =>
  simp only[Ō] at e
  split at e<;>try (cases e; done)
  rename_i f' vs
  split at e<;>try (cases e; done)
  rename_i N;obtain⟨o,k⟩:=pk (ν:=ν) (h:=h) (w:=w) (h':=h') ts vs M M1 e;refine⟨o,fun j u m F d=>?_⟩;obtain⟨k1,k2⟩:=k j m;obtain⟨fs,cs,rfl,J,I⟩:=d;exact⟨⟨fs,cs,by rw[eq_of_beq N],by rw[J.nil_left]; trivial,k2 cs.toList F I⟩,k1⟩
def pb {b M M1:Mt} (c:M1.cons=M.cons) (h2:M1.vars=M.vars):rest b M=rest b M1:=by simp only[rest,c,h2]
def qX {p:Pat} {v:AV} {M M1:Mt} (e:Ō h p v M=some M1):Ext M M1/\∀b,Ext M1 b->(nS p (rest b M)).2=rest b M1:=by
 cases p with
 |any=>cases e; exact⟨Ext.refl _,fun b _=>rfl⟩
 |con t =>
  simp only[Ō] at e
  split at e<;>try (cases e; done)
  rename_i x l;cases e;refine⟨⟨fun _ _ q=>q,fun _ q=>q,fun _ q=>q,dG _ _,dt,fun _ q=>cJ _ q,rfl⟩,fun b g=>?_⟩;have hd:=Ą g.cons;simp only[rest,nS,hd]; simp
 |var t =>
  simp only[Ō] at e
  split at e<;>try (cases e; done)
  rename_i x l;cases e;refine⟨⟨fun _ _ q=>q,fun _ q=>q,fun _ q=>q,dt,dG _ _,fun _ q=>cJ _ q,rfl⟩,fun b g=>?_⟩;have hd:=Ą g.vars;simp only[rest,nS,hd]; simp
 |own i =>
  simp only[Ō] at e
  split at e<;>try (cases e; done)
  ·split at e<;>try (cases e; done)
   split at e<;>try (cases e; done)
   obtain⟨c,j,d,v1⟩:=ĸ e;exact⟨c,fun b g=>pb d v1⟩
  ·obtain⟨c,j,d,v1⟩:=C4 e;exact⟨c,fun b g=>pb d v1⟩
 |dp i =>
  simp only[Ō] at e
  split at e<;>try (cases e; done)
  ·split at e<;>try (cases e; done)
   split at e<;>try (cases e; done)
   obtain⟨c,j,d,v1⟩:=ĸ e;exact⟨c,fun b g=>pb d v1⟩
  ·obtain⟨c,j,d,v1⟩:=Ba e;exact⟨c,fun b g=>pb d v1⟩
 |omp i =>
  simp only[Ō] at e
  split at e<;>try (cases e; done)
  split at e<;>try (cases e; done)
  obtain⟨c,j,d,v1⟩:=ĸ e;exact⟨c,fun b g=>pb d v1⟩
 |box i off =>
  simp only[Ō] at e
  split at e<;>try (cases e; done)
  split at e<;>try (cases e; done)
  split at e<;>try (cases e; done)
  obtain⟨c,j,d,v1⟩:=ĸ e;exact⟨c,fun b g=>pb d v1⟩
 |nils =>
  simp only[Ō] at e
  split at e<;>try (cases e; done)
  cases e; exact⟨Ext.refl _,fun b _=>rfl⟩
 |nilp =>
  simp only[Ō] at e
  split at e<;>try (cases e; done)
  cases e; exact⟨Ext.refl _,fun b _=>rfl⟩
 |nilfn =>
  simp only[Ō] at e
  split at e<;>try (cases e; done)
  cases e; exact⟨Ext.refl _,fun b _=>rfl⟩
 |yld =>
  simp only[Ō] at e
  split at e<;>try (cases e; done)
  cases e; exact⟨Ext.refl _,fun b _=>rfl⟩
 |ofn i =>
  simp only[Ō] at e
  split at e<;>try (cases e; done)
  split at e<;>try (cases e; done)
  obtain⟨c,j,d,v1⟩:=ĸ e;exact⟨c,fun b g=>pb d v1⟩
 |oit i =>
  simp only[Ō] at e
  split at e<;>try (cases e; done)
  split at e<;>try (cases e; done)
  obtain⟨c,j,d,v1⟩:=ĸ e;exact⟨c,fun b g=>pb d v1⟩
 |fn f caps =>
  simp only[Ō] at e
  split at e<;>try (cases e; done)
  rename_i m vs
  split at e<;>try (cases e; done)
  obtain⟨c,d,v1,_⟩:=Ŧ (ν:=fun _=>undef) (w:=default) (h':=[]) caps vs [] M M1 e;exact⟨c,fun b g=>pb d v1⟩
 |fnd f ts =>
  simp only[Ō] at e
  split at e<;>try (cases e; done)
  rename_i m vs
  split at e<;>try (cases e; done)
  obtain⟨c,k⟩:=pk (ν:=fun _=>undef) (h:=[]) (w:=default) (h':=[]) ts vs M M1 e;exact⟨c,fun b g=>(k b g).1⟩
def qz (p:Pat) (ps:y5 Pat) (I:It):B0 (p::ps) I=((nS p I).1::(B0 ps (nS p I).2).1,(B0 ps (nS p I).2).2):=rfl
def xz:∀{ps:y5 Pat} {vs:y5 AV} {M M1:Mt},Ji h ps vs M=some M1->Ext M M1/\∀b,Ext M1 b->(B0 ps (rest b M)).2=rest b M1
 |[],vs,M,M1,e=>by cases e; exact⟨Ext.refl _,fun b _=>rfl⟩
 |p::ps,vs,M,M1,e=>by
  simp only[Ji] at e
  split at e<;>try (cases e; done)
  rename_i i f;obtain⟨g,t1⟩:=qX f;obtain⟨d,t2⟩:=xz e;exact⟨g.trans d,fun b c=>by rw[qz,t1 b (d.trans c)]; exact t2 b c⟩
def NB (H:HR ν h w):∀{ps:y5 Pat} {vs:y5 AV} {M M1:Mt},Ji h ps vs M=some M1->∀b,Ext M1 b->Fin ν h w b h'->∀f:Nat->Value,(∀k,VR ν h w (lk vs k) (f k)) ->
 ∀k,VR (νb b.bd ν) h' w (lk (B0 ps (rest b M)).1 k) (f k)
 |[],vs,M,M1,e,b,_,_,f,_,k=>trivial
 |p::ps,vs,M,M1,e,b,c,F,f,d,k=>by
  simp only[Ji] at e
  split at e<;>try (cases e; done)
  rename_i m g;obtain⟨l,t1⟩:=qX g;obtain⟨i,t2⟩:=xz e;rw[qz,t1 b (i.trans c)]
  cases k with
  |zero=>exact((E5 H g).2 b (f 0) (i.trans c) F (d 0)).1
  |succ k =>
   have j:∀k,lk vs.tail k=lk vs (k+1):=fun k=>by cases vs<;>rfl
   exact NB H e b c F (fun k=>f (k+1)) (fun k=>by rw[j]; exact d (k+1)) k
def nA:∀{ps:y5 Pat} {vs:y5 AV} {M M1:Mt},mX h ps vs M=some M1->Ext M M1/\∀b,Ext M1 b->(B0 ps (rest b M)).2=rest b M1
 |[],[],M,M1,e=>by cases e; exact⟨Ext.refl _,fun b _=>rfl⟩
 |[],_::_,M,M1,e=>by cases e
 |_::_,[],M,M1,e=>by cases e
 |p::ps,v::vs,M,M1,e=>by
  simp only[mX] at e
  split at e<;>try (cases e; done)
  rename_i i f;obtain⟨g,t1⟩:=qX f;obtain⟨d,t2⟩:=nA e;exact⟨g.trans d,fun b c=>by rw[qz,t1 b (d.trans c)]; exact t2 b c⟩
def UD (p:Pat) (I:It):(nS p I).1.isAgg=false/\(nS p I).1.isTup=false:=by
 have b:∀d:DV,(UP d).isAgg=false/\(UP d).isTup=false:=fun d=>by
  obtain⟨t,x⟩:=d
  cases t<;>exact⟨rfl,rfl⟩
 cases p<;>simp only[nS]<;>try exact⟨rfl,rfl⟩
 ·split<;>first|exact b _|exact⟨rfl,rfl⟩
 ·split<;>first|exact b _|exact⟨rfl,rfl⟩
def yP (H:HR ν h w):∀{ps:y5 Pat} {vs:y5 AV} {us:y5 Value} {M M1:Mt},mX h ps vs M=some M1->∀b,Ext M1 b->Fin ν h w b h'->í (VRc ν h w) vs us ->
 í (VRc (νb b.bd ν) h' w) (B0 ps (rest b M)).1 us
 |[],[],us,M,M1,e,b,_,_,c=>by cases us with|nil=>trivial|cons=>exact c.elim
 |[],_::_,_,M,M1,e,_,_,_,_=>by cases e
 |_::_,[],_,M,M1,e,_,_,_,_=>by cases e
 |p::ps,v::vs,us,M,M1,e,b,f,F,c=>by
  simp only[mX] at e
  split at e<;>try (cases e; done)
  rename_i k g;obtain⟨j,t1⟩:=qX g;obtain⟨i,t2⟩:=nA e;rw[qz,t1 b (i.trans f)]
  cases us with
  |nil=>exact c.elim
  |cons u us =>
   have h2:=((E5 H g).2 b u (i.trans f) F c.1.1.up).1;have d:=UD p (rest b M);exact⟨⟨h2.one d.1 d.2,c.1.2⟩,yP H e b f F c.2⟩
def vE (M:Mt) (d:DV):Ext M {M with cons:=M.cons++[d]}:=⟨fun _ _ q=>q,fun _ q=>q,fun _ q=>q,dG _ _,dt,fun _ q=>q,rfl⟩
def sc (M:Mt) (d:DV):Ext M {M with vars:=M.vars++[d]}:=⟨fun _ _ q=>q,fun _ q=>q,fun _ q=>q,dt,dG _ _,fun _ q=>q,rfl⟩
def xA {p:kf} {i:Nat} {M M1:Mt} (e:Ģ h p i M=some M1):Ext M M1/\∀d,Ext M1 d->(nQ p (rest d M)).2=rest d M1 /\
 ((∃id,ε M.bd i=some (.at_ id)/\kin (lkB h id) (nQ p (rest d M)).1)\/(ε M.bd i=some .new/\∃t,(nQ p (rest d M)).1=.row t 0 false [])\/(ε M.bd i=some .newd/\∃k,(nQ p (rest d M)).1=.deep k 0 [])):=by
 cases p with
 |dead =>
  simp only[Ģ] at e
  split at e<;>try (cases e; done)
  rename_i id hb
  split at e<;>try (cases e; done)
  rename_i c;cases e;exact⟨Ext.refl _,fun d _=>⟨rfl,.inl ⟨id,hb,by rw[c]; rfl⟩⟩⟩
 |cells ps =>
  simp only[Ģ] at e
  split at e<;>try (cases e; done)
  rename_i id hb
  split at e<;>try (cases e; done)
  rename_i cs c;obtain⟨l,t1⟩:=nA e;exact⟨l,fun d b=>⟨t1 d b,.inl ⟨id,hb,by rw[c]; exact⟨_,rfl⟩⟩⟩⟩
 |rowc t =>
  simp only[Ģ] at e
  split at e<;>try (cases e; done)
  ·rename_i id hb
   split at e<;>try (cases e; done)
   rename_i t' g xs c
   split at e<;>try (cases e; done)
   cases e;refine⟨vE _ _,fun d b=>?_⟩;have hd:=Ą b.cons;simp only[rest,nQ,hd];exact⟨by simp,.inl ⟨id,hb,by rw[c]; rfl⟩⟩
  ·rename_i hb;cases e;refine⟨vE _ _,fun d b=>?_⟩;have hd:=Ą b.cons;simp only[rest,nQ,hd];exact⟨by simp,.inr (.inl ⟨hb,t,rfl⟩)⟩
 |rowf t g =>
  simp only[Ģ] at e
  split at e<;>try (cases e; done)
  rename_i id hb
  split at e<;>try (cases e; done)
  rename_i t' g' xs c
  split at e<;>try (cases e; done)
  split at e<;>try (cases e; done)
  rename_i o _;subst o;cases e;refine⟨vE _ _,fun d b=>?_⟩;have hd:=Ą b.cons;simp only[rest,nQ,hd];exact⟨by simp,.inl ⟨id,hb,by rw[c]; rfl⟩⟩
 |rowv t =>
  simp only[Ģ] at e
  split at e<;>try (cases e; done)
  ·rename_i id hb
   split at e<;>try (cases e; done)
   rename_i t' g xs c
   split at e<;>try (cases e; done)
   cases e;refine⟨sc _ _,fun d b=>?_⟩;have hd:=Ą b.vars;simp only[rest,nQ,hd];exact⟨by simp,.inl ⟨id,hb,by rw[c]; rfl⟩⟩
  ·rename_i hb;cases e;refine⟨sc _ _,fun d b=>?_⟩;have hd:=Ą b.vars;simp only[rest,nQ,hd];exact⟨by simp,.inr (.inl ⟨hb,t,rfl⟩)⟩
 |mapc k v =>
  simp only[Ģ] at e
  split at e<;>try (cases e; done)
  rename_i id hb
  split at e<;>try (cases e; done)
  rename_i f m es c
  split at e<;>try (cases e; done)
  cases e;refine⟨vE _ _,fun d b=>?_⟩;have hd:=Ą b.cons;simp only[rest,nQ,hd];exact⟨by simp,.inl ⟨id,hb,by rw[c]; rfl⟩⟩
 |mapv k v =>
  simp only[Ģ] at e
  split at e<;>try (cases e; done)
  rename_i id hb
  split at e<;>try (cases e; done)
  rename_i f m es c
  split at e<;>try (cases e; done)
  cases e;refine⟨sc _ _,fun d b=>?_⟩;have hd:=Ą b.vars;simp only[rest,nQ,hd];exact⟨by simp,.inl ⟨id,hb,by rw[c]; rfl⟩⟩
 |deepc k =>
  simp only[Ģ] at e
  split at e<;>try (cases e; done)
  ·rename_i id hb
   split at e<;>try (cases e; done)
   rename_i f g xss c
   split at e<;>try (cases e; done)
   cases e;refine⟨vE _ _,fun d b=>?_⟩;have hd:=Ą b.cons;simp only[rest,nQ,hd];exact⟨by simp,.inl ⟨id,hb,by rw[c]; rfl⟩⟩
  ·rename_i hb;cases e;refine⟨vE _ _,fun d b=>?_⟩;have hd:=Ą b.cons;simp only[rest,nQ,hd];exact⟨by simp,.inr (.inr ⟨hb,k,rfl⟩)⟩
 |deepv k =>
  simp only[Ģ] at e
  split at e<;>try (cases e; done)
  ·rename_i id hb
   split at e<;>try (cases e; done)
   rename_i f g xss c
   split at e<;>try (cases e; done)
   cases e;refine⟨sc _ _,fun d b=>?_⟩;have hd:=Ą b.vars;simp only[rest,nQ,hd];exact⟨by simp,.inl ⟨id,hb,by rw[c]; rfl⟩⟩
  ·rename_i hb;cases e;refine⟨sc _ _,fun d b=>?_⟩;have hd:=Ą b.vars;simp only[rest,nQ,hd];exact⟨by simp,.inr (.inr ⟨hb,k,rfl⟩)⟩
 |fns es =>
  simp only[Ģ] at e
  split at e<;>try (cases e; done)
  rename_i id hb
  split at e<;>try (cases e; done)
  rename_i j c;obtain⟨l,r,v1,_⟩:=mB (ν:=fun _=>undef) (w:=default) (h':=[]) es j [] M M1 e;exact⟨l,fun d b=>⟨pb r v1,.inl ⟨id,hb,by rw[c]; exact⟨_,rfl⟩⟩⟩⟩
 |acc t =>
  simp only[Ģ] at e
  split at e<;>try (cases e; done)
  rename_i id hb
  split at e<;>try (cases e; done)
  rename_i t' xs c
  split at e<;>try (cases e; done)
  cases e;refine⟨sc _ _,fun d b=>?_⟩;have hd:=Ą b.vars;simp only[rest,nQ,hd];exact⟨by simp,.inl ⟨id,hb,by rw[c]; rfl⟩⟩
 |itr =>
  simp only[Ģ] at e
  split at e<;>try (cases e; done)
  rename_i id hb
  split at e<;>try (cases e; done)
  rename_i s q c;cases e;refine⟨sc _ _,fun d b=>?_⟩;have hd:=Ą b.vars;simp only[rest,nQ,hd];exact⟨by simp,.inl ⟨id,hb,by rw[c]; rfl⟩⟩
def WX (H:HR ν h w) {p:kf} {i id:Nat} {M M1:Mt} {cs:y5 AV} (e:Ģ h p i M=some M1) (hb:ε M.bd i=some (.at_ id)) (b:lkB h id=.cells cs) {d:Mt} (j:Ext M1 d) (F:Fin ν h w d h') {us:y5 Value} (f:í (VRc ν h w) cs us) :
 ∃c,(nQ p (rest d M)).1=.cells c/\í (VRc (νb d.bd ν) h' w) c us:=by
 cases p with
 |cells ps =>
  simp only[Ģ,hb,b] at e;exact⟨_,rfl,yP H e d j F f⟩
 |dead=>simp[Ģ,hb,b] at e
 |rowc t=>simp[Ģ,hb,b] at e
 |rowf t g=>simp[Ģ,hb,b] at e
 |rowv t=>simp[Ģ,hb,b] at e
 |mapc k v=>simp[Ģ,hb,b] at e
 |mapv k v=>simp[Ģ,hb,b] at e
 |deepc k=>simp[Ģ,hb,b] at e
 |deepv k=>simp[Ģ,hb,b] at e
 |acc t=>simp[Ģ,hb,b] at e
 |itr=>simp[Ģ,hb,b] at e
 |fns es=>simp[Ģ,hb,b] at e
def Ul {p:kf} {i id:Nat} {M M1:Mt} {es:y5 (ByteArray×AV)} (e:Ģ h p i M=some M1) (hb:ε M.bd i=some (.at_ id)) (b:lkB h id=.fns es) {d:Mt} (j:Ext M1 d) (F:Fin ν h w d h') {ms:y5 MapEntry} (f:Mi ν h w es ms) :
 ∃c,(nQ p (rest d M)).1=.fns c/\Mi (νb d.bd ν) h' w c ms:=by
 cases p with
 |fns es0 =>
  simp only[Ģ,hb,b] at e;exact⟨_,rfl,(mB es0 es ms M M1 e).2.2.2 d j F f⟩
 |cells ps=>simp[Ģ,hb,b] at e
 |dead=>simp[Ģ,hb,b] at e
 |rowc t=>simp[Ģ,hb,b] at e
 |rowf t g=>simp[Ģ,hb,b] at e
 |rowv t=>simp[Ģ,hb,b] at e
 |mapc k v=>simp[Ģ,hb,b] at e
 |mapv k v=>simp[Ģ,hb,b] at e
 |deepc k=>simp[Ģ,hb,b] at e
 |deepv k=>simp[Ģ,hb,b] at e
 |acc t=>simp[Ģ,hb,b] at e
 |itr=>simp[Ģ,hb,b] at e
def vt (p:kf) (ps:y5 kf) (I:It):vS (p::ps) I=((nQ p I).1::(vS ps (nQ p I).2).1,(vS ps (nQ p I).2).2):=rfl
def oT:∀(ps:y5 kf) (I:It),(vS ps I).1.length=ps.length
 |[],_=>rfl
 |p::ps,I=>by rw[vt]; simp[oT ps]
def qW:∀{ps:y5 kf} {i:Nat} {M M1:Mt},CE h ps i M=some M1->Ext M M1/\∀b,Ext M1 b->∀k,k<ps.length ->
 (∃id,ε b.bd (i+k)=some (.at_ id)/\kin (lkB h id) (lkB (vS ps (rest b M)).1 k))\/(ε b.bd (i+k)=some .new/\∃t,lkB (vS ps (rest b M)).1 k=.row t 0 false [])\/(ε b.bd (i+k)=some .newd/\∃q,lkB (vS ps (rest b M)).1 k=.deep q 0 [])
 |[],i,M,M1,e=>by cases e; exact⟨Ext.refl _,fun b _ k l=>by simp at l⟩
 |p::ps,i,M,M1,e=>by
  simp only[CE] at e
  split at e<;>try (cases e; done)
  rename_i s r;obtain⟨j,t1⟩:=xA r;obtain⟨g,t2⟩:=qW e;refine⟨j.trans g,fun b f k l=>?_⟩;obtain⟨o,m⟩:=t1 b (g.trans f);rw[vt,o]
  cases k with
  |zero =>
   rcases m with⟨id,d,c⟩|⟨d,c⟩|⟨d,c⟩
   ·exact .inl ⟨id,(j.trans (g.trans f)).bd _ _ d,c⟩
   ·exact .inr (.inl ⟨(j.trans (g.trans f)).new _ d,c⟩)
   ·exact .inr (.inr ⟨(j.trans (g.trans f)).newd _ d,c⟩)
  |succ k =>
   have:=t2 b f k (by simpa using l);rw[show i+(k+1)=i+1+k by omega];exact this
def NC (H:HR ν h w):∀{ps:y5 kf} {i:Nat} {M M1:Mt},CE h ps i M=some M1->∀c,Ext M1 c->Fin ν h w c h'->∀k id cs us,k<ps.length->ε c.bd (i+k)=some (.at_ id)->lkB h id=.cells cs->í (VRc ν h w) cs us ->
 ∃j,lkB (vS ps (rest c M)).1 k=.cells j/\í (VRc (νb c.bd ν) h' w) j us
 |[],i,M,M1,e,c,_,_,k,_,_,_,l,_,_,_=>by simp at l
 |p::ps,i,M,M1,e,c,f,F,k,id,cs,us,l,hb,r,q=>by
  simp only[CE] at e
  split at e<;>try (cases e; done)
  rename_i x s;obtain⟨m,t1⟩:=xA s;obtain⟨g,t2⟩:=qW e;obtain⟨u,t⟩:=t1 c (g.trans f);rw[vt,u]
  cases k with
  |zero =>
   rcases t with⟨v,d,o⟩|⟨d,o⟩|⟨d,o⟩
   ·have:=(m.trans (g.trans f)).bd _ _ d;have b:ε c.bd i=some (.at_ id):=hb;rw[this] at b;cases b;exact WX H s d r (g.trans f) F q
   ·have:=(m.trans (g.trans f)).new _ d;have b:ε c.bd i=some (.at_ id):=hb;rw[this] at b;cases b
   ·have:=(m.trans (g.trans f)).newd _ d;have b:ε c.bd i=some (.at_ id):=hb;rw[this] at b;cases b
  |succ k=>exact NC H e c f F k id cs us (by simpa using l) (by rw[show i+1+k=i+(k+1) by omega]; exact hb) r q
def Jj:∀{ps:y5 kf} {i:Nat} {M M1:Mt},CE h ps i M=some M1->∀c,Ext M1 c->Fin ν h w c h'->∀k id es ms,k<ps.length->ε c.bd (i+k)=some (.at_ id)->lkB h id=.fns es->Mi ν h w es ms ->
 ∃g,lkB (vS ps (rest c M)).1 k=.fns g/\Mi (νb c.bd ν) h' w g ms
 |[],i,M,M1,e,c,_,_,k,_,_,_,l,_,_,_=>by simp at l
 |p::ps,i,M,M1,e,c,f,F,k,id,es,ms,l,hb,r,q=>by
  simp only[CE] at e
  split at e<;>try (cases e; done)
  rename_i x s;obtain⟨m,t1⟩:=xA s;obtain⟨j,t2⟩:=qW e;obtain⟨u,t⟩:=t1 c (j.trans f);rw[vt,u]
  cases k with
  |zero =>
   rcases t with⟨v,d,o⟩|⟨d,o⟩|⟨d,o⟩
   ·have:=(m.trans (j.trans f)).bd _ _ d;have b:ε c.bd i=some (.at_ id):=hb;rw[this] at b;cases b;exact Ul s d r (j.trans f) F q
   ·have:=(m.trans (j.trans f)).new _ d;have b:ε c.bd i=some (.at_ id):=hb;rw[this] at b;cases b
   ·have:=(m.trans (j.trans f)).newd _ d;have b:ε c.bd i=some (.at_ id):=hb;rw[this] at b;cases b
  |succ k=>exact Jj e c f F k id es ms (by simpa using l) (by rw[show i+1+k=i+(k+1) by omega]; exact hb) r q
def AE:∀{l:y5 Bd} {i id:Nat},ε l i=some (.at_ id)->id∈DF l
 |[],_,_,h=>by cases h
 |x::l,0,id,h=>by
  simp only[ε,Option.some.injEq] at h;subst h; simp[DF]
 |x::l,i+1,id,h=>by
  have:=AE (l:=l) (i:=i) (id:=id) h
  cases x<;>simp[DF,this]
def C0:∀{l:y5 Bd} {i j id:Nat},distinct (DF l)=true->ε l i=some (.at_ id)->ε l j=some (.at_ id)->i=j
 |[],_,_,_,_,h,_=>by cases h
 |x::l,0,0,_,_,_,_=>rfl
 |x::l,0,j+1,id,hd,b,h2=>by
  simp only[ε,Option.some.injEq] at b;subst b;simp only[DF,distinct,bZ] at hd;have:=AE (l:=l) (i:=j) (id:=id) h2;simp[this] at hd
 |x::l,i+1,0,id,hd,b,h2=>by
  simp only[ε,Option.some.injEq] at h2;subst h2;simp only[DF,distinct,bZ] at hd;have:=AE (l:=l) (i:=i) (id:=id) b;simp[this] at hd
 |x::l,i+1,j+1,id,hd,b,h2=>by
  have c:distinct (DF l)=true:=by
   cases x<;>simp only[DF,distinct,bZ] at hd<;>first|exact hd|exact hd.2
  rw[C0 (l:=l) c b h2]
def TX {pin n i:Nat} (hi:i<pin) (d:pin<=n):ε (xo pin n) i=some (.at_ i):=by
 have b:∀(l:y5 Bd) (k:Nat),ε l k=l[k]?:=by
  intro l
  induction l with
  |nil=>intro k; simp[ε]
  |cons x l c=>intro k; cases k with
   |zero=>rfl
   |succ k=>simpa[ε] using c k
 rw[b,xo,d9,fP (by omega)];simp[hi]
def B3:∀{pin:Nat},XP h pin=true->∀i,i<pin->(∀t g xs,lkB h i=.row t g false xs->g=0)/\∀k g xss,lkB h i=.deep k g xss->g=0
 |0,_,i,hi=>by omega
 |pin+1,f,i,hi=>by
  have b:XP h pin=true/\(∀t g xs,lkB h pin=.row t (g+1) false xs->False)/\∀k g xss,lkB h pin=.deep k (g+1) xss->False:=by
   simp only[XP] at f
   split at f<;>try (cases f; done)
   rename_i d c;exact⟨f,fun t g xs e=>d _ _ _ e,fun k g xss e=>c _ _ _ e⟩
  rcases fR.1 hi with l|rfl
  ·exact B3 b.1 i l
  ·refine⟨fun t g xs j=>?_,fun k g xss j=>?_⟩
   ·cases g with
    |zero=>rfl
    |succ g=>exact(b.2.1 _ _ _ j).elim
   ·cases g with
    |zero=>rfl
    |succ g=>exact(b.2.2 _ _ _ j).elim
def F9:∀(l:y5 AV) (n k:Nat),lk (l++List.replicate n .any) k=lk l k
 |[],0,_=>rfl
 |[],n+1,0=>rfl
 |[],n+1,k+1=>by simpa[List.replicate_succ,ZA,ZB,Zz] using F9 [] n k
 |x::l,n,0=>rfl
 |x::l,n,k+1=>by simpa[ZA,ZB,Zz] using F9 l n k
def CW:∀(ps:y5 Pat) (I:It),(B0 ps I).1.length=ps.length
 |[],_=>rfl
 |p::ps,I=>by rw[qz]; simp[CW ps]
def jI:Zn:=by
 intro T pin cs vs S p v ν a w e H;unfold lr at e
 split at e<;>try (cases e; done)
 rename_i hc;simp only[bZ,decide_eq_true_eq] at hc;obtain⟨c1,c2,c3,c4⟩:=hc
 split at e<;>try (cases e; done)
 rename_i O Z
 split at e<;>try (cases e; done)
 rename_i M hH
 split at e<;>try (cases e; done)
 rename_i hd;simp only[bZ,cr] at hd;obtain⟨d1,d2⟩:=hd
 split at e<;>try (cases e; done)
 rename_i p' v' hp hv;cases e;have ep:P9 cs p=M.cons:=Ru cs _ _ hp;have ev:P9 vs v=M.vars:=Ru vs _ _ hv;obtain⟨eL,tL⟩:=xz Z;obtain⟨eH,Y⟩:=qW hH
 -- the state of the pattern
 have hI0:({cons:=P9 cs p,vars:=P9 vs v}:It)=rest M {bd:=xo pin T.heap.length,cons:=[],vars:=[],freed:=[]}:=by
  simp[rest,ep,ev]
 have L:â T cs vs p v={t:=(B0 T.slots (rest M {bd:=xo pin T.heap.length,cons:=[],vars:=[],freed:=[]})).1++List.replicate (T.n-T.slots.length) .any,h:=(vS T.heap (rest M O)).1}:=by
  unfold â;rw[hI0];have:=tL M eH;show(St.mk _ _)=_;rw[show(B0 T.slots (rest M {bd:=xo pin T.heap.length,cons:=[],vars:=[],freed:=[]})).2=rest M O from this]
 rw[L]
 have y:M.bd.length=T.heap.length:=by rw[eH.len,eL.len]; simp[xo]
 have I:(vS T.heap (rest M O)).1.length=T.heap.length:=oT _ _
 have F:Fin ν S.h w M (vS T.heap (rest M O)).1:=by
  refine⟨fun i id hb=>?_,fun i hb=>?_,fun i hb=>?_,fun i h1 h2 h3=>?_,fun id hid i hb=>?_,fun i j id=>C0 d1⟩
  ·have hi:i<T.heap.length:=by rw[<-y]; exact rN hb
   rcases Y M (Ext.refl _) i hi with⟨E,d,l⟩|⟨d,_⟩|⟨d,_⟩
   ·rw[cF,hb] at d; cases d; exact l
   ·rw[cF,hb] at d; cases d
   ·rw[cF,hb] at d; cases d
  ·have hi:i<T.heap.length:=by rw[<-y]; exact rN hb
   rcases Y M (Ext.refl _) i hi with⟨E,d,l⟩|⟨d,l⟩|⟨d,l⟩
   ·rw[cF,hb] at d; cases d
   ·exact l
   ·rw[cF,hb] at d; cases d
  ·have hi:i<T.heap.length:=by rw[<-y]; exact rN hb
   rcases Y M (Ext.refl _) i hi with⟨E,d,l⟩|⟨d,l⟩|⟨d,l⟩
   ·rw[cF,hb] at d; cases d
   ·rw[cF,hb] at d; cases d
   ·exact l
  ·rcases cW i T.heap.length with hi|hi
   ·rcases Y M (Ext.refl _) i hi with⟨E,d,l⟩|⟨d,l⟩|⟨d,l⟩
    ·rw[cF] at d; exact absurd d (h1 E)
    ·rw[cF] at d; exact absurd d h2
    ·rw[cF] at d; exact absurd d h3
   ·exact sL _ _ (by rw[I]; exact hi)
  ·have:=d2 id hid;have hm:=AE hb;simp[hm] at this
 have hHR:HR (νb M.bd ν) (vS T.heap (rest M O)).1 w:=by
  refine⟨fun i=>?_,fun i j b hi hj A hbj=>?_,H.heap.ghlt,fun i b z hb hg=>?_,H.heap.glob,fun b hb Z=>H.heap.globL b hb (F.subL b Z)⟩
  rotate_left 2
  ·obtain⟨id,d,l⟩:=F.subL b ⟨i,z,hb⟩;exact H.heap.ghne id b d l hg
  ·cases hb:ε M.bd i with
   |none=>rw[F.out i (by simp[hb]) (by simp[hb]) (by simp[hb])]; trivial
   |some x =>
    cases x with
    |open_=>rw[F.out i (by simp[hb]) (by simp[hb]) (by simp[hb])]; trivial
    |newd =>
     obtain⟨k,f⟩:=F.newd i hb;rw[f];exact⟨none,0,[],Rk hb,bX _,fq _ _,.inl ⟨rfl,rfl⟩,trivial⟩
    |new =>
     obtain⟨t,ht⟩:=F.new i hb;rw[ht];exact⟨none,0,Vx hb,bX _,.inl ⟨rfl,rfl⟩⟩
    |at_ id =>
     have f:=F.at_ i id hb;have B:=H.heap.blk id
     cases z:lkB S.h id with
     |dead=>rw[z] at f; rw[show lkB _ i=_ from f]; trivial
     |cells c =>
      rw[z] at B;obtain⟨b,X,e',d,l,D⟩:=B
      have hi:i<T.heap.length:=by rw[<-y]; exact rN hb
      obtain⟨cs',G,J⟩:=NC H.heap hH M (Ext.refl _) F i id c X.toList hi (by rw[cF]; exact hb) z D;rw[G];exact⟨b,X,e',(gE hb).trans d,l,J⟩
     |row t g fz xs =>
      rw[z] at f B
      cases fz with
      |true =>
       rw[show lkB _ i=_ from f];show CR w _ (.slice t) xs [_];rw[gE hb];exact CR.mono F.sub B
      |false =>
       rw[show lkB _ i=_ from f];obtain⟨base,cap,d,l,D⟩:=B;refine⟨base,cap,(gE hb).trans d,l,?_⟩;rcases D with D|⟨b,off,c,e',G,J,R,q7⟩
       ·exact .inl D
       ·refine .inr ⟨b,off,c,e',G,J,R,fun j x U=>?_⟩;obtain⟨us,q8,q9⟩:=q7 j x U;exact⟨us,CR.mono F.sub q8,q9⟩
     |map k u es =>
      rw[z] at f B;rw[show lkB _ i=_ from f];obtain⟨b,r,C,d,l,D,G⟩:=B;refine⟨b,r,C,(gE hb).trans d,l,D,fun j x U=>?_⟩;obtain⟨m,us,J,R,q7,q8⟩:=G j x U;exact⟨m,us,J,CR.mono F.sub R,CR.mono F.sub q7,q8⟩
     |fns es =>
      rw[z] at B;obtain⟨b,r,C,d,l,D⟩:=B
      have hi:i<T.heap.length:=by rw[<-y]; exact rN hb
      obtain⟨es',G,J⟩:=Jj hH M (Ext.refl _) F i id es r.toList hi (by rw[cF]; exact hb) z D;rw[G];exact⟨b,r,C,(gE hb).trans d,l,J⟩
     |iter s q =>
      rw[z] at f B;rw[show lkB _ i=_ from f];obtain⟨b,d,l⟩:=B;exact⟨b,(gE hb).trans d,l⟩
     |deep k g xss =>
      rw[z] at f B;rw[show lkB _ i=_ from f];obtain⟨base,cap,us,d,l⟩:=B;exact⟨base,cap,us,(gE hb).trans d,l⟩
     |acc t xs =>
      rw[z] at f B;rw[show lkB _ i=_ from f];obtain⟨us,d,l,D,G⟩:=B;refine⟨us,(gE hb).trans d,by rw[gE hb]; exact l,D,?_⟩;rw[gE hb];exact É.st _ _ _ _ _ _ G ⟨rfl,rfl,rfl,bX _,fun b _ hn U=>hn (F.sub b U),fun b o ho _ _=>ho,fun b o ho _ _=>ho,fun _ _ _=>rfl⟩
  ·have W:∀i,(lkB (vS T.heap (rest M O)).1 i).live=true->Ĝ (νb M.bd ν i) b->∃id,ε M.bd i=some (.at_ id)/\(lkB S.h id).live=true/\Ĝ (ν id) b:=fun i hi A=>by
    cases hb:ε M.bd i with
    |none=>rw[F.out i (by simp[hb]) (by simp[hb]) (by simp[hb])] at hi; cases hi
    |some x =>
     cases x with
     |open_=>rw[F.out i (by simp[hb]) (by simp[hb]) (by simp[hb])] at hi; cases hi
     |new=>simp only[νb,hb] at A; cases A
     |newd =>
      simp only[νb,hb] at A;obtain⟨u,hu,A⟩:=A;simp at hu;subst hu;cases A
     |at_ id =>
      refine⟨id,rfl,?_,by simpa[νb,hb] using A⟩;have f:=F.at_ i id hb
      cases V:lkB S.h id with
      |dead=>rw[V] at f; rw[show lkB _ i=_ from f] at hi; cases hi
      |cells=>rfl
      |map=>rfl
      |deep=>rfl
      |acc=>rfl
      |fns=>rfl
      |iter=>rfl
      |row t g fz xs =>
       cases fz with
       |false=>rfl
       |true=>rw[V] at f; rw[show lkB _ i=_ from f] at hi; cases hi
   obtain⟨id,d,l,D⟩:=W i hi A;obtain⟨E,G,J,R⟩:=W j hj hbj;have:=H.heap.inj id E b l J D R;subst this;exact F.inj i j id d G
 have K:∀i,i<pin->ε M.bd i=some (.at_ i):=fun i hi=>(eL.trans eH).bd i i (TX hi c1);refine⟨νb M.bd ν,⟨H.defers,?_,fun i=>?_,hHR⟩,⟨rfl,rfl,rfl,bX _,fun b _ hb=>⟨rfl,fun hb'=>hb (F.subL b hb')⟩,fun i hi=>?_⟩,by rw[I]; exact c1,fun i hi N=>?_⟩
 ·have:=H.len;simp only[b7,eZ,CW];omega
 ·simp only[F9];exact NB H.heap Z M eH F (fun k=>a.tmps.getD k undef) (fun k=>H.tmps k) i
 ·have hb:=K i hi;have f:=F.at_ i i hb
  cases z:lkB S.h i with
  |dead=>trivial
  |cells c=>rw[z] at f; exact⟨f,gE hb⟩
  |row t g fz xs =>
   rw[z] at f
   cases fz with
   |true=>exact⟨g,true,xs,f,bX _,fun _=>⟨gE hb,rfl⟩⟩
   |false =>
    have hg:=(B3 c4 i hi).1 t g xs z;exact⟨0,false,xs,f,by omega,fun _=>⟨gE hb,rfl⟩⟩
  |map k u es=>rw[z] at f; exact⟨⟨es,f⟩,gE hb⟩
  |deep k g xss =>
   rw[z] at f;have hg:=(B3 c4 i hi).2 k g xss z;exact⟨0,xss,f,by omega,fun _=>⟨gE hb,rfl⟩⟩
  |acc t xs=>rw[z] at f; exact⟨xs,f⟩
  |fns es=>rw[z] at f; exact⟨f,gE hb⟩
  |iter s q=>rw[z] at f; exact⟨⟨q,f⟩,gE hb⟩
 ·have f:=F.at_ i i (K i hi);rw[N] at f;exact f
end
end Go.Am
end

noncomputable section
namespace Go.Am
variable [Globs] [É]
section
variable {ρ:Type} {ν ν':Nat->Value} {h h':y5 Blk} {w w':World} {P:Program}
def Ν (w:World) (G:Nat->Prop) (t:Ty) (x:Val t) (v:Value):Prop:=∃us,CR w G t x us/\v=s9 t us
def AT (w:World) (G:Nat->Prop):(l:y5 Ty)->(t:Ty)->Val (tys t l)->y5 Value->Prop
 |[],t,x,vs=>∃v,vs=[v]/\Ν w G t x v
 |u::l,t,x,vs=>∃v b,vs=v::b/\Ν w G t (x:Val t×Val (tys u l)).1 v/\AT w G l u (x:Val t×Val (tys u l)).2 b
def AL (w:World) (G:Nat->Prop):(l:y5 Ty)->Val (tyL l)->y5 Value->Prop
 |[],_,vs=>vs=[]
 |t::l,x,vs=>AT w G l t x vs
def RR (w:World) (G:Nat->Prop):(l:y5 Ty)->Val (tyL l)->Value->Prop
 |[],_,u=>u=.tuple #[]
 |[t],x,u=>Ν w G t x u
 |t::u'::l,x,u=>∃vs,u=.tuple vs/\AT w G (u'::l) t x vs.toList
def Þ (P:Program) (f:Nat) (p:Č):Prop :=
 ∀(G:Nat->Prop) (x:Val (tyL p.ts)) (y:Val (tyL p.rs)),p.F x=some y->∀(w:World) (vals:y5 Value),(∀b,G b->b<w.heap.size)->Globs.Φ w->AL w G p.ts x vals ->
  (∃fn c,P.funcs[f]?=some fn/\fn.body=some c) /\
  CallsIn Fence.wide 0 P f vals.toArray w fun e w'=>∃u,e=.returned u/\RR w' G p.rs y u/\(∀b,b<w.heap.size->w'.heap[b]?=w.heap[b]?)/\w.heap.size<=w'.heap.size/\w'.os=w.os/\w'.tape=w.tape/\w'.output=w.output
def LR {a:AV} {vs:y5 AV} (e:Ĥ a=some vs):jZ a=vs:=by
 cases a<;>simp only[Ĥ,Option.some.injEq,reduceCtorEq] at e<;>exact e
def uM {G:Nat->Prop} {t:Ty} {x:Val t} {a:AV} {v:Value} {vs:y5 AV} (d:(JP a==t.isAgg)=true) (g:Ĥ a=some vs) (i:VR ν h w a v)
 (q:∀c∈jZ a,∀u,VR1 ν h w c u->VRs w G (ñ h c) u) (e:Ô t (vs.map (ñ h))=some x):Ν w G t x v:=by
 have f:=i.cells g;have h2:í (VRs w G) (vs.map (ñ h)) v.cells.toList:=í.map_left (aux vs _ f fun c m u j=>q c (by rw[LR g]; exact m) u j.1);refine⟨_,ď e h2,?_⟩
 cases ha:a.isAgg with
 |true =>
  cases a<;>try cases ha
  obtain⟨us,rfl,_⟩:=i
  have:t.isAgg=true:=by simpa[JP] using d
  simp[s9,this,Value.cells]
 |false =>
  have r:JP a=false:=by cases a<;>first|rfl|cases ha
  have l:t.isAgg=false:=by rw[r] at d; simpa using d
  have k:a.isTup=false:=by cases a<;>first|rfl|cases g
  have s:=(i.one ha k).oneCell g;simp[s9,l,nZ s]
where
 aux {w:World} {G:Nat->Prop} {ν:Nat->Value} {h:y5 Blk} (vs:y5 AV) (us:y5 Value) (f:í (VRc ν h w) vs us) (o:∀c∈vs,∀u,VRc ν h w c u->VRs w G (ñ h c) u):í (fun c b=>VRs w G (ñ h c) b) vs us:=by
  induction vs generalizing us with
  |nil=>cases us with
   |nil=>trivial
   |cons=>exact f.elim
  |cons c vs p=>cases us with
   |nil=>exact f.elim
   |cons u us=>exact⟨o c (by simp) u f.1,p us f.2 fun c m u j=>o c (by simp[m]) u j⟩
def L9 (H:HR ν h w) {G:Nat->Prop} {t:Ty} {x:Val t} {a:AV} {v:Value} (p:VR ν h w a v)
 (K:∀c∈jZ a,∀u,VR1 ν h w c u->VRs w G (ñ h c) u) (hb:∀id cs,a=.box id 0->lkB h id=.cells cs->(∀b,Ĝ (ν id) b->¬G b)/\∀c∈cs,∀u,VR1 ν h w c u->VRs w G (ñ h c) u) (hd:∀id g,a=.dp id g->(lkB h id).live=true->∀b,Ĝ (ν id) b->¬G b) (e:ZD h t a=some x):Ν w G t x v:=by
 cases B:(match t with|.ptr _=>true|_=>false) with
 |false =>
  by_cases m:∃id g,a=.dp id g
  ·obtain⟨id,g,rfl⟩:=m
   have d:(match lkB h id with
    |.deep k g' xss=>match g==g' with
     |true=>match decEq (Ty.slice (.slice (.int k))) t with
      |isTrue e=>some (pz (F:=Val) e xss)
      |isFalse _=>none
     |false=>none
    |_=>none)=some x:=by
    cases t<;>first|exact e|cases B
   split at d<;>try (cases d; done)
   rename_i k g' xss j
   split at d<;>try (cases d; done)
   rename_i R
   split at d<;>try (cases d; done)
   rename_i A _;subst A;cases d;obtain⟨V,k2,W,J,l,_,N⟩:=p;rw[j] at l; cases l;have i:=MA H j (N (by simpa using R)) (hd id g rfl (by rw[j]; rfl));exact⟨[v],i,rfl⟩
  have d:(match JP a==t.isAgg with|true=>(match Ĥ (Ry h a) with|some cs=>Ô t cs|none=>none)|false=>none)=some x:=by
   have O:∀id g,a≠.dp id g:=fun id g q=>m ⟨id,g,q⟩
   cases t<;>first|(cases B; done)|(cases a<;>first|exact e|exact absurd rfl (O _ _))
  split at d<;>try (cases d; done)
  rename_i D
  split at d<;>try (cases d; done)
  rename_i cs f;obtain⟨vs,z,rfl⟩:=Bo f;exact uM D z p K d
 |true =>
  cases t<;>try cases B
  rename_i u;simp only[ZD] at e
  split at e<;>try (cases e; done)
  ·rename_i id
   split at e<;>try (cases e; done)
   rename_i cs j;obtain⟨U,b,z,h2,I⟩:=p.one rfl rfl;have L:=H.blk id;rw[j] at L;obtain⟨X,c,d,s,r,E⟩:=L;rw[h2] at s; cases s;obtain⟨T,f⟩:=hb id cs rfl j;have i:CR w G u x c.toList:=ď e (í.map_left (uM.aux cs _ E fun c S u M=>f c S u M.1));refine⟨[v],⟨b,0,c.toList,by rw[I],T b (by rw[h2]; rfl),Ù r,i,ę.of_cells r⟩,rfl⟩
  ·rename_i t' y
   split at e<;>try (cases e; done)
   rename_i C _;subst C;cases e;have z:=K _ (by simp[jZ]) v (p.one rfl rfl);obtain⟨b,o,us,h2,I,s,r,E⟩:=z;exact⟨[v],⟨b,o,us,by rw[h2]; rfl,I,s,r,E⟩,rfl⟩
def Hm (H:HR ν h w) {G:Nat->Prop}:∀(l:y5 Ty) (t:Ty) (x:Val (tys t l)) (as:y5 AV) (vs:y5 Value),í (VR ν h w) as vs ->
 (∀a∈as,∀c∈jZ a,∀u,VR1 ν h w c u->VRs w G (ñ h c) u)->(∀a∈as,∀id cs,a=.box id 0->lkB h id=.cells cs->(∀b,Ĝ (ν id) b->¬G b)/\∀c∈cs,∀u,VR1 ν h w c u->VRs w G (ñ h c) u)->(∀a∈as,∀id g,a=.dp id g->(lkB h id).live=true->∀b,Ĝ (ν id) b->¬G b)->L8 h l t as=some x->AT w G l t x vs
 |[],t,x,[],vs,_,_,_,_,e=>by cases e
 |[],t,x,[a],vs,d,f,hb,hd,e=>by
  obtain⟨v,rfl,k⟩:=d.one;exact⟨v,rfl,L9 H k (f a (by simp)) (hb a (by simp)) (hd a (by simp)) e⟩
 |[],t,x,_::_::_,vs,_,_,_,_,e=>by cases e
 |u::l,t,x,[],vs,_,_,_,_,e=>by cases e
 |u::l,t,x,a::as,[],d,_,_,_,e=>d.elim
 |u::l,t,x,a::as,v::vs,d,f,hb,hd,e=>by
  simp only[L8] at e
  split at e<;>try (cases e; done)
  rename_i y j
  split at e<;>try (cases e; done)
  rename_i z i;cases e;exact⟨v,vs,rfl,L9 H d.1 (f a (by simp)) (hb a (by simp)) (hd a (by simp)) j,Hm H l u z as vs d.2 (fun a ha=>f a (by simp[ha])) (fun a ha=>hb a (by simp[ha])) (fun a ha=>hd a (by simp[ha])) i⟩
def Bc (H:HR ν h w) {G:Nat->Prop} {l:y5 Ty} {x:Val (tyL l)} {as:y5 AV} {vs:y5 Value} (d:í (VR ν h w) as vs)
 (f:∀a∈as,∀c∈jZ a,∀u,VR1 ν h w c u->VRs w G (ñ h c) u) (hb:∀a∈as,∀id cs,a=.box id 0->lkB h id=.cells cs->(∀b,Ĝ (ν id) b->¬G b)/\∀c∈cs,∀u,VR1 ν h w c u->VRs w G (ñ h c) u) (hd:∀a∈as,∀id g,a=.dp id g->(lkB h id).live=true->∀b,Ĝ (ν id) b->¬G b) (e:ya h l as=some x):AL w G l x vs:=by
 cases l with
 |nil=>cases as with
  |nil=>exact d.nil_left
  |cons=>cases e
 |cons t l=>exact Hm H l t x as vs d f hb hd e
def Ν.mono {G c:Nat->Prop} (e:∀b,c b->G b) {t:Ty} {x:Val t} {v:Value} (d:Ν w G t x v):Ν w c t x v:=by
 obtain⟨us,f,h2⟩:=d;exact⟨us,CR.mono e f,h2⟩
def B7 {av f:Nat->Prop}:∀{t:Ty} {x:Val t} {us:y5 Value},(flat t x).all vZ=true->CR w av t x us->CR w f t x us
 |.unit,_,_,_,d=>d
 |.bool,_,_,_,d=>d
 |.int _,_,_,_,d=>d
 |.str,_,_,_,d=>d
 |.slice _,_,_,c,_=>by simp[flat,vZ] at c
 |.map _ _,_,_,c,_=>by simp[flat,vZ] at c
 |.ptr _,_,_,c,_=>by simp[flat,vZ] at c
 |.pair a b,x,us,c,d=>by
  simp only[flat,List.all_append,bZ] at c;obtain⟨u1,g,e,i,h2⟩:=d;exact⟨u1,g,e,B7 c.1 i,B7 c.2 h2⟩
def X7 {t:Ty} {x:Val t} (b:plain (enc t x)=true):(flat t x).all vZ=true:=by
 cases t<;>first|exact b|(simp only[enc,plain,vZ] at b; simp[flat,vZ])|(simp[enc,plain,vZ] at b)
def Ν.plain {G e:Nat->Prop} {t:Ty} {x:Val t} {v:Value} (c:plain (enc t x)=true) (b:Ν w G t x v):Ν w e t x v:=by
 obtain⟨us,d,h2⟩:=b;exact⟨us,B7 (X7 c) d,h2⟩
def AT.plain {G e:Nat->Prop}:∀{l:y5 Ty} {t:Ty} {x:Val (tys t l)} {vs:y5 Value},(X8 l t x).all Go.Am.plain=true->AT w G l t x vs->AT w e l t x vs
 |[],t,x,vs,b,⟨v,c,h2⟩=>⟨v,c,h2.plain (by simpa[X8] using b)⟩
 |u::l,t,x,vs,b,⟨v,vs',c,h2,d⟩=>by
  simp only[X8,d8,bZ] at b;exact⟨v,vs',c,h2.plain b.1,AT.plain b.2 d⟩
def M4 {v:AV} (b:v.isTup=false):EH v=Go.Am.plain v:=by cases v<;>first|rfl|cases b
def Cd {t:Ty} {x:Val t}:(enc t x).isTup=false:=by cases t<;>rfl
def RR.plain {G d:Nat->Prop}:∀{l:y5 Ty} {x:Val (tyL l)} {u:Value},EH (Pz l x)=true->RR w G l x u->RR w d l x u
 |[],_,_,_,h=>h
 |[t],x,u,b,h=>Ν.plain ((M4 (Cd (t:=t) (x:=x))).symm.trans b) h
 |t::u'::l,x,u,b,⟨vs,c,h2⟩=>⟨vs,c,h2.plain b⟩
def Ν.VR {t:Ty} {x:Val t} {v:Value} (b:Ν w (Av ν h) t x v):VR ν h w (enc t x) v:=by
 obtain⟨us,c,rfl⟩:=b;exact CZ c
def AT.VR:∀{l:y5 Ty} {t:Ty} {x:Val (tys t l)} {vs:y5 Value},AT w (Av ν h) l t x vs->í (VR ν h w) (X8 l t x) vs
 |[],t,x,_,⟨v,rfl,h2⟩=>⟨h2.VR,trivial⟩
 |u::l,t,x,_,⟨v,vs',rfl,h2,b⟩=>⟨h2.VR,AT.VR b⟩
def GQ:∀{l:y5 Ty} {t:Ty} {x:Val (tys t l)},∀a∈X8 l t x,a.isTup=false
 |[],t,x,a,b=>by simp only[X8,ce] at b; rw[b]; exact Cd
 |u::l,t,x,a,b=>by
  simp only[X8,b9] at b;rcases b with rfl|b
  ·exact Cd
  ·exact GQ a b
def í.VR2:∀{as:y5 AV} {vs:y5 Value},í (VR ν h w) as vs->(∀a∈as,a.isTup=false)->í (VR2 ν h w) as vs
 |[],[],_,_=>trivial
 |a::as,v::vs,b,c=>⟨by rw[<-qK (c a (by simp))]; exact b.1,í.VR2 b.2 fun a ha=>c a (by simp[ha])⟩
 |[],_::_,b,_=>b.elim
 |_::_,[],b,_=>b.elim
def RR.VR:∀{l:y5 Ty} {x:Val (tyL l)} {u:Value},RR w (Av ν h) l x u->VR ν h w (Pz l x) u
 |[],_,_,h=>by cases h; exact⟨#[],rfl,trivial⟩
 |[t],x,u,h=>Ν.VR h
 |t::u'::l,x,u,⟨vs,b,h2⟩=>⟨vs,b,í.VR2 h2.VR GQ⟩
def Bi (P:Program) (g:Nat) (ν:Nat->Value) (h:y5 Blk) (w:World) (vals:y5 Value) (K:AV->y5 Blk->x9 ρ) (r:ρ):Prop :=
 (∃fn c,P.funcs[g]?=some fn/\fn.body=some c) /\
 CallsIn Fence.wide 0 P g vals.toArray w fun e w'=>∃ν' h' v u,e=.returned u/\VR ν' h' w' v u/\HR ν' h' w'/\Ev h.length ν h w ν' h' w'/\h.length<=h'.length/\(∀j,j<h.length->lkB h j=.dead->lkB h' j=.dead)/\K v h'=some r
def SY {c:AV} {u:Value}:∀{as:y5 AV} {h:y5 Blk},HR ν h w->c∈as->EW c=true->VR1 ν h w c u->VRs w (Av ν (vT h as)) (ñ h c) u
 |[],_,_,b,_,_=>by cases b
 |a::as,h,H,b,e,d=>by
  obtain⟨g,f,i⟩:=Gu H a;rcases b9.1 b with rfl|b
  ·exact VRs.mono ((xT as f).2.2) (Gt H d e)
  ·have:=SY (as:=as) f b e (d.ev g)
   rwa [Bp] at this
def T9 {f:Nat} {p:Č} (S:Þ P f p) {b:Bool} {args:y5 AV} {K:AV->y5 Blk->x9 ρ} {r:ρ} (e:Kw b p h args K=some r) (H:HR ν h w) {vals:y5 Value} (C:í (VR ν h w) args vals):Bi P f ν h w vals K r:=by
 unfold Kw at e
 split at e<;>try (cases e; done)
 rename_i x B;simp only[Ã] at e
 split at e<;>try (cases e; done)
 rename_i y O
 -- the call, with what may not be touched
 have call:∀(G:Nat->Prop),(∀b,G b->b<w.heap.size)->AL w G p.ts x vals->∀(h':y5 Blk),HR ν h' w->Ev h.length ν h w ν h' w->h.length<=h'.length->(∀j,j<h.length->lkB h j=.dead->lkB h' j=.dead) ->
  (∀w' u,RR w' G p.rs y u->RR w' (Av ν h') p.rs y u)->K (Pz p.rs y) h'=some r->Bi P f ν h w vals K r:=by
  intro G U J h' A ev z o D T;obtain⟨V,h2⟩:=S G x y O w vals U H.glob J;refine⟨V,h2.mono fun e w' R=>?_⟩;obtain⟨u,rfl,g1,g2,Z,Y,X,W⟩:=R;obtain⟨L,M⟩:=A.grow g2 Z Y X W h.length;exact⟨ν,h',_,u,rfl,(D w' u g1).VR,M,ev.trans L (bX _),z,o,T⟩
 split at e
 ·rename_i E;exact call É.G (fun b hb=>H.ghlt b hb) (Bc H C (fun a _ c _ u m=>IR H m) (fun _ _ id cs _ z=>⟨fun b hb I=>H.ghne id b (by rw[z]; rfl) hb I,fun c _ u m=>IR H m⟩) (fun _ _ id g _ z b hb I=>H.ghne id b z hb I) B) h H (Ev.refl _ _ _ _) (bX _) (fun _ _ hd=>hd) (fun w' u s=>s.plain E) e
 ·split at e
  ·rename_i t
   have d:∀a∈args,Ho a=false:=fun a ha=>by have:=cr.1 t a ha; simpa using this
   refine call (Av ν h) (fun b hb=>H.ltA hb) (Bc H C (fun a ha c l u m=>?_) (fun a ha id cs i _=>?_) (fun a ha id g i=>?_) B) h H (Ev.refl _ _ _ _) (bX _) (fun _ _ hd=>hd) (fun w' u s=>s) e
   ·have q:yc c=false:=by
     have:=d a ha
     cases a<;>first
      |(simp only[jZ,ce] at l; subst l; exact this)
      |(simp only[jZ] at l; simp only[Ho,dK] at this; simpa using this c l)
    have:ñ h c=c:=by cases c<;>first|rfl|cases q
    rw[this]; exact m.data
   ·subst i; cases d _ ha
   ·subst i; cases d _ ha
  ·split at e<;>try (cases e; done)
   rename_i v;simp only[fG,eA] at v;have k:∀a∈args,WQ a=true:=cr.1 v.2;obtain⟨ev,A,N⟩:=xT (args.flatMap jZ) H;refine call (Av ν (vT h (args.flatMap jZ))) (fun b hb=>A.ltA hb) (Bc H C (fun a ha c l u m=>?_) (fun a ha id cs i _=>?_) (fun a ha id g i=>?_) B) _ A ev (by rw[Ũ]; exact bX _) (fun _ _ hd=>Gr _ hd) (fun w' u s=>s) e
   ·refine SY H (cY.2 ⟨a,ha,l⟩) ?_ m;have:=k a ha
    have q:WP c=true:=by
     cases a<;>first
      |(simp only[jZ,ce] at l; subst l; exact this)
      |(simp only[jZ] at l; simp only[WQ,cr] at this; exact this c l)
    cases c<;>first|rfl|cases q
   ·subst i; cases k _ ha
   ·subst i; cases k _ ha
end
end Go.Am
end
