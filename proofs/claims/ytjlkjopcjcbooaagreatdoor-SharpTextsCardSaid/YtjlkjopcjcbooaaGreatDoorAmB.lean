/- lemmas -/
import Derived.Test.YtjlkjopcjcbooaaGreatDoorAmA
import Derived.Laws.StructEq
import Derived.ChangeKeysEq
import Derived.Laws.BytesArg
import Derived.Laws.Strings3
import Derived.Laws.DeepStrings4
import Derived.OrdersIn
import Derived.RangeFuncSeq
import Derived.RangeFuncRecord
import Derived.LoopNIn
set_option linter.all false
noncomputable section
namespace Go.Am
variable [Globs] [È]
section
variable {ν ν':Nat->Value} {h h':th Blk} {w w':World} {P:Program}
def LK {S:St} {a:Act} {t e:TypeId} {n sz:Nat} {ps:Array (Nat×Operand)} {z:AV} {zs cs:th AV} (H:Sim ν S a w) (k:P.underlying t=some (.array n e)) (l:szP P e=some sz)
 (c:((P.info? t).bind (·.zero)).map cv=some z) (f:Ē z=some zs) (o:xg sz (ps.toList.map fun p=>(p.1,ev S.t p.2)) zs=some cs) :
 Ğ P ν S.h w (Instr.build t (ps.map fun(i,x)=>(i,a.eval x))) (.agg cs) S.h:=by
 cases hi:P.info? t with
 |none=>simp[hi] at c
 |some i =>
 cases b:i.zero with
 |none=>simp[hi,b] at c
 |some d =>
 simp only[hi,b,cz,ce,Option.some.injEq] at c;subst c;have q:=(JI (ν:=ν) (h:=S.h) (w:=w) d).cells f;obtain⟨c',r,h2⟩:=E7 (ν:=ν) (h:=S.h) (w:=w) (sz:=sz) (places:=fun j=>some (j*sz,sz)) (fun j=>rfl) _ _ zs cs d.cells o (uA H ps.toList) q;refine Ğ.still H.heap (u:=.agg c') ?_ ⟨c',rfl,h2⟩
 have m:(ps.map fun(x:Nat×Operand)=>(x.1,a.eval x.2)).toList=ps.toList.map fun p=>(p.1,a.eval p.2):=by simp
 simp only[Instr.build,Sem.run_bind,zeroValue,typeInfo,run_program,Result.andThen_ok,hi,b,Sem.run_pure,run_underlying k,gP l]
 have g:Instr.fill (fun j=>some (j*sz,sz)) d.cells (ps.map fun(x:Nat×Operand)=>(x.1,a.eval x.2)).toList=some c':=by rw[m]; exact r
 erw [g]
 rfl
def Qo {t:TypeId} {agg:Bool} {n o:Nat} {cs f:th AV} {v:AV} {us:Array Value} (H:HR ν h w) (m:ldP P t=some (agg,n)) (p:zq cs o n=some f) (k:mkv agg f=some v) (q:ê (VRc ν h w) cs us.toList) :
 Ğ P ν h w (part t us o) v h:=by
 obtain⟨d,hd,rfl,i⟩:=Gu m;obtain⟨x,h2⟩:=iM p
 have b:ê (VRc ν h w) f ((us.toList.drop o).take n):=by rw[x]; exact(q.drop o).take n
 obtain⟨s,r⟩:=VD k b;refine Ğ.still H ?_ s;unfold part;simp only[Sem.run_bind,oQ hd,Result.andThen_ok]
 cases e:CV d with
 |true =>
  simp only[if_true,Sem.run_bind,gP i,Result.andThen_ok,Sem.run_pure,Kb];congr 2;apply df;rw[Array.toList_extract,List.extract_eq_take_drop];congr 1; omega
 |false =>
  have j:n=1:=by rw[<-h2]; exact r e
  subst j;simp only[Kb]
  cases g:us.toList.drop o with
  |nil=>rw[g] at b; have:=b.length; rw[h2] at this; simp at this
  |cons u rest =>
   have c:us[o]?=some u:=by
    have:=congrArg (fun l=>l[0]?) g;simpa using this
   simp[c]
def UB {t:TypeId} {f:Nat} {fs:Array Field} {b:Field} {agg:Bool} {n:Nat} {cs d:th AV} {v:AV} {c:Value} (H:HR ν h w) (g:P.underlying t=some (.struct fs)) (l:fs[f]?=some b)
 (j:ldP P b.type=some (agg,n)) (k:zq cs b.offset n=some d) (i:mkv agg d=some v) (e:VR ν h w (.agg cs) c):Ğ P ν h w (Instr.field t c f) v h:=by
 obtain⟨us,rfl,m⟩:=e;obtain⟨ν',w',u,o,h2⟩:=Qo (P:=P) H j k i m;refine⟨ν',w',u,?_,h2⟩;simp only[Instr.field,Sem.run_bind,run_underlying g,Result.andThen_ok,l,asAgg,Sem.run_pure];exact o
def Lf {t e:TypeId} {n m:Nat} {k:IntKind} {j:Int} {agg:Bool} {cs f:th AV} {v:AV} {b:Value} (H:HR ν h w) (i:P.underlying t=some (.array n e))
 (p:0<=j/\j<n) (c:ldP P e=some (agg,m)) (q:zq cs (j.toNat*m) m=some f) (o:mkv agg f=some v) (g:VR ν h w (.agg cs) b):Ğ P ν h w (Instr.index t b (.int k j)) v h:=by
 obtain⟨us,rfl,r⟩:=g;obtain⟨ν',w',u,s,h2⟩:=Qo (P:=P) H c q o r;obtain⟨d,hd,_,l⟩:=Gu c;refine⟨ν',w',u,?_,h2⟩;simp only[Instr.index,asIntOf,Sem.run_bind,Sem.run_pure,run_underlying i,Result.andThen_ok,p,and_self,if_true,gP l];exact s
def TT {x v:AV} {j:Value} {o:Nat} (e:oN h x o some=some v) (d:VR ν h w x j):∃a,j=.pointer (some a)/\VR ν h w v (.pointer (some (a.add o))):=by
 unfold oN at e
 split at e<;>try (cases e; done)
 ·cases e;obtain⟨cs,b,c,h2,rfl⟩:=d;exact⟨_,rfl,cs,b,c,h2,by rw[Ĕ]⟩
 ·cases e;obtain⟨b,o',us,rfl,c,h2,i,g⟩:=d;exact⟨_,rfl,b,o',us,by rw[Ĕ,cX],c,h2,i,g⟩
 ·split at e<;>try (cases e; done)
  rename_i t g' fz xs k
  split at e<;>try (cases e; done)
  rename_i f;cases e;obtain⟨q,t2,r,p,l,c,h2,i⟩:=d;rw[k] at c; cases c;have m:=eq_of_beq f;subst m;obtain⟨hi,b,o',cap,g,rfl⟩:=i rfl;exact⟨_,rfl,by rw[Ĕ]; rfl,_,_,_,_,k,bm _,fun _=>⟨hi,b,o',cap,g,by rw[Ĕ,cX]⟩⟩
def Jz {t:TypeId} {f:Nat} {fs:Array Field} {b:Field} {n:Nat} {x v:AV} {c:Value} (H:HR ν h w) (g:P.underlying t=some (.struct fs)) (j:fs[f]?=some b)
 (i:szP P b.type=some (n+1)) (e:oN h x b.offset some=some v) (d:VR ν h w x c):Ğ P ν h w (Instr.fieldAt t c f) v h:=by
 obtain⟨a,rfl,k⟩:=TT e d;refine Ğ.still H ?_ k;simp[Instr.fieldAt,Instr.sureAddr,run_underlying g,j,fieldPlace,gP i]
def B5 {t e:TypeId} {n sz id off:Nat} {k:IntKind} {j:Int} {c:Value} (H:HR ν h w) (f:P.underlying t=some (.array n e)) (i:0<=j/\j<n) (g:szP P e=some sz) (d:VR ν h w (.box id off) c) :
 Ğ P ν h w (Instr.indexAt t c (.int k j)) (.box id (off+j.toNat*sz)) h:=by
 obtain⟨cs,b,l,h2,rfl⟩:=d;refine Ğ.still H (u:=.pointer (some ⟨b,off+j.toNat*sz,none⟩)) ?_ ⟨cs,b,l,h2,rfl⟩;simp[Instr.indexAt,Instr.sureAddr,asIntOf,run_underlying f,gP g,i,Ĕ]
def Hc {k:IntKind} {n:Int} {v:AV} (e:arK k n some=some v):v=.int k (k.wrap n):=by
 unfold arK at e;cases e
 cases k<;>rfl
def As {gt:Bool} {f:Value->Value->Sem Value} (m:∀(k:IntKind) (a b:Int),(f (.int k a) (.int k b)).run P w=.ok (.int k (match gt with|true=>Ru a b|false=>VL a b)) w) :
 ∀(l:th AV) (us:th Value) (x v:AV) (c:Value),ε gt x l some=some v->VR ν h w x c->ê (VR ν h w) l us->∃u,(us.foldlM f c).run P w=.ok u w/\VR ν h w v u
 |[],[],x,v,c,e,j,_=>by cases e; exact⟨c,rfl,j⟩
 |[],_::_,_,_,_,_,_,d=>d.elim
 |_::_,[],_,_,_,_,_,d=>d.elim
 |y::l,uy::us,x,v,c,e,j,d=>by
  cases x<;>try (simp[ε] at e; done)
  cases y<;>try (simp[ε] at e; done)
  rename_i k a s b;simp only[ε] at e
  split at e<;>try (cases e; done)
  rename_i o _;subst o
  have i:∀g:Bool,(match g with|true=>ε true (.int k (Ru a b)) l some|false=>ε false (.int k (VL a b)) l some)=some v->ε g (.int k (match g with|true=>Ru a b|false=>VL a b)) l some=some v:=fun g h=>by cases g<;>exact h
  have e:=i gt e;have r:c=.int k a:=j;have h2:uy=.int k b:=d.1;subst r h2;obtain⟨u,q,p⟩:=As m l us _ v _ e (show VR ν h w (.int k _) (.int k _) from rfl) d.2;refine⟨u,?_,p⟩;simp only[fe,Sem.run_bind,m,Result.andThen_ok];exact q
end
end Go.Am
end

noncomputable section
namespace Go.Am
variable [Globs] [È]
section
variable {ν ν':Nat->Value} {h h':th Blk} {w w':World} {P:Program}
def g9 {t:TypeId} {k:Ty} (b:wX P t k=true) :
 (P.underlying t=some .bool/\k=.bool)\/(∃i,P.underlying t=some (.int i)/\k=.int i):=by
 unfold wX at b
 split at b<;>try (cases b; done)
 ·split at b<;>try (cases b; done)
  exact .inl ⟨‹_›,rfl⟩
 ·split at b<;>try (cases b; done)
  have:=eq_of_beq b;subst this;exact .inr ⟨_,‹_›,rfl⟩
def keyVal:(k:Ty)->Val k->Value
 |.bool,b=>.bool b
 |.int i,n=>.int i n
 |.str,s=>.string s
 |_,_=>undef
def CR.keyVal {av:Nat->Prop} {t:TypeId} {k:Ty} {x:Val k} {v:Value} (b:wX P t k=true) (c:CR w av k x [v]):v=keyVal k x:=by
 rcases g9 b with⟨_,rfl⟩|⟨i,_,rfl⟩
 all_goals
  have:[v]=[_]:=c;simpa[Am.keyVal] using this
def Rm {av:Nat->Prop} {t:TypeId} {k:Ty} {x:Val k} (b:wX P t k=true):CR w av k x [keyVal k x]:=by
 rcases g9 b with⟨_,rfl⟩|⟨i,_,rfl⟩<;>exact(rfl:[_]=[_])
def xI {t:TypeId} {k:Ty} {x:Val k} {empty:Bool} (c:wX P t k=true) (m:Nat):(Instr.checkKey empty (m+1) t (keyVal k x)).run P w=.ok () w:=by
 rcases g9 c with⟨b,rfl⟩|⟨i,b,rfl⟩<;>simp[Instr.checkKey,run_underlying b,keyVal]
def sV {t:TypeId} {k:Ty} (c:wX P t k=true):∃d,P.underlying t=some d/\∀x y:Val k,Instr.sameNow d (keyVal k x) (keyVal k y)=some (fM k x y):=by
 rcases g9 c with⟨b,rfl⟩|⟨i,b,rfl⟩
 ·exact⟨_,b,fun _ _=>rfl⟩
 ·refine⟨_,b,fun x y=>?_⟩;simp only[Instr.sameNow,keyVal,fM,if_true];congr 1
def Ents (w:World) (av:Nat->Prop) (k v:Ty) (es:th (Val k×Val v)) (b:th MapEntry):Prop :=
 ê (fun(e:Val k×Val v) (m:MapEntry)=>m.key=keyVal k e.1/\∃us,CR w av v e.2 us/\m.val=oF v us) es b
def xe {d:TypeDesc} {av:Nat->Prop} {k v:Ty} {x:Val k} (hd:∀y,Instr.sameNow d (keyVal k x) (keyVal k y)=some (fM k x y)):∀(es:th (Val k×Val v)) (ms:th MapEntry) (i:Nat),Ents w av k v es ms ->
 (mP x es=none/\Instr.findNow d (keyVal k x) ms i=some none) \/
 ∃y j us,mP x es=some y/\Instr.findNow d (keyVal k x) ms i=some (some (i+j,oF v us))/\CR w av v y us/\j<es.length/\(∀b,Ar x b es=es.set j (x,b))/\∃e,es[j]?=some e/\fM k x e.1=true
 |[],[],i,_=>.inl ⟨rfl,rfl⟩
 |[],_::_,_,f=>f.elim
 |_::_,[],_,f=>f.elim
 |e::es,m::ms,i,f=>by
  obtain⟨⟨z,us,h2,u⟩,f⟩:=f;have g:=hd e.1;rw[<-z] at g
  cases c:fM k x e.1 with
  |true =>
   rw[c] at g;exact .inr ⟨e.2,0,us,by simp[mP,c],by simp[Instr.findNow,g,u],h2,by simp,fun b=>by simp[Ar,c],e,rfl,c⟩
  |false =>
   rw[c] at g;rcases xe hd es ms (i+1) f with⟨p,o⟩|⟨y,j,l,p,o,t,B,s,A,r,q⟩
   ·exact .inl ⟨by simp[mP,c,p],by simp[Instr.findNow,g,o]⟩
   ·refine .inr ⟨y,j+1,l,by simp[mP,c,p],by simp[Instr.findNow,g,o]; omega,t,by simp; omega,fun b=>by simp[Ar,c,s],A,by simpa using r,q⟩
def Ij {k v:Ty} {x:Val k} {b:Val v}:∀{es:th (Val k×Val v)},mP x es=none->Ar x b es=es++[(x,b)]
 |[],_=>rfl
 |e::es,c=>by
  cases d:fM k x e.1 with
  |true=>simp[mP,d] at c
  |false=>simp only[mP,d] at c; simp[Ar,d,Ij c]
def ents (H:HR ν h w) {t:TypeId} {m:AV} {um:Value} {k v:Ty} {es:th (Val k×Val v)} (B:wX P t k=true) (q:VR ν h w m um) (e:í h m=.mp k v es) :
 ∃r,um=.map r/\((r=none/\es=[])\/∃b c d,r=some b/\w.heap[b]?=some (.map c d)/\Ents w (Av ν h) k v es c.toList):=by
 have o:∀(c:Array MapEntry),c.size=es.length->(∀(i:Nat) (e:Val k×Val v),es[i]?=some e->∃(m:MapEntry) (us:th Value),c[i]?=some m/\CR w (Av ν h) k e.1 [m.key]/\CR w (Av ν h) v e.2 us/\m.val=oF v us) ->
  Ents w (Av ν h) k v es c.toList:=fun c A C=>by
  refine ê.of_get (by simpa using A.symm) fun i a b ha hb=>?_;obtain⟨m,us,l,h2,j,f⟩:=C i a ha
  have:b=m:=by simp at hb; rw[l] at hb; exact(Option.some.inj hb).symm
  subst this;exact⟨CR.keyVal B h2,us,j,f⟩
 cases m with
 |mp y x p =>
  simp only[í] at e;cases e;obtain⟨r,l,h2⟩:=q;refine⟨r,by simpa using l,?_⟩;rcases h2 with h2|⟨b,c,d,h2,_,j,f,D⟩
  ·exact .inl h2
  ·exact .inr ⟨b,c,d,h2,j,o c f D⟩
 |omp id =>
  obtain⟨E,y,x,p,s,z⟩:=q;simp only[í,s] at e;cases e;have u:=H.blk id;rw[s] at u;obtain⟨b,c,d,l,h2,j,f⟩:=u;exact⟨some b,by rw[z,l],.inr ⟨b,c,d,rfl,h2,o c j f⟩⟩
 |own id g=>simp only[í] at e; (repeat' split at e)<;>cases e
 |sub id g lo n=>simp only[í] at e; (repeat' split at e)<;>cases e
 |_=>simp[í] at e
def wA {t:TypeId} {k:Ty} {i:AV} {ui:Value} {x:Val k} (c:wX P t k=true) (hi:VR ν h w i ui) (e:Ø k [i]=some x):ui=keyVal k x:=by
 rcases g9 c with⟨_,rfl⟩|⟨j,_,rfl⟩
 ·cases i<;>simp[Ø,Ĵ] at e; subst e; exact hi
 ·cases i<;>try (simp[Ø,Ĵ] at e; done)
  rename_i f n;simp only[Ø,Ĵ] at e
  split at e<;>try (cases e; done)
  rename_i y b
  split at b<;>try (cases b; done)
  rename_i d _;subst d; cases b; cases e; exact hi
def Rc (ok:Bool) (y:AV) (b:Bool):so AV:=match ok with|true=>some (.tup [y,.bool b])|false=>some y
def Jc {t:TypeId} {m i v:AV} {um ui:Value} {ok:Bool} (H:HR ν h w) (e:gZ P h t m i ok some=some v) (hm:VR ν h w m um) (hi:VR ν h w i ui):∃u,(Instr.lookup t um ui ok).run P w=.ok u w/\VR ν h w v u:=by
 unfold gZ at e
 split at e<;>try (cases e; done)
 rename_i K et D
 split at e<;>try (cases e; done)
 rename_i k v0 z hkt het M
 cases s:P.info? et with
 |none=>simp[s] at M
 |some L =>
 cases C:L.zero with
 |none=>simp[s,C] at M
 |some o =>
 simp only[s,C,cz,ce,Option.some.injEq] at M;subst M
 -- what the run does, once the search is known
 have run:∀(x:Val k) (r:so Nat) (ms:th MapEntry),wX P K k=true->ui=keyVal k x->um=.map r->(r=none/\ms=[]\/∃b c f,r=some b/\w.heap[b]?=some (.map c f)/\c.toList=ms) ->
  ∀d,P.underlying K=some d ->
  (∀y j,Instr.findNow d (keyVal k x) ms 0=some (some (j,y))->(Instr.lookup t um ui ok).run P w=.ok (if ok then .tuple #[y,.bool true] else y) w) /\
  (Instr.findNow d (keyVal k x) ms 0=some none->(Instr.lookup t um ui ok).run P w=.ok (if ok then .tuple #[o,.bool false] else o) w):=by
  intro x r ms B O p S d hd;subst O p;have A:=fun em=>xI (P:=P) (w:=w) (x:=x) (empty:=em) B 9999;have A:∀em,(Instr.checkKey em 10000 K (keyVal k x)).run P w=.ok () w:=A;rcases S with⟨rfl,rfl⟩|⟨b,c,f,rfl,hb,rfl⟩
  ·constructor
   ·intro y j G; simp[Instr.findNow] at G
   ·intro G;simp only[Instr.lookup,Sem.run_bind,run_underlying D,Result.andThen_ok,Sem.run_pure,A];simp[Instr.findKey,run_underlying hd,Instr.findNow,zeroValue,typeInfo,s,C]
  ·constructor
   ·intro y j G;simp only[Instr.lookup,Sem.run_bind,run_underlying D,Result.andThen_ok,Sem.run_pure,Θ hb,A];simp[Instr.findKey,run_underlying hd,G]
   ·intro G;simp only[Instr.lookup,Sem.run_bind,run_underlying D,Result.andThen_ok,Sem.run_pure,Θ hb,A];simp[Instr.findKey,run_underlying hd,G,zeroValue,typeInfo,s,C]
 have J:∀{V:AV},Rc ok (cv o) false=some V->VR ν h w V (if ok then .tuple #[o,.bool false] else o):=fun {V} hV=>by
  cases ok with
  |false=>cases hV; exact JI o
  |true =>
   cases hV;refine⟨#[o,.bool false],rfl,?_,rfl,trivial⟩;have:=JI (ν:=ν) (h:=h) (w:=w) o
   cases D:(cv o).isTup with
   |true=>exact absurd D (by rw[JH]; simp)
   |false=>rwa [mN D] at this
 split at e<;>try (cases e; done)
 ·rename_i k' v' es B l
  split at e<;>try (cases e; done)
  rename_i U _;cases U
  split at e<;>try (cases e; done)
  rename_i x N;have E:=wA B hi N;obtain⟨d,hd,q⟩:=sV (P:=P) (t:=K) (k:=k) B;obtain⟨r,p,S⟩:=ents H B hm l
  have R:∃ms,Ents w (Av ν h) k v0 es ms/\(r=none/\ms=[]\/∃b c f,r=some b/\w.heap[b]?=some (.map c f)/\c.toList=ms):=by
   rcases S with⟨rfl,rfl⟩|⟨b,c,f,rfl,hb,W⟩
   ·exact⟨[],trivial,.inl ⟨rfl,rfl⟩⟩
   ·exact⟨_,W,.inr ⟨b,c,f,rfl,hb,rfl⟩⟩
  obtain⟨ms,W,T⟩:=R;obtain⟨r1,r2⟩:=run x r ms B E p T d hd;rcases xe (q x) es ms 0 W with⟨Y,X⟩|⟨y,j,us,Y,X,h6,_⟩
  ·have I:(match (mP x es:so (Val v0)) with|some y=>Rc ok (enc v0 y) true|none=>Rc ok (cv o) false)=some v:=e;rw[Y] at I;exact⟨_,r2 X,J I⟩
  ·have I:(match (mP x es:so (Val v0)) with|some y=>Rc ok (enc v0 y) true|none=>Rc ok (cv o) false)=some v:=e;rw[Y] at I;refine⟨_,r1 _ _ X,?_⟩;have Z:=yh h6
   cases ok with
   |false=>cases I; exact Z
   |true =>
    cases I;refine⟨#[oF v0 us,.bool true],rfl,?_,rfl,trivial⟩
    have D:(enc v0 y).isTup=false:=by cases v0<;>rfl
    rwa [mN D] at Z
 ·rename_i B l
  split at e<;>try (cases e; done)
  rename_i x N;have E:=wA B hi N;obtain⟨d,hd,q⟩:=sV (P:=P) (t:=K) (k:=k) B
  have p:um=.map none:=by
   cases m with
   |nilm=>exact hm
   |own id g=>simp only[í] at l; (repeat' split at l)<;>cases l
   |sub id g lo n=>simp only[í] at l; (repeat' split at l)<;>cases l
   |omp id=>simp only[í] at l; (repeat' split at l)<;>cases l
   |_=>simp[í] at l
  obtain⟨r1,r2⟩:=run x none [] B E p (.inl ⟨rfl,rfl⟩) d hd;exact⟨_,r2 rfl,J e⟩
def Q5 {t:TypeId} {m i v:AV} {um ui:Value} {ok:Bool} (H:HR ν h w) (e:gZ P h t m i ok some=some v) (b:VR ν h w m um) (hi:VR ν h w i ui):Ğ P ν h w (Instr.lookup t um ui ok) v h:=by
 obtain⟨u,c,h2⟩:=Jc H e b hi;exact Ğ.still H c h2
def wB {x:AV} {cs:th AV} (e:Ē (Me h x)=some cs):∃vs,Ē x=some vs/\cs=vs.map (í h):=by
 cases x with
 |agg l=>simp only[Me,Ē,Option.some.injEq] at e; exact⟨l,rfl,e.symm⟩
 |any=>cases e
 |und=>cases e
 |tup=>cases e
 |own id g =>
  refine⟨_,rfl,?_⟩;simp only[Me] at e
  have:í h (.own id g)=.any\/∃t xs,í h (.own id g)=.slc t xs:=by
   simp only[í]; (repeat' split)<;>first|exact .inl rfl|exact .inr ⟨_,_,rfl⟩
  rcases this with b|⟨t,xs,b⟩<;>rw[b] at e<;>cases e
  simp[b]
 |sub id g lo n =>
  refine⟨_,rfl,?_⟩;simp only[Me] at e
  have:í h (.sub id g lo n)=.any\/∃t xs,í h (.sub id g lo n)=.slc t xs:=by
   simp only[í]; (repeat' split)<;>first|exact .inl rfl|exact .inr ⟨_,_,rfl⟩
  rcases this with b|⟨t,xs,b⟩<;>rw[b] at e<;>cases e
  simp[b]
 |omp id =>
  refine⟨_,rfl,?_⟩;simp only[Me] at e
  have:í h (.omp id)=.any\/∃k v xs,í h (.omp id)=.mp k v xs:=by
   simp only[í]; (repeat' split)<;>first|exact .inl rfl|exact .inr ⟨_,_,_,rfl⟩
  rcases this with b|⟨k,v,xs,b⟩<;>rw[b] at e<;>cases e
  simp[b]
 |_=>cases e; exact⟨_,rfl,rfl⟩
def Nh {a:AV} {id:Nat} {k v:Ty} {es:th (Val k×Val v)} (b:lkB h id=.map k v es):lkB (kD h a) id=.map k v es:=by
 have c:∀(j g:Nat) (t:Ty) (fz:Bool) (xs:th (Val t)),lkB h j=.row t g fz xs->lkB (á h j (.row t g true xs)) id=.map k v es:=fun j g t fz xs d=>by
  by_cases e:id=j
  ·subst e; rw[b] at d; cases d
  ·rw[Ê _ e]; exact b
 cases a<;>try exact b
 all_goals
  simp only[kD]
  split
  ·exact c _ _ _ _ _ ‹_›
  ·exact b
def Gy {id:Nat} {k v:Ty} {es:th (Val k×Val v)}:∀(as:th AV) {h:th Blk},lkB h id=.map k v es->lkB (rB h as) id=.map k v es
 |[],_,b=>b
 |a::as,_,b=>Gy as (Nh b)
def Uw {t:TypeId} {k:Ty} (b:wX P t k=true) {x y:Val k} (e:fM k x y=true):x=y:=by
 rcases g9 b with⟨_,rfl⟩|⟨j,_,rfl⟩
 ·simpa[fM] using e
 ·simpa[fM] using e
def HJ {t:TypeId} {k:Ty} (b:wX P t k=true) (x:Val k) (m:Nat):Instr.sameBits m (keyVal k x) (keyVal k x)=true:=by
 rcases g9 b with⟨_,rfl⟩|⟨j,_,rfl⟩<;>simp[Instr.sameBits,keyVal]
def ê.set {α β:Type} {R:α->β->Prop}:∀{l:th α} {m:th β} (i:Nat) {a:α} {b:β},ê R l m->R a b->ê R (l.set i a) (m.set i b)
 |[],[],_,_,_,_,_=>trivial
 |_::_,_::_,0,_,_,h,c=>⟨c,h.2⟩
 |_::_,_::_,i+1,_,_,h,c=>⟨h.1,ê.set i h.2 c⟩
 |[],_::_,_,_,_,h,_=>h.elim
 |_::_,[],_,_,_,h,_=>h.elim
def xS {t:TypeId} {m i x:AV} {um ui C:Value} (H:HR ν h w) (e:Ķ P h t m i x some=some h') (hm:VR ν h w m um) (hi:VR ν h w i ui) (hx:VR ν h w x C) :
 ∃w',(Instr.mapUpdate t um ui C).run P w=.ok () w'/\HR ν h' w'/\Ev h.length ν h w ν h' w'/\h'.length=h.length:=by
 unfold Ķ at e
 split at e<;>try (cases e; done)
 rename_i kt et ht
 split at e<;>try (cases e; done)
 rename_i id
 split at e<;>try (cases e; done)
 rename_i k v es hl
 split at e<;>try (cases e; done)
 rename_i hc;simp only[bn,beq_iff_eq] at hc;obtain⟨J,hnm,W⟩:=hc
 split at e<;>try (cases e; done)
 rename_i a cs ha hcs
 split at e<;>try (cases e; done)
 rename_i b hb;cases e;obtain⟨vs,u,rfl⟩:=wB hcs;obtain⟨hfe,hfm⟩:=Rz u h;have hcx:=hx.cells u;have hsn:=vO H (hcx.mono fun _ _ q=>q.1) (hfm hnm);obtain⟨e1,H1,hlv⟩:=tN vs H;rw[hfe];have o:=Gy vs hl;have U:=ÿ hb hsn
 have D:C=oF v C.cells.toList:=by
  unfold oF;rw[<-W]
  cases x with
  |agg l=>obtain⟨us,rfl,_⟩:=hx; rfl
  |any=>cases u
  |und=>cases u
  |tup=>cases u
  |_ =>
   rw[kz ((hx.one rfl rfl).oneCell u)]; rfl
 obtain⟨ho,k2,v2,es2,O,hmv⟩:=hm;rw[hl] at O; cases O;have hB:=H1.blk id;rw[o] at hB;obtain⟨K,f,s,h1,h2,h3,h4⟩:=hB;rw[hmv,h1];have hui:=wA J hi ha;subst hui
 have hE:Ents w (Av ν (rB h vs)) k v es f.toList:=by
  obtain⟨r,E,A⟩:=ents H1 (m:=.omp id) (um:=.map (some K)) (k:=k) (v:=v) (es:=es) J ⟨rfl,k,v,es,o,h1.symm⟩ (by simp only[í,o]);cases E;rcases A with⟨A,_⟩|⟨b',en',cl',A,N,Z⟩
  ·cases A
  ·cases A;rw[h2] at N;cases N;exact Z
 obtain⟨d,hd,G⟩:=sV (P:=P) (t:=kt) (k:=k) J;have S:id<(rB h vs).length:=Ę o (by simp)
 -- the map with other f
 have Y:∀(c:Array MapEntry) (g:Nat) (p:th (Val k×Val v)),Ents w (Av ν (rB h vs)) k v p c.toList ->
  HR ν (á (rB h vs) id (.map k v p)) {w with heap:=w.heap.setIfInBounds K (.map c g)} /\
  Ev (rB h vs).length ν (rB h vs) w ν (á (rB h vs) id (.map k v p)) {w with heap:=w.heap.setIfInBounds K (.map c g)}:=by
  intro c g p X;have I:=Û h2
  have z:∀q,q<w.heap.size->((lkB (rB h vs) id).live=true->¬č (ν id) q)->({w with heap:=w.heap.setIfInBounds K (.map c g)}:World).heap[q]?=w.heap[q]?:=fun q _ M=>by
   have:K≠q:=fun he=>M (by rw[o]; rfl) (by rw[h1,he]; rfl);simp[b7,this]
  have hV:(Blk.map k v p).live=true->∀q,č (ν id) q->((lkB (rB h vs) id).live=true/\č (ν id) q)\/w.heap.size<=q:=fun _ q M=>.inl ⟨by rw[o]; rfl,M⟩;have ev:=Ev.upd H1 (B:=.map k v p) (V:=ν id) (w':={w with heap:=w.heap.setIfInBounds K (.map c g)}) S rfl rfl rfl (by simp) z hV (by rw[o]; exact⟨⟨p,rfl⟩,Ç _ _ _⟩)
  have L:=HR.upd H1 S ev z hV ⟨K,c,g,(Ç _ _ _).trans h1,by simp[I],by simpa using X.length.symm,fun j q hj=>by
   obtain⟨m,E,A,us,N,Z⟩:=X.get hj;refine⟨m,us,by simpa using E,?_,CR.keep ev.keepA N,Z⟩
   rw[A]; exact Rm J⟩
  rw[Η] at ev L;exact⟨L,ev⟩
 have T:∀em,(Instr.checkKey em 10000 kt (keyVal k a)).run P w=.ok () w:=fun em=>xI (P:=P) (w:=w) (x:=a) (empty:=em) J 9999;rcases xe (G a) es f.toList 0 hE with⟨h5,h6⟩|⟨y,j,us,h5,h6,h7,h8,h9,e',h10,h11⟩
 ·rw[Ij h5]
  obtain⟨L,ev⟩:=Y (f.push {key:=keyVal k a,val:=C,born:=s}) (s+1) (es++[(a,b)]) (by
   rw[Array.toList_push]
   exact ê.append hE ⟨⟨rfl,_,U,D⟩,trivial⟩)
  refine⟨_,?_,L,e1.trans ev (by rw[ń]; exact bm _),by rw[É,ń]⟩;simp only[Instr.mapUpdate,Sem.run_bind,run_underlying ht,Result.andThen_ok,Θ h2,T];simp[Instr.findKey,run_underlying hd,h6,setObj,Sem.run,h2]
 ·rw[h9];obtain⟨m,E,A,us',N,Z⟩:=hE.get h10
  have q1':f[j]?=some m:=by simpa using E
  obtain⟨L,ev⟩:=Y (f.modify j fun e=>{e with key:=keyVal k a,val:=C}) s (es.set j (a,b)) (by
   rw[Array.toList_modify]
   have:(f.toList.modify j fun e=>{e with key:=keyVal k a,val:=C})=f.toList.set j {m with key:=keyVal k a,val:=C}:=by
    apply List.ext_getElem?
    intro q;rw[List.getElem?_modify,ee]
    by_cases M:j=q
    ·subst M;have I:=(bC.1 E).1;simp only[if_true,E,I];rfl
    ·simp[M]
   rw[this]
   exact ê.set j hE ⟨rfl,_,U,D⟩)
  refine⟨_,?_,L,e1.trans ev (by rw[ń]; exact bm _),by rw[É,ń]⟩
  have R:m.key=keyVal k a:=by rw[A,<-Uw J h11]
  simp only[Instr.mapUpdate,Sem.run_bind,run_underlying ht,Result.andThen_ok,Θ h2,T];simp only[bK] at h6;have hsb:Instr.sameBits 10000 (keyVal k a) (keyVal k a)=true:=HJ J a 10000;simp[Instr.findKey,run_underlying hd,h6,q1',R,Instr.keyThatStays,hsb,setObj,Sem.run,h2]
end
end Go.Am
end

noncomputable section
namespace Go.Am
variable [Globs] [È]
section
variable {ν ν':Nat->Value} {h h':th Blk} {w w':World} {P:Program}
def Mj {t:TypeId} {n o:Nat} {d:TypeDesc} (hd:P.underlying t=some d) (g:szP P t=some n) (us:Array Value) (j:CV d=false->n=1) (k:o+n<=us.size) :
 (part t us o).run P w=.ok (Kb (CV d) ((us.toList.drop o).take n)) w:=by
 unfold part;simp only[Sem.run_bind,oQ hd,Result.andThen_ok]
 cases e:CV d with
 |true =>
  simp only[if_true,Sem.run_bind,gP g,Result.andThen_ok,Sem.run_pure,Kb];congr 2;apply df;rw[Array.toList_extract,List.extract_eq_take_drop];congr 1; omega
 |false =>
  have i:=j e;subst i
  have b:o<us.size:=by omega
  have c:us[o]?=some us[o]:=by simp[b]
  have f:us.toList.drop o=us[o]::us.toList.drop (o+1):=by
   rw[dg (by simpa using b)]; simp
  simp[c,Kb,f]
def W8:∀(n d:Nat) (t:TypeId) (cs M:th AV) (rest:so Bool) (r:Bool),n<=d->W9 P n t cs M rest=some r ->
 ∃e c,rest=some c/\r=(e&&c)/\∃D,P.underlying t=some D/\(CV D=false->cs.length=1)/\∀us ws,ê (VRc ν h w) cs us->ê (VRc ν h w) M ws->(Op.equalIn d t (Kb (CV D) us) (Kb (CV D) ws)).run P w=.ok e w:=by
 intro n
 induction n with
 |zero=>intro d t cs M rest r _ e; cases e
 |succ n ih =>
  intro d t cs M rest r hnd e;obtain⟨d,rfl⟩:∃d',d=d'+1:=⟨d-1,by omega⟩;unfold W9 at e
  split at e<;>try (cases e; done)
  ·rename_i B
   split at e<;>try (cases e; done)
   rename_i a b
   split at e<;>try (cases e; done)
   rename_i c;cases e;refine⟨_,c,rfl,rfl,_,B,fun _=>rfl,fun us ws A h2=>?_⟩;obtain⟨u,rfl,K⟩:=A.one;obtain⟨v,rfl,J⟩:=h2.one;have o:u=.bool a:=K.1;have j:v=.bool b:=J.1;subst o j;exact run_equalIn_bool' w d t a b B
  ·rename_i i B
   split at e<;>try (cases e; done)
   rename_i k a k' b
   split at e<;>try (cases e; done)
   rename_i hk _;subst hk
   split at e<;>try (cases e; done)
   rename_i c;cases e;refine⟨_,c,rfl,rfl,_,B,fun _=>rfl,fun us ws A h2=>?_⟩;obtain⟨u,rfl,K⟩:=A.one;obtain⟨v,rfl,J⟩:=h2.one;have o:u=.int k a:=K.1;have j:v=.int k b:=J.1;subst o j;have:=run_equalIn_int w d t k i a b B
   rw[show(a==b)=decide (a=b) from by by_cases hab:a=b<;>simp[hab]] at this
   exact this
  ·rename_i fs B
   split at e<;>try (cases e; done)
   rename_i hst
   have N:∀(l:th Field) (r:Bool),eqFs P (W9 P n) cs M l rest=some r->∃e c,rest=some c/\r=(e&&c)/\∀us ws:Array Value,ê (VRc ν h w) cs us.toList->ê (VRc ν h w) M ws.toList->(Op.eqFields d us ws l).run P w=.ok e w:=by
    intro l
    induction l with
    |nil=>intro r e; exact⟨true,r,e,by simp,fun us ws _ _=>rfl⟩
    |cons f l G =>
     intro r e;unfold eqFs at e
     split at e
     ·rename_i R;obtain⟨e',c,A,h2,I⟩:=G r e;refine⟨e',c,A,h2,fun us ws s p=>?_⟩
      have : ¬ (f.name ≠ "_") := by simpa using R
      simp only[Op.eqFields,if_neg this];exact I us ws s p
     ·rename_i R
      split at e<;>try (cases e; done)
      rename_i m H
      split at e<;>try (cases e; done)
      rename_i x y hx hy;obtain⟨o,r1,A,h2,D,Y,S,I⟩:=ih d f.type x y _ r (by omega) e;obtain⟨j,r2,h4,h5,h6⟩:=G r1 A;refine⟨o&&j,r2,h4,by rw[h2,h5,Bool.and_assoc],fun us ws s p=>?_⟩;obtain⟨K,J⟩:=iM hx;obtain⟨Z,g4⟩:=iM hy
      have hnn : f.name ≠ "_" := by simpa using R
      have V:∀{l:th AV} {us:Array Value} {z:th AV},ê (VRc ν h w) l us.toList->z=(l.drop f.offset).take m->z.length=m->f.offset+m<=us.size\/m=0:=fun {l us z} q o j=>by
       have:=q.length;rw[o] at j;simp at j this;omega
      have C:CV D=false->m=1:=fun g=>by rw[<-J]; exact S g
      have X:∀{l:th AV} {us:Array Value} {z:th AV},ê (VRc ν h w) l us.toList->z=(l.drop f.offset).take m->z.length=m->(part f.type us f.offset).run P w=.ok (Kb (CV D) ((us.toList.drop f.offset).take m)) w:=fun {l us z} q o j=>by
       rcases V q o j with g|g
       ·exact Mj Y H us C g
       ·subst g
        have E:CV D=true:=by cases hq:CV D with
         |true=>rfl
         |false=>exact absurd (C hq) (by simp)
        unfold part;simp only[Sem.run_bind,oQ Y,Result.andThen_ok,E,if_true,gP H,Sem.run_pure,Kb];congr 2;apply Array.ext';simp
      have p1:=X s K J;have p2:=X p Z g4;have U:=I ((us.toList.drop f.offset).take m) ((ws.toList.drop f.offset).take m) (by rw[K]; exact(s.drop _).take _) (by rw[Z]; exact(p.drop _).take _);have T:=h6 us ws s p;simp only[Op.eqFields,if_pos hnn,Sem.run_bind,p1,p2,Result.andThen_ok,U]
      cases o with
      |true=>simp[T]
      |false=>simp
   obtain⟨e',c,A,h2,I⟩:=N _ r e;refine⟨e',c,A,h2,_,B,fun g=>by simp[CV] at g,fun us ws s p=>?_⟩
   have g:P.fieldsOf t=fs:=by simp[Program.fieldsOf,B]
   show(Op.equalIn (d+1) t (.agg us.toArray) (.agg ws.toArray)).run P w=_;rw[run_equalIn_struct w d t _ _ (by rw[g]; exact B) hst,g];exact I us.toArray ws.toArray (by simpa using s) (by simpa using p)
  ·rename_i len W B
   split at e<;>try (cases e; done)
   rename_i m H
   have N:∀(l:th Nat) (r:Bool),eqIs P (W9 P n) W m cs M l rest=some r->∃e c,rest=some c/\r=(e&&c)/\∀us ws:Array Value,ê (VRc ν h w) cs us.toList->ê (VRc ν h w) M ws.toList->(Op.eqItems d W m us ws l).run P w=.ok e w:=by
    intro l
    induction l with
    |nil=>intro r e; exact⟨true,r,e,by simp,fun us ws _ _=>rfl⟩
    |cons i l G =>
     intro r e;unfold eqIs at e
     split at e<;>try (cases e; done)
     rename_i x y hx hy;obtain⟨o,r1,A,h2,D,Y,S,I⟩:=ih d W x y _ r (by omega) e;obtain⟨j,r2,h4,h5,h6⟩:=G r1 A;refine⟨o&&j,r2,h4,by rw[h2,h5,Bool.and_assoc],fun us ws s p=>?_⟩;obtain⟨K,J⟩:=iM hx;obtain⟨Z,g4⟩:=iM hy
     have V:∀{l:th AV} {us:Array Value} {z:th AV},ê (VRc ν h w) l us.toList->z=(l.drop (i*m)).take m->z.length=m->(i*m)+m<=us.size\/m=0:=fun {l us z} q o j=>by
      have:=q.length;rw[o] at j;simp at j this;omega
     have C:CV D=false->m=1:=fun g=>by rw[<-J]; exact S g
     have X:∀{l:th AV} {us:Array Value} {z:th AV},ê (VRc ν h w) l us.toList->z=(l.drop (i*m)).take m->z.length=m->(part W us (i*m)).run P w=.ok (Kb (CV D) ((us.toList.drop (i*m)).take m)) w:=fun {l us z} q o j=>by
      rcases V q o j with g|g
      ·exact Mj Y H us C g
      ·subst g
       have E:CV D=true:=by cases hq:CV D with
        |true=>rfl
        |false=>exact absurd (C hq) (by simp)
       unfold part;simp only[Sem.run_bind,oQ Y,Result.andThen_ok,E,if_true,gP H,Sem.run_pure,Kb];congr 2;apply Array.ext';simp
     have p1:=X s K J;have p2:=X p Z g4;have U:=I ((us.toList.drop (i*m)).take m) ((ws.toList.drop (i*m)).take m) (by rw[K]; exact(s.drop _).take _) (by rw[Z]; exact(p.drop _).take _);have T:=h6 us ws s p;simp only[Op.eqItems,Sem.run_bind,p1,p2,Result.andThen_ok,U]
     cases o with
     |true=>simp[T]
     |false=>simp
   obtain⟨e',c,A,h2,I⟩:=N _ r e;refine⟨e',c,A,h2,_,B,fun g=>by simp[CV] at g,fun us ws s p=>?_⟩
   obtain⟨O,L,hsz⟩:∃O,P.info? W=some O/\O.size=m:=by
    unfold szP at H
    split at H
    ·cases H; exact⟨_,‹_›,rfl⟩
    ·cases H
   have hco:P.cellsOf W=m:=by simp[Program.cellsOf,L,hsz]
   show(Op.equalIn (d+1) t (.agg us.toArray) (.agg ws.toArray)).run P w=_;rw[run_equalIn_array w d us.toArray ws.toArray B L,hco];exact I us.toArray ws.toArray (by simpa using s) (by simpa using p)
def Vd {op:BinOp} {t:TypeId} {x y v:AV} {i g:Value} (X Y:Operand) (H:HR ν h w) (e:Xs P op t x y some=some v) (z:VR ν h w x i) (s:VR ν h w y g) :
 Ğ P ν h w (do eqGuard op t X Y i g; binOp op t i g) v h:=by
 unfold Xs at e
 split at e
 ·rename_i k a A b;have f:i=.int k a:=z;have h2:g=.int A b:=s;subst f h2
  split at e
  ·rename_i l B
   have c:(eqGuard op t X Y (.int k a) (.int A b)).run P w=.ok () w:=by cases op<;>simp[eqGuard]
   unfold shK at e
   split at e<;>try (cases e; done)
   rename_i hb
   have hb:¬b<0:=by have:=of_decide_eq_true hb; omega
   split at e
   ·cases e;refine Ğ.still H (u:=.int k (shlI k a b)) ?_ rfl;rw[Sem.run_bind,c,Result.andThen_ok]
    cases op<;>simp only[Lb,Option.some.injEq,reduceCtorEq] at B
    simp[binOp,Op.shift,hb,shlI]
   ·cases e;refine Ğ.still H (u:=.int k (shrI k a b)) ?_ rfl;rw[Sem.run_bind,c,Result.andThen_ok]
    cases op<;>simp only[Lb,Option.some.injEq,reduceCtorEq] at B
    simp[binOp,Op.shift,hb,shrI]
  rename_i I
  split at e<;>try (cases e; done)
  rename_i K _;subst K
  have c:(eqGuard op t X Y (.int k a) (.int k b)).run P w=.ok () w:=by cases op<;>simp[eqGuard]
  split at e
  ·rename_i r d;cases e;refine Ğ.still H (u:=.bool r) ?_ rfl;rw[Sem.run_bind,c,Result.andThen_ok]
   cases op<;>simp only[cmpI,reduceCtorEq,Option.some.injEq] at d<;>subst d<;>simp[binOp,Op.intCmp]
  ·split at e
   ·rename_i r d;rw[Hc e];refine Ğ.still H (u:=.int k (k.wrap r)) ?_ rfl;rw[Sem.run_bind,c,Result.andThen_ok]
    cases op<;>simp only[arI,reduceCtorEq,Option.some.injEq] at d<;>subst d<;>simp[binOp,Op.intArith]
   ·split at e<;>try (cases e; done)
    ·split at e<;>try (cases e; done)
     rename_i hb
     have hb:¬b=0:=by simpa using hb
     rw[Hc e];refine Ğ.still H (u:=.int k (k.wrap (a.tdiv b))) ?_ rfl;rw[Sem.run_bind,c,Result.andThen_ok];simp[binOp,Op.intDiv,hb]
    ·split at e<;>try (cases e; done)
     rename_i hb
     have hb:¬b=0:=by simpa using hb
     cases e;refine Ğ.still H (u:=.int k (a.tmod b)) ?_ rfl;rw[Sem.run_bind,c,Result.andThen_ok];simp[binOp,Op.intDiv,hb]
    ·cases e;refine Ğ.still H (u:=.int k (andI k a b)) ?_ rfl;rw[Sem.run_bind,c,Result.andThen_ok];simp[binOp,Op.intBits,andI,VW]
    ·cases e;refine Ğ.still H (u:=.int k (orI k a b)) ?_ rfl;rw[Sem.run_bind,c,Result.andThen_ok];simp[binOp,Op.intBits,orI,VW]
    ·cases e;refine Ğ.still H (u:=.int k (xorI k a b)) ?_ rfl;rw[Sem.run_bind,c,Result.andThen_ok];simp[binOp,Op.intBits,xorI,VW]
    ·cases e;refine Ğ.still H (u:=.int k (LP k a b)) ?_ rfl;rw[Sem.run_bind,c,Result.andThen_ok];simp[binOp,Op.intBits,LP,VW]
 ·rename_i a b;have f:i=.bool a:=z;have h2:g=.bool b:=s;subst f h2
  split at e<;>try (cases e; done)
  rename_i G
  have c:(eqGuard op t X Y (.bool a) (.bool b)).run P w=.ok () w:=by cases op<;>simp[eqGuard]
  have C:(Op.equalIn 10000 t (.bool a) (.bool b)).run P w=.ok (a==b) w:=run_equalIn_bool' w 9999 t a b G
  split at e<;>try (cases e; done)
  ·cases e;refine Ğ.still H (u:=.bool (a==b)) ?_ rfl;rw[Sem.run_bind,c,Result.andThen_ok];simp[binOp,Op.equal,Op.maxDepth,C]
  ·cases e;refine Ğ.still H (u:=.bool (!(a==b))) ?_ rfl;rw[Sem.run_bind,c,Result.andThen_ok];simp[binOp,Op.equal,Op.maxDepth,C]
 ·rename_i a b;have f:i=.string a:=z;have h2:g=.string b:=s;subst f h2
  have c:(eqGuard op t X Y (.string a) (.string b)).run P w=.ok () w:=by cases op<;>simp[eqGuard]
  split at e<;>try (cases e; done)
  ·cases e;refine Ğ.still H (u:=.bool (a.toList==b.toList)) ?_ rfl;rw[Sem.run_bind,c,Result.andThen_ok];simp[binOp,Op.stringOp]
  ·cases e;refine Ğ.still H (u:=.bool (!(a.toList==b.toList))) ?_ rfl;rw[Sem.run_bind,c,Result.andThen_ok];simp[binOp,Op.stringOp]
  ·split at e<;>try (cases e; done)
   rename_i m;cases e;have m:=of_decide_eq_true m;refine Ğ.still H (u:=.string (a++b)) ?_ rfl
   have J:¬(((a.size+b.size:Nat):Int)>IntKind.i64.max):=by
    have:IntKind.i64.max=9223372036854775807:=by decide
    omega
   rw[Sem.run_bind,c,Result.andThen_ok];show(Op.stringOp .add a b).run P w=_;unfold Op.stringOp;dsimp only;rw[if_neg J];rfl
 ·rename_i cs R;obtain⟨us,rfl,f⟩:=z;obtain⟨ws,rfl,h2⟩:=s
  split at e<;>try (cases e; done)
  rename_i j
  split at e<;>try (cases e; done)
  rename_i o
  split at e<;>try (cases e; done)
  rename_i r d;obtain⟨T,S,O,E,D,M,L,N⟩:=W8 (ν:=ν) (h:=h) (w:=w) 8 10000 t cs R _ r (by omega) d;cases O;rw[Bool.and_true] at E;subst E;have q:=N us.toList ws.toList f h2
  have p:CV D=true:=by rw[M] at j; cases D<;>first|rfl|(simp[aggT] at j; done)
  rw[p] at q
  have q:(Op.equalIn 10000 t (.agg us) (.agg ws)).run P w=.ok r w:=by simpa[Kb] using q
  split at e<;>try (cases e; done)
  ·cases e;refine Ğ.still H (u:=.bool r) ?_ rfl;rw[Sem.run_bind,run_eqGuard_agg w _ t X Y us ws o,Result.andThen_ok,run_eql_struct,q]; rfl
  ·cases e;refine Ğ.still H (u:=.bool (!r)) ?_ rfl;rw[Sem.run_bind,run_eqGuard_agg w _ t X Y us ws o,Result.andThen_ok,run_neq_struct,q]; rfl
 ·cases e
def ifc_ok {op:BinOp} {t:TypeId} {x v:AV} {c:Value} (X:Operand) (H:HR ν h w) (e:WT P op t x some=some v) (i:VR ν h w x c) :
 Ğ P ν h w (do eqGuard op t X (.const .nilIface) c .nilIface; binOp op t c .nilIface) v h:=by
 unfold WT at e
 split at e<;>try (cases e; done)
 rename_i ms g
 split at e<;>try (cases e; done)
 rename_i a;obtain⟨k,h0,j⟩:=i
 have f:∀b:Bool,a=b->(Op.equal t c .nilIface).run P w=.ok (!b) w/\(eqGuard op t X (.const .nilIface) c .nilIface).run P w=.ok () w:=by
  intro b hb
  cases b with
  |false =>
   rw[h0 hb];refine⟨?_,?_⟩
   ·show(Op.equalIn (9999+1) t .nilIface .nilIface).run P w=_;generalize 9999=n;rw[Op.equalIn,Sem.run_bind,run_underlying g]; rfl
   ·cases op<;>first|rfl|(cases X<;>rfl)
  |true =>
   obtain⟨tx,u,rfl⟩:=j hb;refine⟨?_,?_⟩
   ·show(Op.equalIn (9999+1) t (.iface tx u) .nilIface).run P w=_;generalize 9999=n;rw[Op.equalIn,Sem.run_bind,run_underlying g]; rfl
   ·cases op<;>rfl
 obtain⟨k1,k2⟩:=f a rfl
 have d:∀op:BinOp,(op=.eql->binOp op t c .nilIface=(do pure (.bool (<-Op.equal t c .nilIface))))/\(op=.neq->binOp op t c .nilIface=(do pure (.bool !(<-Op.equal t c .nilIface)))):=fun op=>by
  constructor
  ·rintro rfl; cases c<;>rfl
  ·rintro rfl; cases c<;>rfl
 split at e<;>try (cases e; done)
 ·cases e;refine Ğ.still H (u:=.bool (!a)) ?_ rfl;rw[Sem.run_bind,k2,Result.andThen_ok,(d _).1 rfl,Sem.run_bind,k1];rfl
 ·cases e;refine Ğ.still H (u:=.bool a) ?_ rfl;rw[Sem.run_bind,k2,Result.andThen_ok,(d _).2 rfl,Sem.run_bind,k1];simp
def PP {op:UnOp} {x v:AV} {c:Value} (H:HR ν h w) (d:VR ν h w x c)
 (e:(match op,x with|.not,.bool b=>some (AV.bool (!b))|.neg,.int k n=>arK k (0-n) some|_,_=>none)=some v):Ğ P ν h w (Op.unary op c) v h:=by
 split at e<;>try (cases e; done)
 ·cases e;rename_i b d;have:c=.bool b:=d;subst this;exact Ğ.still H rfl rfl
 ·rename_i k n d;have:c=.int k n:=d;subst this;rw[Hc e];exact Ğ.still H (u:=.int k (k.wrap (0-n))) rfl rfl
end
end Go.Am
end

noncomputable section
namespace Go.Am
variable [Globs] [È]
section
variable {ν ν':Nat->Value} {h h':th Blk} {w w':World} {P:Program}
def D0 (b:AV):∀(as:th AV) (h:th Blk),í (rB h as) b=í h b
 |[],_=>rfl
 |a::as,h=>by rw[rB,D0 b as,wC]
def qk.mono {av c:Nat->Prop} (e:∀b,c b->av b) {t:Ty} {xs:th (Val t)} {news:th Value} (d:qk w av t xs news):qk w c t xs news :=
 ⟨d.1,fun i x hi=>CR.mono e (d.2 i x hi)⟩
def Cd {a:AV} {id:Nat} {h:th Blk} (b:lkB h id=.dead):lkB (kD h a) id=.dead:=by
 have c:∀(j g:Nat) (t:Ty) (fz:Bool) (xs:th (Val t)),lkB h j=.row t g fz xs->lkB (á h j (.row t g true xs)) id=.dead:=fun j g t fz xs d=>by
  by_cases e:id=j
  ·subst e; rw[b] at d; cases d
  ·rw[Ê _ e]; exact b
 cases a<;>try exact b
 all_goals
  simp only[kD]
  split
  ·exact c _ _ _ _ _ ‹_›
  ·exact b
def B9 {id:Nat}:∀(as:th AV) {h:th Blk},lkB h id=.dead->lkB (rB h as) id=.dead
 |[],_,b=>b
 |_::as,_,b=>B9 as (Cd b)
def Nc {v:AV} {id:Nat} {h:th Blk} (b:lkB h id=.dead):lkB (frz h v) id=.dead:=by
 unfold frz; split
 ·exact B9 _ b
 ·exact Cd b
def Ca {id:Nat}:∀(ps:th (Nat×AV)) {h:th Blk},lkB h id=.dead->lkB (frzA h ps) id=.dead
 |[],_,b=>b
 |(_,_)::ps,_,b=>Ca ps (Nc b)
def Mm {h0:th Blk} {ty:Ty}:∀(ps:th (Nat×AV)) (us:th (Nat×Value)) (k:Nat) (c:Array Value) (xs:th (Val ty)) (h:th Blk),(∀b,í h b=í h0 b)->HR ν h w->zW h0 ty k ps=some xs ->
 ê (fun(a:Nat×AV) (b:Nat×Value)=>a.1=b.1/\VR ν h w a.2 b.2) ps us->(k+ps.length)*ty.size<=c.size ->
 ∃c' news,Instr.fill (fun i=>some (i*ty.size,ty.size)) c us=some c'/\c'.toList=c.toList.take (k*ty.size)++news++c.toList.drop ((k+ps.length)*ty.size)/\qk w (Av ν (frzA h ps)) ty xs news/\xs.length=ps.length /\
  Ev h.length ν h w ν (frzA h ps) w/\HR ν (frzA h ps) w/\(∀b,Av ν (frzA h ps) b->Av ν h b)/\(frzA h ps).length=h.length
 |[],[],k,c,xs,h,g,H,e,_,_=>by
  cases e;exact⟨c,[],rfl,by simp,⟨by simp,fun i x hi=>by simp at hi⟩,rfl,Ev.refl _ _ _ _,H,fun _ hb=>hb,rfl⟩
 |[],_::_,_,_,_,_,_,_,_,d,_=>d.elim
 |_::_,[],_,_,_,_,_,_,_,d,_=>d.elim
 |(i,v)::ps,(j,u)::us,k,c,xs,h,g,H,e,d,T=>by
  obtain⟨⟨B,p⟩,d⟩:=d;simp only at B p; subst B;simp only[zW] at e
  split at e<;>try (cases e; done)
  rename_i A;simp only[bn,beq_iff_eq] at A;obtain⟨rfl,G⟩:=A
  split at e<;>try (cases e; done)
  rename_i cs M
  split at e<;>try (cases e; done)
  rename_i x S
  split at e<;>try (cases e; done)
  rename_i xs' D;cases e;obtain⟨vs,r,rfl⟩:=wB M;obtain⟨K,J⟩:=Rz r h;have L:=p.cells r;have N:=vO H (L.mono fun _ _ q=>q.1) (J G);have t:vs.map (í h)=vs.map (í h0):=cG fun b _=>g b;rw[t] at N;have o:=ÿ S N;obtain⟨R,H1,I⟩:=tN vs H;simp only[frzA,K]
  have f:u.cells.size=ty.size:=by have:=o.length; simpa using this
  have z:(i+1+ps.length)*ty.size<=c.size:=by rw[show i+1+ps.length=i+(ps.length+1) by omega]; simpa using T
  have hi:i*ty.size+ty.size<=c.size:=by
   have:=bQ ty.size (show i+1<=i+1+ps.length by omega);rw[bR i 1,dv] at this;omega
  have m:u.cells.toList.length=ty.size:=by simpa using f
  have C:(c.toList.take (i*ty.size)++u.cells.toList++c.toList.drop (i*ty.size+ty.size)).toArray.size=c.size:=by
   simp only[cZ,bp,bN,dJ,du,m]; omega
  obtain⟨c',news,Z,h2,Y,X,W,V,O,U⟩:=Mm ps us (i+1) (c.toList.take (i*ty.size)++u.cells.toList++c.toList.drop (i*ty.size+ty.size)).toArray xs' (rB h vs)
   (fun b=>(D0 b vs h).trans (g b)) H1 D (d.mono fun _ _ q=>⟨q.1,q.2.ev R⟩) (by rw[C]; exact z)
  refine⟨c',u.cells.toList++news,?_,?_,?_,by simp[X],R.trans W (by rw[ń]; exact bm _),V,fun b hb=>I b (O b hb),by rw[U,ń]⟩
  ·rw[pS rfl f hi]; exact Z
  ·rw[h2]
   have a1:(c.toList.take (i*ty.size)++u.cells.toList++c.toList.drop (i*ty.size+ty.size)).take ((i+1)*ty.size)=c.toList.take (i*ty.size)++u.cells.toList:=by
    have l:(c.toList.take (i*ty.size)++u.cells.toList).length=(i+1)*ty.size:=by
     rw[bp,bN,du,m,bR,dv]; omega
    rw[<-l,List.take_left]
   have a2:(c.toList.take (i*ty.size)++u.cells.toList++c.toList.drop (i*ty.size+ty.size)).drop ((i+1+ps.length)*ty.size)=c.toList.drop ((i+(ps.length+1))*ty.size):=by
    have l:(c.toList.take (i*ty.size)++u.cells.toList).length=i*ty.size+ty.size:=by
     rw[bp,bN,du,m]; omega
    rw[show(i+1+ps.length)*ty.size=(c.toList.take (i*ty.size)++u.cells.toList).length+ps.length*ty.size by rw[l,bR,bR,dv],<-dK,List.drop_left,dK];congr 1;rw[bR,bR,dv]; omega
   show(List.take ((i+1)*ty.size) _++news++List.drop ((i+1+ps.length)*ty.size) _)=_;rw[a1,a2];simp
  ·have s:qk w (Av ν (frzA (rB h vs) ps)) ty [x] u.cells.toList:=⟨by simp[f],fun q y E=>by
    cases q with
    |zero =>
     simp at E; subst E;simp only[Nat.zero_mul,List.drop_zero];rw[cm (by omega)];exact CR.mono O o
    |succ q=>simp at E⟩
   exact s.append Y
def G5 {S:St} {a:Act} {nid n:Nat} {t e:TypeId} {ty:Ty} {ps:Array (Nat×Operand)} {xs:th (Val ty)} (H:Sim ν S a w) (s:nid<S.h.length) (hd:lkB S.h nid=.dead) (J:tR P t=some e)
 (d:ur P e ty.size=true) (f:ps.toList.length=n) (u:n*ty.size<=65536) (D:zW S.h ty 0 (ps.toList.map fun p=>(p.1,ev S.t p.2))=some xs) :
 Ğ P ν S.h w (Instr.buildSlice t n (ps.map fun(i,x)=>(i,a.eval x))) (.own nid 0) (á (frzA S.h (ps.toList.map fun p=>(p.1,ev S.t p.2))) nid (.row ty 0 false xs)):=by
 obtain⟨i,z,hi,l,r,K,C,B⟩:=fN d;have E:=Υ J
 have o:((Array.range (n*ty.size)).map (fun j=>(if n*ty.size=0 then(#[]:Array Value) else z.cells)[j % (if n*ty.size=0 then(#[]:Array Value) else z.cells).size]!)).size=n*ty.size:=by simp
 obtain⟨c',news,N,h2,A,q,M,L,O,k⟩:=Mm (ν:=ν) (w:=w) (h0:=S.h) _ (ps.toList.map fun p=>(p.1,a.eval p.2)) 0 ((Array.range (n*ty.size)).map (fun j=>(if n*ty.size=0 then(#[]:Array Value) else z.cells)[j % (if n*ty.size=0 then(#[]:Array Value) else z.cells).size]!)) xs S.h (fun _=>rfl) H.heap D (uA H ps.toList)
  (by rw[o]; simp only[cd]; rw[f,bK]; exact bm _)
 rw[cd,f] at h2 q
 have g:c'.toList=news:=by
  rw[h2];simp
 have m:lkB (frzA S.h (ps.toList.map fun p=>(p.1,ev S.t p.2))) nid=.dead:=Ca _ hd
 have b:=sW (w':=w.alloc (.cells c' e)) L (id:=nid) (g':=0) (xs':=xs) (cap':=n) (by rw[k]; exact s) (fun V=>by rw[m]; trivial) rfl rfl rfl rfl (by omega) (by
  have:c'.size=news.length:=by rw[<-g]; simp
  rw[this,A.1,q]; exact bm _) A (fun j v y=>by rw[<-g] at y; simpa using y)
 rw[q] at b;refine⟨_,_,_,?_,oa (by rw[k]; exact s) rfl,b.2,(M.trans b.1 (by rw[k]; exact bm _)),by rw[É,k]⟩
 have G:(ps.map fun(x:Nat×Operand)=>(x.1,a.eval x.2)).toList=ps.toList.map fun p=>(p.1,a.eval p.2):=by simp
 have I:¬(16777216<n*ty.size):=by omega
 have c:Instr.fill (fun i=>some (i*ty.size,ty.size)) ((Array.range (n*ty.size)).map (fun j=>(if n*ty.size=0 then(#[]:Array Value) else z.cells)[j % (if n*ty.size=0 then(#[]:Array Value) else z.cells).size]!)) (ps.map fun(x:Nat×Operand)=>(x.1,a.eval x.2)).toList=some c':=by rw[G]; exact N
 simp only[Instr.buildSlice,Sem.run_bind,run_underlying E,Result.andThen_ok,sizeOf,typeInfo,run_program,hi,Sem.run_pure,l];rw[show(2:Nat) ^ 24=16777216 from rfl,if_neg (by omega:¬n*ty.size>16777216)]
 by_cases h0:n*ty.size=0
 ·simp only[h0,if_true,Sem.run_bind,Sem.run_pure,Result.andThen_ok] at c ⊢
  erw [c]
  simp[newRow]
 ·simp only[h0,if_false,Sem.run_bind,zeroValue,typeInfo,run_program,hi,C,Sem.run_pure,Result.andThen_ok] at c ⊢
  erw [c]
  simp[newRow]
end
end Go.Am
end

noncomputable section
namespace Go.Am
variable [Globs] [È]
section
variable {ν ν':Nat->Value} {h h':th Blk} {w w':World} {P:Program}
def upd2 (H:HR ν h w) {i j:Nat} {A B:Blk} {U V:Value} (L:i≠j) (hi:i<h.length) (hj:j<h.length) (X:w'.os=w.os) (C:w'.tape=w.tape) (K:w'.output=w.output)
 (o:w.heap.size<=w'.heap.size)
 (u:∀b,b<w.heap.size->((lkB h i).live=true->¬č (ν i) b)->((lkB h j).live=true->¬č (ν j) b)->w'.heap[b]?=w.heap[b]?)
 (hU:A.live=true->∀b,č U b->((lkB h i).live=true/\č (ν i) b)\/((lkB h j).live=true/\č (ν j) b)\/w.heap.size<=b)
 (hV:B.live=true->∀b,č V b->((lkB h i).live=true/\č (ν i) b)\/((lkB h j).live=true/\č (ν j) b)\/w.heap.size<=b)
 (z:A.live=true->B.live=true->∀b,č U b->č V b->False)
 (Z:(lkB h i).next ν (æ (æ ν i U) j V) i A) (Y:(lkB h j).next ν (æ (æ ν i U) j V) j B)
 (hbi:Ev h.length ν h w (æ (æ ν i U) j V) (á (á h i A) j B) w'->BR (æ (æ ν i U) j V) (á (á h i A) j B) w' i A)
 (hbj:Ev h.length ν h w (æ (æ ν i U) j V) (á (á h i A) j B) w'->BR (æ (æ ν i U) j V) (á (á h i A) j B) w' j B) :
 Ev h.length ν h w (æ (æ ν i U) j V) (á (á h i A) j B) w'/\HR (æ (æ ν i U) j V) (á (á h i A) j B) w':=by
 have J:lkB (á (á h i A) j B) i=A:=by rw[Ê _ L,Ù _ hi]
 have I:lkB (á (á h i A) j B) j=B:=Ù _ (by rw[É]; exact hj)
 have lo:∀{m},m≠i->m≠j->lkB (á (á h i A) j B) m=lkB h m:=fun c h2=>by rw[Ê _ h2,Ê _ c]
 have T:æ (æ ν i U) j V i=U:=by rw[ò _ _ L,Ç]
 have S:æ (æ ν i U) j V j=V:=Ç _ _ _
 have y:∀{m},m≠i->m≠j->æ (æ ν i U) j V m=ν m:=fun c h2=>by rw[ò _ _ h2,ò _ _ c]
 -- who owns a block now owned it, or it is new
 have own:∀m b,(lkB (á (á h i A) j B) m).live=true->č (æ (æ ν i U) j V m) b ->
  (∃q,(lkB h q).live=true/\č (ν q) b/\(q=m\/((q=i\/q=j)/\(m=i\/m=j))))\/(w.heap.size<=b/\(m=i\/m=j)):=by
  intro m b f hb
  by_cases c:m=i
  ·subst c;rw[J] at f; rw[T] at hb;rcases hU f b hb with h2|h2|h2
   ·exact .inl ⟨m,h2.1,h2.2,.inl rfl⟩
   ·exact .inl ⟨j,h2.1,h2.2,.inr ⟨.inr rfl,.inl rfl⟩⟩
   ·exact .inr ⟨h2,.inl rfl⟩
  ·by_cases h2:m=j
   ·subst h2;rw[I] at f; rw[S] at hb;rcases hV f b hb with h2|h2|h2
    ·exact .inl ⟨i,h2.1,h2.2,.inr ⟨.inl rfl,.inr rfl⟩⟩
    ·exact .inl ⟨m,h2.1,h2.2,.inl rfl⟩
    ·exact .inr ⟨h2,.inr rfl⟩
   ·rw[lo c h2] at f; rw[y c h2] at hb;exact .inl ⟨m,f,hb,.inl rfl⟩
 have ev:Ev h.length ν h w (æ (æ ν i U) j V) (á (á h i A) j B) w':=by
  refine⟨X,C,K,o,fun b hb l=>⟨u b hb (fun f M=>l ⟨i,f,M⟩) (fun f M=>l ⟨j,f,M⟩),?_⟩,fun m p=>?_⟩
  ·rintro⟨m,f,M⟩;rcases own m b f M with⟨q,c,h2,_⟩|⟨c,_⟩
   ·exact l ⟨q,c,h2⟩
   ·omega
  ·by_cases c:m=i
   ·subst c; rw[J]; exact Z
   ·by_cases h2:m=j
    ·subst h2; rw[I]; exact Y
    ·rw[lo c h2]
     cases hB:lkB h m with
     |dead=>trivial
     |cells cs=>exact⟨⟨cs,rfl⟩,y c h2⟩
     |row t g fz xs=>exact⟨g,fz,xs,rfl,bm _,fun _=>⟨y c h2,rfl⟩⟩
     |map k v es=>exact⟨⟨es,rfl⟩,y c h2⟩
     |deep k g xss=>exact⟨g,xss,rfl,bm _,fun _=>⟨y c h2,rfl⟩⟩
     |acc t xs=>exact⟨xs,rfl⟩
     |fns es=>exact⟨⟨es,rfl⟩,y c h2⟩
     |iter s q=>exact⟨⟨q,rfl⟩,y c h2⟩
 refine⟨ev,fun m=>?_,fun m n b p l e d=>?_,fun b hb=>bu (H.ghlt b hb) o,fun m b f hb hg=>?_,H.globE ev,H.globLE ev⟩
 ·by_cases c:m=i
  ·subst c; rw[J]; exact hbi ev
  ·by_cases h2:m=j
   ·subst h2; rw[I]; exact hbj ev
   ·rw[lo c h2];refine BR.ev ev (H.nd ev) (H.gl ev) (y c h2) (fun b f hb hlt=>u b hlt (fun D E=>c (H.inj m i b f D hb E)) (fun D E=>h2 (H.inj m j b f D hb E))) (H.blk m)
 ·-- one owner alone
  have hd:∀{m n b},(m=i\/m=j)->(n=i\/n=j)->(lkB (á (á h i A) j B) m).live=true->(lkB (á (á h i A) j B) n).live=true->č (æ (æ ν i U) j V m) b->č (æ (æ ν i U) j V n) b->m=n:=by
   intro m n b c h2 p l e d
   rcases c with rfl|rfl<;>rcases h2 with rfl|rfl
   ·rfl
   ·rw[J] at p; rw[I] at l; rw[T] at e; rw[S] at d;exact(z p l b e d).elim
   ·rw[I] at p; rw[J] at l; rw[S] at e; rw[T] at d;exact(z l p b d e).elim
   ·rfl
  rcases own m b p e with⟨q,c,h2,R⟩|⟨c,R⟩
  ·rcases own n b l d with⟨r,N,h5,x⟩|⟨N,x⟩
   ·have W:=H.inj q r b c N h2 h5;subst W;rcases R with rfl|⟨R,O⟩
    ·rcases x with rfl|⟨x,G⟩
     ·rfl
     ·exact hd x G p l e d
    ·rcases x with rfl|⟨x,G⟩
     ·exact hd O R p l e d
     ·exact hd O G p l e d
   ·have:=H.lt ⟨q,c,h2⟩; omega
  ·rcases own n b l d with⟨r,N,h5,x⟩|⟨N,x⟩
   ·have:=H.lt ⟨r,N,h5⟩; omega
   ·exact hd R x p l e d
 ·rcases own m b f hb with⟨q,c,h2,_⟩|⟨c,_⟩
  ·exact H.ghne q b c h2 hg
  ·have:=H.ghlt b hg; omega
def ka {l:th Value} {b:Nat}:č (.agg l.toArray) b↔∃u∈l,fq u=some b:=by
 show(∃u∈l.toArray.toList,fq u=some b)↔_;simp
def T0 {k:IntKind} {xss:th (th Int)} {us:th Value} (h:ê (LW w k) xss us):∀u∈us,u.oneCell'=true:=by
 intro u b;obtain⟨i,hi,rfl⟩:=bV.1 b;obtain⟨xs,_,base,cap,e,_⟩:=h.get' (bo hi);rw[e]; rfl
def Qd {k:IntKind} {xss:th (th Int)} {us:th Value} (h:ê (LW w k) xss us):∀u∈us,∀b,fq u=some b->b<w.heap.size:=by
 intro u f b hb;obtain⟨i,hi,rfl⟩:=bV.1 f;obtain⟨xs,_,base,cap,e,_,d⟩:=h.get' (bo hi);rw[e] at hb;rcases d with⟨rfl,_⟩|⟨j,off,c,g,rfl,d,_⟩
 ·cases hb
 ·cases hb; exact Û d
def UH (H:HR ν h w) {nid id g n:Nat} {t e:TypeId} {k:IntKind} {xs:th Int} {i:TypeInfo} {z:Value} (r:nid<h.length) (hd:lkB h nid=.dead) (ht:P.underlying t=some (.slice e)) (hi:P.info? e=some i) (K:i.size=1) (hz:i.zero=some z) (hzs:z.cells.size=1)
 (s:lkB h id=.row (.int k) g false xs) (hn:n=1) {R:Value} (J:R=ν id) :
 Ğ P ν h w (Instr.buildSlice t n #[(0,R)]) (.dp nid 0) (á (á h id (.row (.int k) (g+1) false [])) nid (.deep k 0 [xs])):=by
 subst hn
 have D:id≠nid:=fun e=>by rw[e,hd] at s; cases s
 have L:id<h.length:=Ę s (by simp);have X:=H.blk id;rw[s] at X;obtain⟨base,cap,G,h2,p⟩:=X
 have l:(lkB h id).live=true:=by rw[s]; rfl
 have N:(base=none/\cap=0)\/∃b off c e,base=some ⟨b,off,none⟩/\w.heap[b]?=some (.cells c e (0,0))/\off+cap<=c.size/\∀(j:Nat) (x:Int),xs[j]?=some x->c[off+j]?=some (.int k x):=by
  rcases p with p|⟨b,off,c,O,p,E,M,h6⟩
  ·exact .inl p
  ·refine .inr ⟨b,off,c,O,p,E,by simpa[Ty.size] using M,fun j x hx=>?_⟩;obtain⟨us,Z,Y⟩:=h6 j x hx;have I:us=[.int k x]:=Z;subst I;have:=Y 0 _ rfl;simp only[World.cell?,E] at this;simpa[Ty.size] using this
 have q:(ν id).oneCell'=true:=by rw[G]; rfl
 have d:(w.alloc (.cells #[ν id] e)).heap=w.heap.push (.cells #[ν id] e (0,0)):=rfl
 have f:∀b,b<w.heap.size->(w.alloc (.cells #[ν id] e)).heap[b]?=w.heap[b]?:=fun b hb=>by rw[d,cF]; simp[dC hb]
 obtain⟨ev,hr⟩:=upd2 (w':=w.alloc (.cells #[ν id] e)) (A:=.row (.int k) (g+1) false []) (B:=.deep k 0 [xs]) (U:=.slice none 0 0) (V:=.agg [Value.slice (some ⟨w.heap.size,0,none⟩) 1 1,ν id].toArray) H D L r rfl rfl rfl (by rw[d]; simp)
  (fun b hb _ _=>f b hb) (fun _ b hb=>by cases hb)
  (fun _ b hb=>by
   obtain⟨u,T,hb⟩:=ka.1 hb;simp only[bw,cw,or_false] at T;rcases T with rfl|rfl
   ·cases hb; exact .inr (.inr (bm _))
   ·exact .inl ⟨l,by rw[G] at hb ⊢; exact hb⟩)
  (fun _ _ b hb _=>by cases hb)
  (by rw[s]; exact⟨g+1,false,[],rfl,d8 _,fun hf=>by omega⟩) (by rw[hd]; trivial)
  (fun ev=>⟨none,0,by rw[ò _ _ D,Ç]; rfl,bm _,.inl ⟨rfl,rfl⟩⟩)
  (fun ev=>by
   have C:(w.alloc (.cells #[ν id] e)).heap[w.heap.size]?=some (.cells #[ν id] e (0,0)):=by rw[d]; simp
   refine⟨some ⟨w.heap.size,0,none⟩,1,[ν id],by rw[Ç]; rfl,by simp,?_,.inr ⟨w.heap.size,0,#[ν id],e,rfl,C,by simp,fun m u W=>?_⟩,⟨base,cap,G,h2,?_⟩,trivial⟩
   ·refine List.Pairwise.cons (fun v S b hb y=>?_) (dY _ _);simp at S;subst S
    obtain rfl:w.heap.size=b:=by simpa[fq] using hb
    have:=H.lt ⟨id,l,by rw[G] at y ⊢; exact y⟩;omega
   ·cases m with
    |zero=>simpa using W
    |succ m=>simp at W
   ·rcases N with p|⟨b,off,c,O,p,E,M⟩
    ·exact .inl p
    ·exact .inr ⟨b,off,c,O,p,by
      rw[f b (Û E),E],M⟩)
 refine⟨_,w.alloc (.cells #[ν id] e),.slice (some ⟨w.heap.size,0,none⟩) 1 1,?_,⟨rfl,k,0,[xs],?_,bm _,fun _=>⟨[ν id],Ç _ _ _⟩⟩,hr,ev,by rw[É,É]⟩
 ·subst J;simp only[Instr.buildSlice,Sem.run_bind,run_underlying ht,Result.andThen_ok,sizeOf,typeInfo,run_program,hi,Sem.run_pure,K];rw[show(2:Nat) ^ 24=16777216 from rfl,if_neg (by omega:¬1*1>16777216)];simp only[dL,Nat.one_ne_zero,if_false,Sem.run_bind,zeroValue,typeInfo,run_program,hi,hz,Sem.run_pure,Result.andThen_ok]
  have o:Instr.fill (fun i=>some (i*1,1)) ((Array.range 1).map (fun j=>z.cells[j % z.cells.size]!)) [(0,ν id)]=some #[ν id]:=by
   have:=pS (place:=fun i=>some (i*1,1)) (cells:=(Array.range 1).map (fun j=>z.cells[j % z.cells.size]!)) (i:=0) (v:=ν id) (rest:=[]) (off:=0) (size:=1) rfl (by have:=kz q; simpa using congrArg List.length this) (by simp);rw[this];have hc:=kz q;simp[Instr.fill,hc]
  simp only[dL] at o
  erw [o]
  simp[newRow]
 ·exact Ù _ (by rw[É]; exact r)
def Hz (H:HR ν h w) {G:Nat->Prop} {id g:Nat} {k:IntKind} {xss:th (th Int)} (N:lkB h id=.deep k g xss) {v:Value} (K:∃us,ν id=.agg (v::us).toArray) (O:∀b,č (ν id) b->¬G b) :
 CR w G (.slice (.slice (.int k))) xss [v]:=by
 obtain⟨us,s⟩:=K;obtain⟨base,cap,D,A,h2,_,V,U⟩:=H.table N;have z:=A;rw[s] at A;have q:=gI A
 injection q with I E
 subst I E;have own:∀u∈Value.slice base xss.length cap::us,∀b,fq u=some b->¬G b:=fun u r b hb=>O b (by rw[z]; exact⟨u,by simpa using r,hb⟩);refine⟨base,cap,rfl,h2,?_⟩;rcases V with⟨rfl,rfl⟩|⟨b,off,c,e,rfl,B,X,T⟩
 ·exact .inl (bG.1 (by omega))
 ·refine .inr ⟨b,off,rfl,own _ (.head _) b rfl,Û B,fun i xs J=>?_⟩;obtain⟨u,r,L⟩:=U.get J;refine⟨[u],?_,fun j y d=>?_⟩
  ·obtain⟨f,p,rfl,S,R⟩:=L;refine⟨f,p,rfl,S,?_⟩;rcases R with⟨rfl,rfl⟩|⟨C,l,Z,Y,rfl,o,W,t⟩
   ·exact .inl (bG.1 (by omega))
   ·refine .inr ⟨C,l,rfl,own _ (.tail _ (bJ r)) C rfl,Û o,fun m x M=>⟨[.int k x],rfl,fun j y d=>?_⟩⟩
    cases j with
    |zero =>
     simp at d;subst d;simp only[World.cell?,o];have:=t m x M;simpa[Ty.size] using this
    |succ j=>simp at d
  ·cases j with
   |zero =>
    simp at d;subst d;simp only[World.cell?,B];have:=T i _ r;simpa[Ty.size] using this
   |succ j=>simp at d
def UG (H:HR ν h w) {nid id g n:Nat} {t e:TypeId} {k:IntKind} {xss:th (th Int)} {i:TypeInfo} {z:Value} (D:nid<h.length) (hd:lkB h nid=.dead) (ht:P.underlying t=some (.slice e)) (hi:P.info? e=some i) (O:i.size=1) (hz:i.zero=some z) (hzs:z.cells.size=1)
 (I:lkB h id=.deep k g xss) (R:n=1) {d:Value} (s:∃us,ν id=.agg (d::us).toArray) :
 Ğ P ν h w (Instr.buildSlice t n #[(0,d)]) (.own nid 0) (á (á h id (.deep k (g+1) [])) nid (.row (.slice (.slice (.int k))) 0 false [xss])):=by
 subst R;have K:=s;obtain⟨us,s⟩:=s
 have L:id≠nid:=fun e=>by rw[e,hd] at I; cases I
 have S:id<h.length:=Ę I (by simp)
 have f:(lkB h id).live=true:=by rw[I]; rfl
 have C:d.oneCell'=true:=by
  obtain⟨base,cap,Y,X,_⟩:=H.table I;rw[s] at X;have q:=gI X
  injection q with Z q2
  rw[Z]; rfl
 have l:(w.alloc (.cells #[d] e)).heap=w.heap.push (.cells #[d] e (0,0)):=rfl
 have p:∀b,b<w.heap.size->(w.alloc (.cells #[d] e)).heap[b]?=w.heap[b]?:=fun b hb=>by rw[l,cF]; simp[dC hb]
 have E:(w.alloc (.cells #[d] e)).heap[w.heap.size]?=some (.cells #[d] e (0,0)):=by rw[l]; simp
 obtain⟨ν',o⟩:∃ν',ν'=æ (æ ν id (.agg [Value.slice none 0 0].toArray)) nid (.slice (some ⟨w.heap.size,0,none⟩) 1 1):=⟨_,rfl⟩;obtain⟨h',M⟩:∃h',h'=á (á h id (.deep k (g+1) [])) nid (.row (.slice (.slice (.int k))) 0 false [xss]):=⟨_,rfl⟩
 have J:∀b,č (ν id) b->¬Av ν' h' b:=by
  intro b hb;rintro(⟨m,G,c⟩|hg)
  ·by_cases W:m=nid
   ·subst W;rw[o,Ç] at c;obtain rfl:w.heap.size=b:=Option.some.inj c;have:=H.lt ⟨id,f,hb⟩;omega
   ·rw[o,ò _ _ W] at c;rw[M,Ê _ W] at G
    by_cases N:m=id
    ·subst N;rw[Ç] at c;obtain⟨u,y,c⟩:=ka.1 c;simp at y;subst y;cases c
    ·rw[ò _ _ N] at c;rw[Ê _ N] at G;exact N (H.inj m id b G f c hb)
  ·exact H.ghne id b f hb hg
 have T:CR (w.alloc (.cells #[d] e)) (Av ν' h') (.slice (.slice (.int k))) xss [d]:=CR.keep (fun b hb R=>⟨p b hb,R⟩) (Hz H I K J)
 obtain⟨ev,hr⟩:=upd2 (w':=w.alloc (.cells #[d] e)) (A:=.deep k (g+1) []) (B:=.row (.slice (.slice (.int k))) 0 false [xss]) (U:=.agg [Value.slice none 0 0].toArray) (V:=.slice (some ⟨w.heap.size,0,none⟩) 1 1) H L S D rfl rfl rfl (by rw[l]; simp)
  (fun b hb _ _=>p b hb)
  (fun _ b hb=>by
   obtain⟨u,y,hb⟩:=ka.1 hb;simp at y;subst y
   cases hb)
  (fun _ b hb=>by
   obtain rfl:w.heap.size=b:=Option.some.inj hb
   exact .inr (.inr (bm _)))
  (fun _ _ b hb _=>by
   obtain⟨u,y,hb⟩:=ka.1 hb;simp at y;subst y
   cases hb)
  (by rw[I]; exact⟨g+1,[],rfl,d8 _,fun hf=>by omega⟩) (by rw[hd]; trivial)
  (fun ev=>⟨none,0,[],by rw[ò _ _ L,Ç]; rfl,bm _,dY _ _,.inl ⟨rfl,rfl⟩,trivial⟩)
  (fun ev=>by
   rw[<-o,<-M];refine⟨some ⟨w.heap.size,0,none⟩,1,by rw[o,Ç]; rfl,by simp,.inr ⟨w.heap.size,0,#[d],e,rfl,E,by simp[Ty.size],fun m x G=>?_⟩⟩
   cases m with
   |zero =>
    simp at G;subst G;refine⟨[d],T,?_⟩;have:=Ċ.of_cells E;simpa using this
   |succ m=>simp at G)
 refine⟨_,w.alloc (.cells #[d] e),.slice (some ⟨w.heap.size,0,none⟩) 1 1,?_,⟨rfl,.slice (.slice (.int k)),0,false,[xss],?_,bm _,fun _=>(Ç _ _ _).symm⟩,hr,ev,by rw[É,É]⟩
 ·simp only[Instr.buildSlice,Sem.run_bind,run_underlying ht,Result.andThen_ok,sizeOf,typeInfo,run_program,hi,Sem.run_pure,O];rw[show(2:Nat) ^ 24=16777216 from rfl,if_neg (by omega:¬1*1>16777216)];simp only[dL,Nat.one_ne_zero,if_false,Sem.run_bind,zeroValue,typeInfo,run_program,hi,hz,Sem.run_pure,Result.andThen_ok]
  have r:Instr.fill (fun i=>some (i*1,1)) ((Array.range 1).map (fun j=>z.cells[j % z.cells.size]!)) [(0,d)]=some #[d]:=by
   have:=pS (place:=fun i=>some (i*1,1)) (cells:=(Array.range 1).map (fun j=>z.cells[j % z.cells.size]!)) (i:=0) (v:=d) (rest:=[]) (off:=0) (size:=1) rfl (by have:=kz C; simpa using congrArg List.length this) (by simp);rw[this];have hc:=kz C;simp[Instr.fill,hc]
  simp only[dL] at r
  erw [r]
  simp[newRow]
 ·exact Ù _ (by rw[É]; exact D)
def Ko {k:IntKind} {base:so Addr} {cap:Nat} {xss:th (th Int)} {us:th Value} (l:ê (LW w k) xss us)
 (d:(base=none/\cap=0)\/∃b off c e,base=some ⟨b,off,none⟩/\w.heap[b]?=some (.cells c e (0,0))/\off+cap<=c.size/\∀(i:Nat) (u:Value),us[i]?=some u->c[off+i]?=some u) (o:xss.length<=cap) :
 (∀a,base=some a->∀j u,us[j]?=some u->w.cell? (a.add j)=some u)/\(base=none->us=[]):=by
 constructor
 ·intro a ha j u m;rcases d with⟨d,_⟩|⟨b,off,c,e,d,g,_,f⟩
  ·rw[d] at ha; cases ha
  ·rw[d] at ha; cases ha;rw[Ĕ];simp only[World.cell?,g];exact f j u m
 ·intro hb;rcases d with⟨_,d⟩|⟨b,off,c,e,d,_⟩
  ·have:=l.length;exact bG.1 (by omega)
  ·rw[hb] at d; cases d
def GM (H:HR ν h w) {j f:Nat} (y:f≠j) (hj:j<h.length) {k:IntKind} {U g':Nat} {xss g:th (th Int)} (z:lkB h f=.deep k U g) {L:so Addr} {T:Nat} {us i:th Value} (B:ν f=.agg (Value.slice L g.length T::i).toArray)
 (J:∀W,(lkB h j).next ν W j (.deep k g' (xss++g)))
 (p:ê (LW w k) xss us) (D:∀u∈us,∀b,fq u=some b->(lkB h j).live=true/\č (ν j) b) (hap:J9 us)
 {base':so Addr} {cap':Nat} {w':World} (O:xss.length+g.length<=cap') (Y:w'.os=w.os) (E:w'.tape=w.tape) (M:w'.output=w.output) (G:w.heap.size<=w'.heap.size)
 (s:∀b,fq (.slice base' (xss.length+g.length) cap')=some b->((lkB h j).live=true/\č (ν j) b/\∀u∈us,fq u≠some b)\/w.heap.size<=b)
 (r:∀b,b<w.heap.size->fq (.slice base' (xss.length+g.length) cap')≠some b->w'.heap[b]?=w.heap[b]?)
 (A:(base'=none/\cap'=0)\/∃b off c e,base'=some ⟨b,off,none⟩/\w'.heap[b]?=some (.cells c e (0,0))/\off+cap'<=c.size/\∀(m:Nat) (u:Value),(us++i)[m]?=some u->c[off+m]?=some u) :
 Ev h.length ν h w (æ (æ ν f (.agg [Value.slice none 0 0].toArray)) j (.agg (Value.slice base' (xss.length+g.length) cap'::(us++i)).toArray)) (á (á h f (.deep k (U+1) [])) j (.deep k g' (xss++g))) w' /\
  HR (æ (æ ν f (.agg [Value.slice none 0 0].toArray)) j (.agg (Value.slice base' (xss.length+g.length) cap'::(us++i)).toArray)) (á (á h f (.deep k (U+1) [])) j (.deep k g' (xss++g))) w':=by
 have N:f<h.length:=Ę z (by simp);obtain⟨V,cap2',us2',q1,q2,q3,q4,q5⟩:=H.table z;rw[B] at q1;have q:=gI q1
 injection q with e1 e2
 subst e2
 have l:(lkB h f).live=true:=by rw[z]; rfl
 have o:∀u∈i,∀b,fq u=some b->č (ν f) b:=fun u d b hb=>by rw[B]; exact ka.2 ⟨u,by simp[d],hb⟩
 have R:J9 i:=q3.sublist (List.sublist_cons_self _ _)
 have K:∀u∈us,∀v∈i,∀b,fq u=some b->fq v≠some b:=fun u d v t b hb X =>
  y (H.inj f j b l (D u d b hb).1 (o v t b X) (D u d b hb).2)
 have S:∀u∈us++i,∀b,fq (.slice base' (xss.length+g.length) cap')=some b->fq u≠some b:=fun u d b hb x=>by
  rcases s b hb with⟨h1,h2,C⟩|h1
  ·rcases bq.1 d with d|d
   ·exact C u d x
   ·exact y (H.inj f j b l h1 (o u d b x) h2)
  ·rcases bq.1 d with d|d
   ·have:=Qd p u d b x; omega
   ·have:=Qd q5 u d b x; omega
 have I:∀u∈us++i,∀b,fq u=some b->b<w.heap.size->w'.heap[b]?=w.heap[b]?:=fun u d b hb Z=>r b Z fun t=>S u d b t hb;refine upd2 H y N hj Y E M G (fun b hb h1 h2=>r b hb fun t=>?_) (fun _ b hb=>?_) (fun _ b hb=>?_) (fun _ _ b hb _=>?_) ?_ (J _) (fun ev=>?_) (fun ev=>?_)
 ·rcases s b t with⟨C,h4,_⟩|C
  ·exact h2 C h4
  ·omega
 ·obtain⟨u,d,hb⟩:=ka.1 hb;simp at d;subst d;cases hb
 ·obtain⟨u,d,hb⟩:=ka.1 hb;rcases bw.1 d with rfl|d
  ·rcases s b hb with⟨C,h4,_⟩|C
   ·exact .inr (.inl ⟨C,h4⟩)
   ·exact .inr (.inr C)
  ·rcases bq.1 d with d|d
   ·exact .inr (.inl (D u d b hb))
   ·exact .inl ⟨l,o u d b hb⟩
 ·obtain⟨u,d,hb⟩:=ka.1 hb;simp at d;subst d;cases hb
 ·rw[z]; exact⟨U+1,[],rfl,d8 _,fun hf=>by omega⟩
 ·exact⟨none,0,[],by rw[ò _ _ y,Ç]; rfl,bm _,dY _ _,.inl ⟨rfl,rfl⟩,trivial⟩
 ·refine⟨base',cap',us++i,by rw[Ç,bp],by rw[bp]; exact O,?_,A,?_⟩
  ·rw[bp];exact List.Pairwise.cons (fun v t b hb=>S v t b hb) (List.pairwise_append.2 ⟨hap,R,fun u d v t b hb=>K u d v t b hb⟩)
  ·exact(p.append q5).keepRows I
def NA {n b:Nat} (c:n<=4294967296) (h2:b<=32768):n*b<=140737488355328:=by
 have:=eo c h2;omega
def JG (H:HR ν h w) (t ty:TypeId) {e:TypeId} {i:TypeInfo} {z:Value} (ht:P.underlying t=some (.slice e)) (hi:P.info? e=some i) (hz:i.zero=some z) (C:i.size=1) (hby:i.bytes<=32768) (hzs:z.cells.size=1)
 {j r:Nat} (S:r≠j) (hj:j<h.length) {k:IntKind} {g2 g':Nat} {xss d:th (th Int)} (K:lkB h r=.deep k g2 d) {base p:so Addr} {cap s:Nat} {us f:th Value} (B:ν r=.agg (Value.slice p d.length s::f).toArray)
 (x:∀W,(lkB h j).next ν W j (.deep k g' (xss++d)))
 (hx:(base=none/\cap=0/\xss=[]/\us=[])\/∃g,lkB h j=.deep k g xss/\ν j=.agg (Value.slice base xss.length cap::us).toArray)
 (I:xss.length+d.length<=4294967296) :
 ∃V w',(Builtin.append_ #[t,t] ty #[.slice base xss.length cap,.slice p d.length s]).run P w=.ok V w'/\V.oneCell'=true /\
  Ev h.length ν h w (æ (æ ν r (.agg [Value.slice none 0 0].toArray)) j (.agg (V::(us++f)).toArray)) (á (á h r (.deep k (g2+1) [])) j (.deep k g' (xss++d))) w' /\
  HR (æ (æ ν r (.agg [Value.slice none 0 0].toArray)) j (.agg (V::(us++f)).toArray)) (á (á h r (.deep k (g2+1) [])) j (.deep k g' (xss++d))) w':=by
 obtain⟨base2',cap2',us2',q1,q2,q3,q4,q5⟩:=H.table K;rw[B] at q1;have q:=gI q1
 injection q with U e2
 injection U with U e3 e4
 subst U e2 e4;obtain⟨c2,n2⟩:=Ko q5 q4 q2;have l2:=q5.length;have R:=T0 q5
 -- the table that grows
 have hX:ê (LW w k) xss us/\(∀u∈us,∀b,fq u=some b->(lkB h j).live=true/\č (ν j) b)/\J9 us /\
  ((base=none/\cap=0/\us=[]/\xss=[])\/∃b off c e,base=some ⟨b,off,none⟩/\w.heap[b]?=some (.cells c e (0,0))/\off+cap<=c.size/\xss.length<=cap/\(∀(i:Nat) (u:Value),us[i]?=some u->c[off+i]?=some u)/\((lkB h j).live=true/\č (ν j) b/\∀u∈us,fq u≠some b)):=by
  rcases hx with⟨rfl,rfl,rfl,rfl⟩|⟨g,hl,N⟩
  ·exact⟨trivial,fun u Y=>(by cases Y),List.Pairwise.nil,.inl ⟨rfl,rfl,rfl,rfl⟩⟩
  ·obtain⟨b',c',us',p1,p2,p3,p4,p5⟩:=H.table hl;rw[N] at p1;have q:=gI p1
   injection q with U e2
   injection U with U e3 e4
   subst U e2 e4
   have G:(lkB h j).live=true:=by rw[hl]; rfl
   refine⟨p5,fun u Y b hb=>⟨G,by rw[N]; exact ka.2 ⟨u,by simp[Y],hb⟩⟩,p3.sublist (List.sublist_cons_self _ _),?_⟩;rcases p4 with⟨rfl,rfl⟩|⟨b,off,c,e',rfl,X,p7,p8⟩
   ·have h0:xss=[]:=bG.1 (by omega);subst h0;exact .inl ⟨rfl,rfl,bG.1 p5.length.symm,rfl⟩
   ·exact .inr ⟨b,off,c,e',rfl,X,p7,p2,p8,G,by rw[N]; exact ka.2 ⟨_,.head _,rfl⟩,fun u Y hub=>(bS.1 p3).1 u Y b rfl hub⟩
 obtain⟨x1,x2,x3,x4⟩:=hX;have l1:=x1.length
 have hU2:d≠[]->∃a,p=some a:=fun L=>by
  cases hb:p with
  |none=>exact absurd (bG.1 (by rw[l2,n2 hb]; rfl)) L
  |some a=>exact⟨a,rfl⟩
 -- a new array
 have M:∀E:Nat,∃V w',(Result.ok (Value.slice (some ⟨w.heap.size,0,none⟩) (xss.length+d.length) (grownCap w (xss.length+d.length) E e))
  (w.drew.alloc (.cells (us.toArray++f.toArray++Builtin.zeroCells z.cells (grownCap w (xss.length+d.length) E e-(xss.length+d.length))) e)):Result Value)=.ok V w'/\V.oneCell'=true /\
  Ev h.length ν h w (æ (æ ν r (.agg [Value.slice none 0 0].toArray)) j (.agg (V::(us++f)).toArray)) (á (á h r (.deep k (g2+1) [])) j (.deep k g' (xss++d))) w' /\
  HR (æ (æ ν r (.agg [Value.slice none 0 0].toArray)) j (.agg (V::(us++f)).toArray)) (á (á h r (.deep k (g2+1) [])) j (.deep k g' (xss++d))) w':=by
  intro E;have hge:=grownCap_ge w (xss.length+d.length) E e;obtain⟨q,hq⟩:∃q,q=grownCap w (xss.length+d.length) E e:=⟨_,rfl⟩;rw[<-hq] at hge ⊢;obtain⟨cs,A⟩:∃cs,cs=us.toArray++f.toArray++Builtin.zeroCells z.cells (q-(xss.length+d.length)):=⟨_,rfl⟩
  have O:cs.size=q:=by
   rw[A];simp only[eW,cZ,size_zeroCells,hzs];omega
  have J:∀(m:Nat) (u:Value),(us++f)[m]?=some u->cs[m]?=some u:=fun m u D=>by
   rw[<-cA] at D;rw[A,cI,if_pos]
   ·simpa using D
   ·have:=(cg.1 D).1;simpa using this
  rw[<-A];have y:(w.drew.alloc (.cells cs e)).heap=w.heap.push (.cells cs e (0,0)):=rfl
  have T:(w.drew.alloc (.cells cs e)).heap[w.heap.size]?=some (.cells cs e (0,0)):=by rw[y]; exact Array.getElem?_push_size
  exact⟨_,_,rfl,rfl,GM (w':=w.drew.alloc (.cells cs e)) H S hj K B x x1 x2 x3 (base':=some ⟨w.heap.size,0,none⟩) (cap':=q) hge rfl rfl rfl (by rw[y]; simp)
   (fun b hb=>.inr (by cases hb; exact bm _)) (fun b hb _=>by rw[y,cF]; simp[dC hb]) (.inr ⟨w.heap.size,0,cs,e,rfl,T,by omega,fun m u D=>by rw[bK]; exact J m u D⟩)⟩
 rcases x4 with⟨rfl,rfl,rfl,rfl⟩|⟨b,off,c,e',rfl,X,p7,p8,p9,p10⟩
 ·by_cases L:d=[]
  ·subst L;have hu2:f=[]:=bG.1 l2.symm;subst hu2;have l:=j6 (P:=P) (w:=w) t ty e i ht hi p s;exact⟨_,w,l,rfl,GM H S hj K B x x1 x2 x3 (base':=none) (cap':=0) (bm _) rfl rfl rfl (bm _) (fun b hb=>by cases hb) (fun b _ _=>rfl) (.inl ⟨rfl,rfl⟩)⟩
  ·have h0:0<d.length:=dW.2 L;obtain⟨a,rfl⟩:=hU2 L;rw[bD,bK] at I;have hb48:=NA I hby;have l:=run_append_nil (P:=P) w t ty e i z ht hi hz a d.length s f (by rw[C]; omega) (c2 a rfl) h0 (by omega) (by omega);obtain⟨V,w',h1,h2,h3⟩:=M 0;refine⟨V,w',?_,h2,h3⟩;rw[<-h1];simpa using l
 ·by_cases v:xss.length+d.length<=cap
  ·have l:=iT (P:=P) (o:=off) (sLen:=xss.length) (sCap:=cap) t ty e i ht hi X p d.length s f (by rw[C]; omega) c2 n2 R v (by rw[C]; omega);rw[C,dL] at l;obtain⟨cs,A⟩:∃cs,cs=(c.toList.take (off+xss.length)++f++c.toList.drop (off+xss.length+f.length)).toArray:=⟨_,rfl⟩
   have O:cs.size=c.size:=by
    rw[A];simp only[cZ,bp,bN,dJ,du];omega
   have J:∀(m:Nat) (u:Value),(us++f)[m]?=some u->cs[off+m]?=some u:=fun m u D=>by
    have hs:=jH c.toList f (off+xss.length) (off+m) (by rw[show c.toList.length=c.size from du]; omega);rw[A,cA,hs];rw[cR] at D
    split at D
    ·rw[if_pos (by omega)];simpa using p9 m u D
    ·have hml:=(bC.1 D).1;rw[if_neg (by omega),if_pos (by omega),show off+m-(off+xss.length)=m-us.length by omega];exact D
   rw[<-A] at l;have hh:(w.setRow b cs).heap[b]?=some (.cells cs e' (0,0)):=setRow_heap w b c _ e' _ X
   exact⟨_,_,l,rfl,GM (w':=w.setRow b cs) H S hj K B x x1 x2 x3 (base':=some ⟨b,off,none⟩) (cap':=cap) v rfl rfl rfl (by rw[mQ]; exact bm _)
    (fun b' hb=>.inl (by cases hb; exact p10)) (fun b' hb Z=>setRow_other w b b' _ fun he=>Z (by rw[he]; rfl)) (.inr ⟨b,off,cs,e',rfl,hh,by omega,J⟩)⟩
  ·have L:d≠[]:=fun e=>by rw[e,bD] at v; omega
   have h0:0<d.length:=dW.2 L;obtain⟨a,rfl⟩:=hU2 L;have l:=run_append_grow (P:=P) w t ty e i z ht hi hz ⟨b,off,none⟩ xss.length cap us (by rw[C]; omega) (fun m u D=>by rw[Ĕ]; simp only[World.cell?,X]; exact p9 m u D) a d.length s f (by rw[C]; omega) (c2 a rfl) (by omega) (by omega) (growslice_fits (by omega) (NA I hby));obtain⟨V,w',h1,h2,h3⟩:=M cap;exact⟨V,w',l.trans h1,h2,h3⟩
def Xe {S:St} {a:Act} {nid n:Nat} {t:TypeId} {ps:Array (Nat×Operand)} {v:AV} (H:Sim ν S a w) (J:nid<S.h.length) (hd:lkB S.h nid=.dead)
 (e:JD P S.h nid n t (ps.toList.map fun p=>(p.1,ev S.t p.2)) (fun v h=>some (v,h))=some (v,h')):Ğ P ν S.h w (Instr.buildSlice t n (ps.map fun(i,x)=>(i,a.eval x))) v h':=by
 cases c:ps.toList with
 |nil=>rw[c] at e; cases e
 |cons p l =>
 cases l with
 |cons q l=>rw[c] at e; cases e
 |nil =>
 obtain⟨O,x⟩:=p;rw[c] at e;simp only[cH,dR,JD] at e;have B:=þ H x
 cases s:ev S.t x<;>rw[s] at e<;>simp only at e<;>try (cases e; done)
 ·rename_i id g;rw[s] at B
  split at e<;>try (cases e; done)
  rename_i N u
  split at e<;>try (cases e; done)
  rename_i A
  split at e<;>try (cases e; done)
  rename_i k g' xs y
  split at e<;>try (cases e; done)
  rename_i r;cases e;simp only[bn] at A;obtain⟨b,h0,G⟩:=A;obtain rfl:=bt h0;obtain rfl:=bt G
  obtain rfl:g=g':=by simpa using r
  obtain⟨ti,z,hi,m,_,E,C,f⟩:=fN b;have o:ps=#[(0,x)]:=bL.1 (by rw[c]);subst o;obtain⟨_,t2,L,M,K,d,_,j⟩:=B;rw[y] at d;cases d
  have D:((#[(0,x)]:Array (Nat×Operand)).map fun(i,x)=>(i,a.eval x))=#[(0,a.eval x)]:=by simp
  rw[D];exact UH H.heap J hd (Υ u) hi m C f y rfl (j rfl)
 ·rename_i id g;rw[s] at B
  split at e<;>try (cases e; done)
  rename_i N u
  split at e<;>try (cases e; done)
  rename_i A
  split at e<;>try (cases e; done)
  rename_i k g' xss y
  split at e<;>try (cases e; done)
  rename_i r;cases e;simp only[bn] at A;obtain⟨b,h0,G⟩:=A;obtain rfl:=bt h0;obtain rfl:=bt G
  obtain rfl:g=g':=by simpa using r
  obtain⟨ti,z,hi,m,_,E,C,f⟩:=fN b;have o:ps=#[(0,x)]:=bL.1 (by rw[c]);subst o;obtain⟨_,k2,L,I,d,_,j⟩:=B;rw[y] at d;cases d
  have D:((#[(0,x)]:Array (Nat×Operand)).map fun(i,x)=>(i,a.eval x))=#[(0,a.eval x)]:=by simp
  rw[D];exact UG H.heap J hd (Υ u) hi m C f y rfl (j rfl)
def Xg {nid:Nat} {t ty:TypeId} {s v:AV} {c R:Nat} {us Z:Value} (H:HR ν h w) (hn:nid<h.length) (hd:lkB h nid=.dead)
 (e:GN P h nid t s c R (fun v h=>some (v,h))=some (v,h')) (hs:VR ν h w s us) (hx:VR ν h w (.dp c R) Z):Ğ P ν h w (Builtin.append_ #[t,t] ty #[us,Z]) v h':=by
 unfold GN at e
 split at e<;>try (cases e; done)
 rename_i el K
 split at e<;>try (cases e; done)
 rename_i r
 split at e<;>try (cases e; done)
 rename_i k O l b
 split at e<;>try (cases e; done)
 rename_i J
 obtain rfl:R=O:=by simpa using J
 obtain⟨ti,z,hi,p,_,B,hz,o⟩:=fN r;have ht:=Υ K;have hid2:c<h.length:=Ę b (by simp);obtain⟨_,k2,g3,X,x,_,G⟩:=hx;rw[b] at x; cases x;obtain⟨us2,d⟩:=G rfl;obtain⟨U,cap2,us2',D,_⟩:=H.table b;have q1':=D;rw[d] at D;have q:=gI D
 injection q with T S
 subst T S
 split at e
 ·-- nil
  split at e<;>try (cases e; done)
  rename_i f;cases e;have I:us=.slice none 0 0:=hs;subst I
  have m:c≠nid:=fun e=>by rw[e,hd] at b; cases b
  obtain⟨V,w',N,h2,M,L⟩:=JG H t ty ht hi hz p B o m hn (g':=0) (xss:=[]) (us:=[]) b d (fun W=>by rw[hd]; trivial) (.inl ⟨rfl,rfl,rfl,rfl⟩) (by simp[Ñ] at f; simpa using f);refine⟨_,w',V,N,⟨h2,k,0,l,Ù _ (by rw[É]; exact hn),bm _,fun _=>⟨_,Ç _ _ _⟩⟩,L,M,by rw[É,É]⟩
 ·rename_i id g
  split at e<;>try (cases e; done)
  rename_i A
  split at e<;>try (cases e; done)
  rename_i k' g' xss y
  split at e<;>try (cases e; done)
  rename_i hg
  split at e<;>try (cases e; done)
  rename_i hk _;subst hk
  split at e<;>try (cases e; done)
  rename_i f
  obtain rfl:g=g':=by simpa using hg
  cases e
  have m:c≠id:=fun e=>by rw[e] at A; simp at A
  have j:id<h.length:=Ę y (by simp);obtain⟨_,k3,g4,Y,u,_,E⟩:=hs;rw[y] at u; cases u;obtain⟨C,i⟩:=E rfl;obtain⟨base,cap,us1',p1,_⟩:=H.table y;rw[i] at p1;have q:=gI p1
  injection q with T S
  subst T S;obtain⟨V,w',N,h2,M,L⟩:=JG H t ty ht hi hz p B o m j (g':=g+1) (xss:=xss) (us:=C) b d (fun W=>by rw[y]; exact⟨g+1,xss++l,rfl,d8 _,fun hf=>by omega⟩) (.inr ⟨g,y,i⟩) (by simpa[Ñ] using f);refine⟨_,w',V,N,⟨h2,_,g+1,xss++l,Ù _ (by rw[É]; exact j),bm _,fun _=>⟨_,Ç _ _ _⟩⟩,L,M,by rw[É,É]⟩
 ·cases e
end
end Go.Am
end

noncomputable section
namespace Go.Am
variable {ρ:Type}
def tW (k:IntKind) (n:Int) (K:AV->so ρ):arK k n K=(arK k n some).bind K:=rfl
def ro (P:Program) (op:BinOp) (t:TypeId) (x y:AV) (K:AV->so ρ):Xs P op t x y K=(Xs P op t x y some).bind K:=by
 unfold Xs; (repeat' split)<;>first|rfl|exact tW _ _ _|(unfold shK; (repeat' split)<;>rfl)
def qF (d:so TypeDesc) (h:th Blk) (x:AV) (K:AV->so ρ):TB d h x K=(TB d h x some).bind K:=by
 unfold TB; (repeat' split)<;>rfl
def jM (sz:Nat) (h:th Blk) (x i:AV) (K:AV->so ρ):sK sz h x i K=(sK sz h x i some).bind K:=by
 unfold sK; (repeat' split)<;>rfl
def jJ (h:th Blk) (x:AV) (o:Nat) (K:AV->so ρ):oN h x o K=(oN h x o some).bind K:=by
 unfold oN; (repeat' split)<;>rfl
def mB (P:Program) (h:th Blk) (t:TypeId) (a:AV) (K:AV->so ρ):BV P h t a K=(BV P h t a some).bind K:=by
 unfold BV; (repeat' split)<;>rfl
def jG (P:Program) (h:th Blk) (t:TypeId) (a v:AV) (K:th Blk->so ρ):kG P h t a v K=(kG P h t a v some).bind K:=by
 unfold kG; (repeat' split)<;>rfl
def qo (sz:Nat) (h:th Blk) (x:AV) (lo hi:so AV) (eat:Bool) (K:AV->th Blk->so ρ) :
 jY sz h x lo hi eat K=(jY sz h x lo hi eat fun v h=>some (v,h)).bind fun r=>K r.1 r.2:=by
 unfold jY; (repeat' split)<;>rfl
def nT (P:Program) (h:th Blk) (nid:Nat) (t:TypeId) (s x:AV) (K:AV->th Blk->so ρ) :
 nV P h nid t s x K=(nV P h nid t s x fun v h=>some (v,h)).bind fun r=>K r.1 r.2:=by
 unfold nV; (repeat' split)<;>rfl
def wg (P:Program) (h:th Blk) (nid:Nat) (t:TypeId) (s:AV) (id g:Nat) (K:AV->th Blk->so ρ) :
 GN P h nid t s id g K=(GN P h nid t s id g fun v h=>some (v,h)).bind fun r=>K r.1 r.2:=by
 unfold GN; (repeat' split)<;>rfl
def wc (P:Program) (h:th Blk) (nid n:Nat) (t:TypeId) (ps:th (Nat×AV)) (K:AV->th Blk->so ρ) :
 JD P h nid n t ps K=(JD P h nid n t ps fun v h=>some (v,h)).bind fun r=>K r.1 r.2:=by
 unfold JD; (repeat' split)<;>rfl
def qm (P:Program) (h:th Blk) (nid:Nat) (t:TypeId) (s x:AV) (K:AV->th Blk->so ρ) :
 tZ P h nid t s x K=(tZ P h nid t s x fun v h=>some (v,h)).bind fun r=>K r.1 r.2:=by
 unfold tZ; (repeat' split)<;>rfl
def rl (P:Program) (h:th Blk) (t:TypeId) (x:AV) (K:th Blk->so ρ):wl P h t x K=(wl P h t x some).bind K:=by
 unfold wl; (repeat' split)<;>rfl
def gY (P:Program) (h:th Blk) (t:TypeId) (m i:AV) (ok:Bool) (K:AV->so ρ):gZ P h t m i ok K=(gZ P h t m i ok some).bind K:=by
 unfold gZ; (repeat' split)<;>rfl
def ς (P:Program) (h:th Blk) (t:TypeId) (m i x:AV) (K:th Blk->so ρ):Ķ P h t m i x K=(Ķ P h t m i x some).bind K:=by
 unfold Ķ; (repeat' split)<;>rfl
def ŝ (gt:Bool) (l:th AV) (K:AV->so ρ):∀x,ε gt x l K=(ε gt x l some).bind K:=by
 induction l with
 |nil=>intro x; rfl
 |cons y l b =>
  intro x
  cases x<;>cases y<;>try rfl
  unfold ε; (repeat' split)<;>first|rfl|exact b _
def SN {α β γ:Type} {x:so α} {y:so β} {f:α->so β} {g:β->so γ} {k:α->so γ} {z:so γ}
 (b:z=x.bind k) (h2:y=x.bind f) (h:∀a,k a=(f a).bind g):z=y.bind g:=by
 subst b h2; cases x with
 |none=>rfl
 |some a=>exact h a
def qK (P:Program) (op:BinOp) (t:TypeId) (x:AV) (K:AV->so ρ):WT P op t x K=(WT P op t x some).bind K:=by
 unfold WT; (repeat' split)<;>rfl
def Ζ (s:ByteArray) (j:Int) (K:AV->so ρ):jU s j K=(jU s j some).bind K:=by
 unfold jU; (repeat' split)<;>rfl
def Ε (s:ByteArray) (lo hi:so AV) (K:AV->so ρ):jT s lo hi K=(jT s lo hi some).bind K:=by
 unfold jT; (repeat' split)<;>rfl
def jR (h:th Blk) (x:AV) (K:AV->so ρ):sP h x K=(sP h x some).bind K:=by
 unfold sP; (repeat' split)<;>rfl
def qL (s:ByteArray) (K:so AV->so ρ):∀es:th (ByteArray×AV),sL s es K=(sL s es some).bind K
 |[]=>rfl
 |e::es=>by
  unfold sL
  split
  ·rfl
  ·exact qL s K es
def g8 (P:Program) (h:th Blk) (t:TypeId) (id:Nat) (i:AV) (ok:Bool) (K:AV->so ρ):lY P h t id i ok K=(lY P h t id i ok some).bind K:=by
 unfold lY; (repeat' split)<;>first|rfl|exact SN (qL _ _ _) (qL _ _ _) fun _=>by(repeat' split)<;>rfl
def υ (P:Program) (h:th Blk) (t:TypeId) (id:Nat) (i x:AV) (K:th Blk->so ρ):ķ P h t id i x K=(ķ P h t id i x some).bind K:=by
 unfold ķ; (repeat' split)<;>rfl
def uL (h:th Blk) (x:AV) (K:AV->th Blk->so ρ):FR h x K=(FR h x fun v h'=>some (v,h')).bind fun r=>K r.1 r.2:=by
 unfold FR; (repeat' split)<;>rfl
def opR (P:Program) (S:St) (nid:Nat) (eat:Bool) (o:Op):so (AV×St):=opK P S nid eat o fun v S=>some (v,S)
def Č {α β γ:Type} {x:so α} {y:so β} {f:α->so β} {g:β->so γ} {k:α->so γ} {z:so γ}
 (b:z=x.bind k) (h2:y=x.bind f) (h:∀a,k a=(f a).bind g):z=y.bind g:=by
 subst b h2; cases x with
 |none=>rfl
 |some a=>exact h a
def ŧ (j:Int) (K:Nat->so ρ):∀(n q:Nat),C0 n q j K=(C0 n q j some).bind K
 |0,_=>rfl
 |n+1,q=>by
  unfold C0
  split
  ·rfl
  ·exact ŧ j K n (q+1)
def wH {j:Int} {v:Nat}:∀{n q:Nat},C0 n q j some=some v->j=(v:Int)/\q<=v/\v<q+n
 |0,_,h=>by cases h
 |n+1,q,h=>by
  unfold C0 at h
  split at h
  ·rename_i hd;cases h;exact⟨of_decide_eq_true hd,bm _,by omega⟩
  ·obtain⟨b,h2,c⟩:=wH h;exact⟨b,by omega,by omega⟩
def FN (P:Program) (S:St) (nid:Nat) (eat:Bool) (o:Op) (K:AV->St->so ρ) :
 opK P S nid eat o K=(opR P S nid eat o).bind fun r=>K r.1 r.2:=by
 unfold opR;unfold opK;dsimp only
 (repeat' split)<;>first
  |rfl
  |exact Č (qF ..) (qF ..) fun _=>rfl
  |exact Č (mB ..) (mB ..) fun _=>rfl
  |exact Č (jG ..) (jG ..) fun _=>rfl
  |exact Č (ro ..) (ro ..) fun _=>rfl
  |exact Č (ς ..) (ς ..) fun _=>rfl
  |exact Č (gY ..) (gY ..) fun _=>rfl
  |exact Č (nT ..) (nT ..) fun _=>rfl
  |exact Č (wg ..) (wg ..) fun _=>rfl
  |exact Č (wc ..) (wc ..) fun _=>rfl
  |exact Č (qm ..) (qm ..) fun _=>rfl
  |exact Č (rl ..) (rl ..) fun _=>rfl
  |exact Č (ŝ _ _ _ _) (ŝ _ _ _ _) fun _=>rfl
  |exact Č (tW ..) (tW ..) fun _=>rfl
  |exact Č (qo ..) (qo ..) fun _=>rfl
  |exact Č (jJ ..) (jJ ..) fun _=>rfl
  |exact Č (jM ..) (jM ..) fun _=>rfl
  |exact Č (qK ..) (qK ..) fun _=>rfl
  |exact Č (Ζ ..) (Ζ ..) fun _=>rfl
  |exact Č (Ε ..) (Ε ..) fun _=>rfl
  |exact Č (jR ..) (jR ..) fun _=>rfl
  |exact Č (g8 ..) (g8 ..) fun _=>rfl
  |exact Č (υ ..) (υ ..) fun _=>rfl
  |exact Č (uL ..) (uL ..) fun _=>rfl
  |exact Č (ŧ ..) (ŧ ..) fun _=>rfl
  |exact Č (ŧ ..) (ŧ ..) fun _=>by(repeat' split)<;>rfl
end Go.Am
end

noncomputable section
namespace Go.Am
variable [Globs] [È]
section
variable {ν ν':Nat->Value} {h h':th Blk} {w w':World} {P:Program}
def Ks {t:TypeId} {s:ByteArray} {k:IntKind} {j:Int} {v:AV} (H:HR ν h w) (c:P.underlying t=some .string) (e:jU s j some=some v):Ğ P ν h w (Instr.index t (.string s) (.int k j)) v h:=by
 unfold jU at e
 split at e<;>try (cases e; done)
 rename_i h0;have h0:=of_decide_eq_true h0
 split at e<;>try (cases e; done)
 rename_i b hb;cases e;refine Ğ.still H (u:=.int .u8 b.toNat) ?_ rfl;simp only[Instr.index,asIntOf,Sem.run_bind,Sem.run_pure,Result.andThen_ok,run_underlying c];rw[if_pos h0,hb];rfl
def jZ {t:TypeId} {s:ByteArray} {lo hi:so Value} (b:P.underlying t=some .string):(Instr.sliceAt t (.string s) lo hi none).run P w=(Instr.slice t (.string s) lo hi none).run P w:=by
 simp only[Instr.sliceAt,Sem.run_bind,run_underlying b,Result.andThen_ok]
def Kr {t:TypeId} {s:ByteArray} {lo hi:so AV} {b c:so Value} {v:AV} (H:HR ν h w) (g:P.underlying t=some .string) (e:jT s lo hi some=some v)
 (o:∀y,lo=some y->∃u,b=some u/\VR ν h w y u) (h2:lo=none->b=none) (j:∀y,hi=some y->∃u,c=some u/\VR ν h w y u) (p:hi=none->c=none):Ğ P ν h w (Instr.sliceAt t (.string s) b c none) v h:=by
 unfold jT at e
 split at e
 ·rename_i k l i m;obtain⟨_,rfl,f⟩:=o _ rfl;obtain⟨_,rfl,d⟩:=j _ rfl;have f:_=Value.int k l:=f;have d:_=Value.int i m:=d;subst f d
  split at e<;>try (cases e; done)
  rename_i hb;simp only[bn,decide_eq_true_eq] at hb;cases e;refine Ğ.still H (u:=.string (s.extract l.toNat m.toNat)) ?_ rfl;rw[jZ g,run_slice_string w t s k i l m g hb.1 hb.2.1 hb.2.2]
 ·rename_i k l;obtain⟨_,rfl,f⟩:=o _ rfl;have f:_=Value.int k l:=f;subst f;obtain rfl:=p rfl
  split at e<;>try (cases e; done)
  rename_i hb;simp only[bn,decide_eq_true_eq] at hb;cases e;refine Ğ.still H (u:=.string (s.extract l.toNat s.size)) ?_ rfl;rw[jZ g,run_slice_string_from_if w t s k l g,if_pos hb]
 ·rename_i k m;obtain⟨_,rfl,d⟩:=j _ rfl;have d:_=Value.int k m:=d;subst d;obtain rfl:=h2 rfl
  split at e<;>try (cases e; done)
  rename_i hb;simp only[bn,decide_eq_true_eq] at hb;cases e;refine Ğ.still H (u:=.string (s.extract 0 m.toNat)) ?_ rfl;rw[jZ g,run_slice_string_to_if w t s k m g,if_pos hb]
 ·cases e
def TI {t:TypeId} (h:u8T P t=true):P.underlying t=some (.int .u8):=by
 unfold u8T at h
 split at h
 ·assumption
 ·cases h
def Vc {d f e:TypeId} {x v:AV} {o:Value} (H:HR ν h w) (p:P.underlying d=some (.slice e)) (hd:P.underlying f=some .string) (s:P.underlying e=some (.int .u8)) (B:VR ν h w x o) (j:sP h x some=some v):Ğ P ν h w (convert d f o) v h:=by
 unfold sP at j
 split at j<;>try (cases j; done)
 rename_i id g
 split at j<;>try (cases j; done)
 rename_i g' xs r
 split at j<;>try (cases j; done)
 rename_i E;cases j;obtain⟨K,t,O,fz,z,k,D,C⟩:=B;rw[r] at k; cases k;have m:=C (eq_of_beq E);have y:=H.blk id;rw[r] at y;obtain⟨base,cap,J,h2,I⟩:=y;refine Ğ.still H (u:=.string (Β xs)) ?_ rfl;rw[m,J];rcases I with⟨rfl,L⟩|⟨b,off,c,q,rfl,N,M,G⟩
 ·have:xs=[]:=bG.1 (by omega);subst this;exact run_convert_bytes_nil w d e p s _ _ f hd
 ·refine run_convert_bytes_arg w d e p s b off xs.length cap xs rfl (fun i hi=>?_) f hd;obtain⟨us,l,A⟩:=G i xs[i] (bo hi);have l:us=[Value.int .u8 xs[i]]:=l;subst l;have:=A 0 _ rfl;rw[eE,bo hi];simpa[Ty.size] using this
def Mi {a b:ByteArray}:KA a b=true↔a=b:=by
 unfold KA;rw[decide_eq_true_eq];constructor
 ·intro h;exact ByteArray.ext (df h)
 ·rintro rfl; rfl
def TV (a b:ByteArray):(a==b)=KA a b:=by
 have h:(a==b)=(a.data==b.data):=rfl;rw[h,cq,beq_iff_eq,Mi];exact⟨fun h=>ByteArray.ext h,fun h=>by rw[h]⟩
def HA {t:TypeId} (h:strT P t=true):P.underlying t=some .string:=by
 unfold strT at h
 split at h
 ·assumption
 ·cases h
def un {t:TypeId} {s:ByteArray} {empty:Bool} (b:P.underlying t=some .string) (m:Nat):(Instr.checkKey empty (m+1) t (.string s)).run P w=.ok () w:=by
 simp[Instr.checkKey,run_underlying b]
abbrev Hl (ν:Nat->Value) (h:th Blk) (w:World) (es:th (ByteArray×AV)) (ms:th MapEntry):Prop :=
 ê (fun(e:ByteArray×AV) (m:MapEntry)=>m.key=.string e.1/\e.2.isFn=true/\VR1 ν h w e.2 m.val) es ms
def Ch {s:ByteArray}:∀(es:th (ByteArray×AV)) (ms:th MapEntry) (i:Nat),Hl ν h w es ms ->
 (sL s es some=some none/\Instr.findNow .string (.string s) ms i=some none/\EZ s es=true) \/
 ∃v u j,sL s es some=some (some v)/\Instr.findNow .string (.string s) ms i=some (some (j,u))/\v.isFn=true/\VR1 ν h w v u/\EZ s es=false
 |[],[],i,_=>.inl ⟨rfl,rfl,rfl⟩
 |[],_::_,_,c=>c.elim
 |_::_,[],_,c=>c.elim
 |e::es,m::ms,i,c=>by
  obtain⟨⟨q,h2,p⟩,c⟩:=c
  have d:Instr.sameNow .string (.string s) m.key=some (KA s e.1):=by rw[q,<-TV]; rfl
  cases b:KA s e.1 with
  |true =>
   rw[b] at d;exact .inr ⟨e.2,m.val,i,by simp[sL,b],by simp[Instr.findNow,d],h2,p,by simp[EZ,b]⟩
  |false =>
   rw[b] at d;rcases Ch (s:=s) es ms (i+1) c with⟨k,g,f⟩|⟨v,u,j,k,g,f,o,l⟩
   ·exact .inl ⟨by simp[sL,b,k],by simp[Instr.findNow,d,g],by unfold EZ at f ⊢; rw[List.all_cons,f,b]; rfl⟩
   ·exact .inr ⟨v,u,j,by simp[sL,b,k],by simp[Instr.findNow,d,g],f,o,by unfold EZ at l ⊢; rw[List.all_cons,l]; simp⟩
def RH (H:HR ν h w) {id:Nat} {es:th (ByteArray×AV)} {um:Value} (k:lkB h id=.fns es) (i:VR ν h w (.ofn id) um) :
 ∃(b:Nat) (c:Array MapEntry) (d:Nat),um=.map (some b)/\ν id=.map (some b)/\w.heap[b]?=some (.map c d)/\Hl ν h w es c.toList:=by
 obtain⟨_,m,j,g⟩:=i;have e:=H.blk id;rw[k] at e;obtain⟨b,c,d,f,h2,l⟩:=e;exact⟨b,c,d,by rw[g,f],f,h2,l⟩
def OH {t:TypeId} {id:Nat} {i v:AV} {um ui:Value} {ok:Bool} (H:HR ν h w) (e:lY P h t id i ok some=some v) (K:VR ν h w (.ofn id) um) (hi:VR ν h w i ui):Ğ P ν h w (Instr.lookup t um ui ok) v h:=by
 unfold lY at e
 split at e<;>try (cases e; done)
 rename_i J et G
 split at e<;>try (cases e; done)
 rename_i z g
 split at e<;>try (cases e; done)
 rename_i s es x L;have A:=HA x;have hi:ui=.string s:=hi;subst hi;obtain⟨b,c,E,rfl,_,hb,O⟩:=RH H L K
 cases d:P.info? et with
 |none=>simp[d] at g
 |some l =>
 cases f:l.zero with
 |none=>simp[d,f] at g
 |some p =>
 simp only[d,f,cz,ce,Option.some.injEq] at g;subst g;have m:∀em,(Instr.checkKey em 10000 J (.string s)).run P w=.ok () w:=fun em=>un A 9999
 have run:(∀y j,Instr.findNow .string (.string s) c.toList 0=some (some (j,y))->(Instr.lookup t (.map (some b)) (.string s) ok).run P w=.ok (if ok then .tuple #[y,.bool true] else y) w) /\
  (Instr.findNow .string (.string s) c.toList 0=some none->(Instr.lookup t (.map (some b)) (.string s) ok).run P w=.ok (if ok then .tuple #[p,.bool false] else p) w):=by
  constructor
  ·intro y j C;simp only[Instr.lookup,Sem.run_bind,run_underlying G,Result.andThen_ok,Sem.run_pure,Θ hb,m];simp[Instr.findKey,run_underlying A,C]
  ·intro C;simp only[Instr.lookup,Sem.run_bind,run_underlying G,Result.andThen_ok,Sem.run_pure,Θ hb,m];simp[Instr.findKey,run_underlying A,C,zeroValue,typeInfo,d,f]
 have k:∀{V:AV} {U:Value} {B:Bool},V.isTup=false->VR ν h w V U->VR ν h w (.tup [V,.bool B]) (.tuple #[U,.bool B]):=fun {V U B} r M=>by
  refine⟨#[U,.bool B],rfl,?_,rfl,trivial⟩
  rwa [mN r] at M
 rw[qL] at e;rcases Ch (s:=s) es c.toList 0 O with⟨D,o,_⟩|⟨q,u,j,D,o,I,R,_⟩
 ·rw[D] at e;dsimp only[Option.bind_some] at e;have g:=JI (ν:=ν) (h:=h) (w:=w) p
  cases ok with
  |false=>cases e; exact Ğ.still H (run.2 o) g
  |true=>cases e; exact Ğ.still H (run.2 o) (k (JH p) g)
 ·rw[D] at e;dsimp only[Option.bind_some] at e
  have r:VR ν h w q u:=by
   cases q<;>try cases I
   exact R
  have N:q.isTup=false:=by cases q<;>first|rfl|cases I
  cases ok with
  |false=>cases e; exact Ğ.still H (run.1 _ _ o) r
  |true=>cases e; exact Ğ.still H (run.1 _ _ o) (k N r)
def Oq {nid:Nat} {t:TypeId} (H:HR ν h w) (c:nid<h.length) (hd:lkB h nid=.dead):Ğ P ν h w (Instr.makeMap t none) (.ofn nid) (á h nid (.fns [])):=by
 obtain⟨ev,d⟩:=Ev.new (w':=w.alloc (.map #[] 0)) (o:=.map #[] 0) H (id:=nid) (B:=.fns []) (V:=.map (some w.heap.size)) c hd rfl rfl rfl rfl (fun b hb=>by cases hb; rfl) fun ev =>
  ⟨w.heap.size,#[],0,Ç _ _ _,heap_alloc_new w _,trivial⟩
 refine⟨_,_,.map (some w.heap.size),?_,⟨rfl,[],Ù _ c,(Ç _ _ _).symm⟩,d,ev,É _ _ _⟩;simp[Instr.makeMap]
def Ql {nid:Nat} {t:TypeId} {s:ByteArray} (H:HR ν h w) (c:nid<h.length) (hd:lkB h nid=.dead) (d:P.underlying t=some .string):Ğ P ν h w (Instr.range t (.string s)) (.oit nid) (á h nid (.iter s 0)):=by
 obtain⟨ev,e⟩:=Ev.new (w':=w.alloc (.stringIter s 0)) (o:=.stringIter s 0) H (id:=nid) (B:=.iter s 0) (V:=.pointer (some ⟨w.heap.size,0,none⟩)) c hd rfl rfl rfl rfl (fun b hb=>by cases hb; rfl) fun ev =>
  ⟨w.heap.size,Ç _ _ _,heap_alloc_new w _,Int.le_refl 0⟩
 refine⟨_,_,.pointer (some ⟨w.heap.size,0,none⟩),?_,⟨rfl,s,0,Ù _ c,(Ç _ _ _).symm⟩,e,ev,É _ _ _⟩;simp[Instr.range,Sem.run_bind,run_underlying d]
def WG (w:World) (k:Nat) (s:ByteArray) (b:Nat) (ty:TypeId) (c:w.heap[k]?=some (.stringIter s b)) (h:b<s.size) :
 (Instr.next (.pointer (some ⟨k,0,none⟩)) true ty).run P w =
  .ok (.tuple #[.bool true,.int .i64 b,.int .i32 (Utf8.decode s b).1]) {w with heap:=w.heap.setIfInBounds k (.stringIter s (b+(Utf8.decode s b).2))}:=by
 simp only[Instr.next,getObj,setObj,Sem.run_bind,Sem.run,c,Result.andThen,h,if_true];simp[goInt]
def Ug (w:World) (k:Nat) (s:ByteArray) (b:Nat) (ty:TypeId) (c:w.heap[k]?=some (.stringIter s b)) (h:¬b<s.size) :
 (Instr.next (.pointer (some ⟨k,0,none⟩)) true ty).run P w=.ok (.tuple #[.bool false]) w:=by
 simp[Instr.next,getObj,Sem.run,c,h]
def WF {x v:AV} {u:Value} {ty:TypeId} (H:HR ν h w) (e:(FR h x fun v h'=>some (v,h'))=some (v,h')) (o:VR ν h w x u):Ğ P ν h w (Instr.next u true ty) v h':=by
 unfold FR at e
 split at e<;>try (cases e; done)
 rename_i id
 split at e<;>try (cases e; done)
 rename_i s p d;obtain⟨G,s',E,A,t⟩:=o;subst t;have m:=H.blk id;rw[d] at m;obtain⟨b,g,h2,D⟩:=m;have f:id<h.length:=Ę d (by simp);have j:=Û h2;have z:(p.toNat:Int)=p:=eF D
 split at e
 ·rename_i hd;cases e;have hd:=of_decide_eq_true hd;rw[ź] at hd
  have y:p.toNat<s.size:=by omega
  have r:(p+Ki s p).toNat=p.toNat+(Utf8.decode s p.toNat).2:=by unfold Ki; omega
  have c:∀q,q<w.heap.size->((lkB h id).live=true->¬č (ν id) q)->({w with heap:=w.heap.setIfInBounds b (.stringIter s (p.toNat+(Utf8.decode s p.toNat).2))}:World).heap[q]?=w.heap[q]?:=fun q _ i=>by
   have:b≠q:=fun C=>i (by rw[d]; rfl) (by rw[g,C]; rfl);simp[b7,this]
  have l:(Blk.iter s (p+Ki s p)).live=true->∀q,č (ν id) q->((lkB h id).live=true/\č (ν id) q)\/w.heap.size<=q:=fun _ q i=>.inl ⟨by rw[d]; rfl,i⟩;have ev:=Ev.upd H (B:=.iter s (p+Ki s p)) (V:=ν id) (w':={w with heap:=w.heap.setIfInBounds b (.stringIter s (p.toNat+(Utf8.decode s p.toNat).2))}) f rfl rfl rfl (by simp) c l (by rw[d]; exact⟨⟨_,rfl⟩,Ç _ _ _⟩);have k:=HR.upd H f ev c l ⟨b,(Ç _ _ _).trans g,by rw[r]; simp[j],by unfold Ki; omega⟩;rw[Η] at ev k;refine⟨ν,_,_,by rw[g]; exact WG w b s p.toNat ty h2 y,⟨#[.bool true,.int .i64 p.toNat,.int .i32 (Utf8.decode s p.toNat).1],rfl,rfl,congrArg (Value.int .i64) z,rfl,trivial⟩,k,ev,É _ _ _⟩
 ·rename_i hd;cases e;have hd:=of_decide_eq_false hd;rw[ź] at hd;exact Ğ.still H (by rw[g]; exact Ug w b s p.toNat ty h2 (by omega)) ⟨#[.bool false],rfl,rfl,trivial⟩
def uO {t:TypeId} {id:Nat} {i x:AV} {um ui f:Value} (H:HR ν h w) (e:ķ P h t id i x some=some h') (M:VR ν h w (.ofn id) um) (hi:VR ν h w i ui) (K:VR ν h w x f) :
 ∃w',(Instr.mapUpdate t um ui f).run P w=.ok () w'/\HR ν h' w'/\Ev h.length ν h w ν h' w'/\h'.length=h.length:=by
 unfold ķ at e
 split at e<;>try (cases e; done)
 rename_i J et L
 split at e<;>try (cases e; done)
 rename_i s es p j
 split at e<;>try (cases e; done)
 rename_i y;simp only[bn] at y;cases e;have C:=HA p;have hi:ui=.string s:=hi;subst hi;obtain⟨m,b,c,rfl,I,h2,E⟩:=RH H j M;have k:id<h.length:=Ę j (by simp);have u:=Û h2
 have l:x.isFn=true:=by cases x<;>first|rfl|cases y.2
 have o:VR1 ν h w x f:=by
  cases x<;>try cases l
  exact K
 have v:∀em,(Instr.checkKey em 10000 J (.string s)).run P w=.ok () w:=fun em=>un C 9999
 have g:Instr.findNow .string (.string s) b.toList 0=some none:=by
  rcases Ch (s:=s) es b.toList 0 E with⟨_,O,_⟩|⟨_,_,_,_,_,_,_,G⟩
  ·exact O
  ·rw[y.1] at G; cases G
 have d:∀q,q<w.heap.size->((lkB h id).live=true->¬č (ν id) q)->({w with heap:=w.heap.setIfInBounds m (.map (b.push {key:=.string s,val:=f,born:=c}) (c+1))}:World).heap[q]?=w.heap[q]?:=fun q _ r=>by
  have:m≠q:=fun N=>r (by rw[j]; rfl) (by rw[I,N]; rfl);simp[b7,this]
 have D:(Blk.fns (es++[(s,x)])).live=true->∀q,č (ν id) q->((lkB h id).live=true/\č (ν id) q)\/w.heap.size<=q:=fun _ q r=>.inl ⟨by rw[j]; rfl,r⟩;have ev:=Ev.upd H (B:=.fns (es++[(s,x)])) (V:=ν id) (w':={w with heap:=w.heap.setIfInBounds m (.map (b.push {key:=.string s,val:=f,born:=c}) (c+1))}) k rfl rfl rfl (by simp) d D (by rw[j]; exact⟨⟨_,rfl⟩,Ç _ _ _⟩)
 have z:Hl ν h w (es++[(s,x)]) (b.push {key:=.string s,val:=f,born:=c}).toList:=by
  rw[Array.toList_push];exact ê.append E ⟨⟨rfl,l,o⟩,trivial⟩
 have A:=HR.upd H k ev d D ⟨m,b.push {key:=.string s,val:=f,born:=c},c+1,(Ç _ _ _).trans I,by simp[u],z.mono fun _ _ q=>⟨q.1,q.2.1,q.2.2.ev ev⟩⟩;rw[Η] at ev A;refine⟨_,?_,A,ev,É _ _ _⟩;simp only[Instr.mapUpdate,Sem.run_bind,run_underlying L,Result.andThen_ok,Θ h2,v];simp[Instr.findKey,run_underlying C,g,setObj,Sem.run,h2]
end
end Go.Am
end

noncomputable section
namespace Go.Am
variable [Globs] [È]
section
variable {ν ν':Nat->Value} {w w':World} {P:Program}
def PC (ν:Nat->Value) (S:St) (w:World) (r:Result Next) (v:AV) (b:St):Prop :=
 ∃ν' w' u,(r=.ok (.value u) w'\/(r=.ok .skip w'/\u=undef))/\VR ν' b.h w' v u/\HR ν' b.h w'/\Ev S.h.length ν S.h w ν' b.h w'/\b.h.length=S.h.length/\b.t=S.t
def Ğ.step {S:St} {x:Sem Value} {v:AV} {h':th Blk} (hd:Ğ P ν S.h w x v h') :
 PC ν S w ((do let u <-x; pure (.value u):Sem Next).run P w) v {t:=S.t,h:=h'}:=by
 obtain⟨ν',w',u,e,h2,d,c,b⟩:=hd;refine⟨ν',w',u,.inl ?_,h2,d,c,b,rfl⟩;simp[e]
def PC.still {S:St} {r:Result Next} {v:AV} {u:Value} (H:HR ν S.h w) (c:r=.ok (.value u) w) (b:VR ν S.h w v u):PC ν S w r v S :=
 ⟨ν,w,u,.inl c,b,H,Ev.refl _ _ _ _,rfl,rfl⟩
def oH {S:St} {x:Sem Unit} {h':th Blk} (hd:∃w',x.run P w=.ok () w'/\HR ν h' w'/\Ev S.h.length ν S.h w ν h' w'/\h'.length=S.h.length) :
 PC ν S w ((do x; pure .skip:Sem Next).run P w) .any {t:=S.t,h:=h'}:=by
 obtain⟨w',e,d,c,b⟩:=hd;refine⟨ν,w',undef,.inr ⟨?_,rfl⟩,trivial,d,c,b,rfl⟩;simp[e]
def Rr {a:AV} {v:Value} {h:th Blk} (hi:isV0 a=true) (b:VR ν h w a v):VR0 ν h w a v:=by
 have d:a.isFn=false:=by cases a<;>first|rfl|cases hi
 have h2:a.isAgg=false:=by cases a<;>first|rfl|cases hi
 have c:a.isTup=false:=by cases a<;>first|rfl|cases hi
 rwa [mN c,ot h2,mO d] at b
def ê.of_map {α β γ:Type} {R:β->γ->Prop} {f:α->β} {g:α->γ}:∀{l:th α},(∀x∈l,R (f x) (g x))->ê R (l.map f) (l.map g)
 |[],_=>trivial
 |x::l,h=>⟨h x (by simp),ê.of_map fun y b=>h y (by simp[b])⟩
def TZ (k:IntKind) (a b:Int):(Builtin.max2 (.int k a) (.int k b)).run P w=.ok (.int k (Ru a b)) w:=rfl
def TY (k:IntKind) (a b:Int):(Builtin.min2 (.int k a) (.int k b)).run P w=.ok (.int k (VL a b)) w:=rfl
def P8 {S:St} {a:Act} {x y:Operand} (h:mR x y=true):a.eval x=a.eval y:=by
 unfold mR at h
 split at h
 ·have:=eq_of_beq h; subst this; rfl
 ·have:=of_decide_eq_true h; subst this; rfl
 ·cases h
def Đ {α β:Type} {x:so α} {f:α->so β} {r:β} (h:x.bind f=some r):∃a,x=some a/\f a=some r:=by
 cases x with
 |none=>cases h
 |some a=>exact⟨a,rfl,h⟩
def arr1 {α:Type} {a:Array α} {x:α} (h:a.toList=[x]):a=#[x]:=df (by simpa using h)
def arr2 {α:Type} {a:Array α} {x y:α} (h:a.toList=[x,y]):a=#[x,y]:=df (by simpa using h)
def fH {S:St} {a:Act} {o:Oper} {b:Builtin} {args:Array Operand} {tys:Array TypeId} {f:Array TypeId->TypeId->Array Value->Sem Value} (d:o.op=.call ⟨.builtin b,args,tys⟩)
 (hb:∀c vs,builtin b tys o.type c vs=(do pure (.value (<-f tys o.type vs)):Sem Next)) :
 execOp a.eval o=(do let u <-f tys o.type (args.map a.eval); pure (.value u)):=by
 unfold execOp;rw[d];simp only[resolve,pure_bind,invoke,hb]
def T7 {S S':St} {a:Act} {o:Oper} {nid:Nat} {eat:Bool} {v:AV} {clone:Nat->Bool} (H:Sim ν S a w) (hn:ô clone o.op=true->nid<S.h.length/\lkB S.h nid=.dead)
 (e:opR P S nid eat o.op=some (v,S')):PC ν S w ((execOp a.eval o).run P w) v S':=by
 have E:=H.heap
 cases A:o.op with
 |move x =>
  rw[A] at e; cases e;exact PC.still E (by unfold execOp; rw[A]; rfl) (þ H x)
 |assign x =>
  rw[A] at e; cases e;exact PC.still E (by unfold execOp; rw[A]; rfl) (þ H x)
 |pick c x y =>
  rw[A] at e;simp only[opR,opK] at e
  split at e<;>try (cases e; done)
  rename_i b hb;have O:=þ H c;rw[hb] at O;have O:a.eval c=.bool b:=O
  have D:(execOp a.eval o).run P w=.ok (.value (if b then a.eval x else a.eval y)) w:=by unfold execOp; rw[A]; simp[asBool,O]
  split at e
  ·cases e; exact PC.still E D (þ H x)
  ·cases e; exact PC.still E D (þ H y)
 |box W x =>
  rw[A] at e;simp only[opR,opK] at e
  split at e<;>try (cases e; done)
  rename_i cs R
  have D:execOp a.eval o=(do let u <-Instr.box W (a.eval x); pure (.value u)):=by unfold execOp; rw[A]
  rw[D]
  split at e
  ·split at e<;>try (cases e; done)
   split at e<;>try (cases e; done)
   rename_i y J;cases e;exact(Xq E R J (þ H x)).step
  ·cases e;obtain⟨B,h2⟩:=hn (by rw[A]; rfl);exact(box_ok E B h2 R (þ H x)).step
 |alloc W =>
  rw[A] at e;simp only[opR,opK] at e
  split at e<;>try (cases e; done)
  rename_i z hz
  split at e<;>try (cases e; done)
  rename_i cs R;cases e;obtain⟨B,h2⟩:=hn (by rw[A]; rfl)
  have D:execOp a.eval o=(do let u <-Instr.alloc W true (.tuple #[]); pure (.value u)):=by unfold execOp; rw[A]
  rw[D];exact(Vj E B h2 hz R).step
 |build t ps =>
  rw[A] at e;simp only[opR,opK] at e
  have D:execOp a.eval o=(do let u <-Instr.build t (ps.map fun(i,x)=>(i,a.eval x)); pure (.value u)):=by unfold execOp; rw[A]
  rw[D]
  split at e<;>try (cases e; done)
  ·rename_i fs I
   split at e<;>try (cases e; done)
   rename_i hfs
   split at e<;>try (cases e; done)
   rename_i z hz
   split at e<;>try (cases e; done)
   rename_i zs X
   split at e<;>try (cases e; done)
   rename_i cs R;cases e;exact(DN H I hfs hz X R).step
  ·rename_i n W I
   split at e<;>try (cases e; done)
   rename_i sz z U hz
   split at e<;>try (cases e; done)
   rename_i zs X
   split at e<;>try (cases e; done)
   rename_i cs R;cases e;exact(LK H I U hz X R).step
 |buildSlice t n ps =>
  rw[A] at e
  have D:execOp a.eval o=(do let u <-Instr.buildSlice t n (ps.map fun(i,x)=>(i,a.eval x)); pure (.value u)):=by unfold execOp; rw[A]
  rw[D];obtain⟨B,h2⟩:=hn (by rw[A]; rfl);simp only[opR,opK] at e
  split at e
  ·rw[wc] at e;obtain⟨⟨M,h'⟩,L,T⟩:=Đ e;cases T;exact(Xe H B h2 L).step
  split at e<;>try (cases e; done)
  rename_i W hel
  split at e<;>try (cases e; done)
  rename_i ty hty
  split at e<;>try (cases e; done)
  rename_i O;simp only[bn,beq_iff_eq,decide_eq_true_eq] at O
  split at e<;>try (cases e; done)
  rename_i xs hxs;cases e;exact(G5 H B h2 hel O.1 O.2.1 O.2.2 hxs).step
 |load t x =>
  rw[A] at e;simp only[opR,opK] at e;rw[mB] at e;obtain⟨M,B,h2⟩:=Đ e;cases h2
  have D:execOp a.eval o=(do let u <-Instr.loadAt t (a.eval x); pure (.value u)):=by unfold execOp; rw[A]
  rw[D];obtain⟨u,L,T⟩:=Q9 E B (þ H x);exact(Ğ.still E L T).step
 |store t x y =>
  rw[A] at e;simp only[opR,opK] at e
  have D:execOp a.eval o=(do Instr.storeAt t (a.eval x) (a.eval y); pure .skip):=by unfold execOp; rw[A]
  rw[D]
  split at e
  ·split at e<;>try (cases e; done)
   rename_i id g lo n hsub
   split at e<;>try (cases e; done)
   rename_i ty g' xs hl
   split at e<;>try (cases e; done)
   rename_i O;simp only[bn,beq_iff_eq,decide_eq_true_eq] at O;obtain⟨rfl,hln⟩:=O;rw[jG] at e;obtain⟨h',B,h2⟩:=Đ e;cases h2;have J:=þ H y;rw[hsub] at J;obtain⟨ν1,v1,H1,ev1⟩:=Xd E hl hln J;obtain⟨w',k1,k2,k3,k4⟩:=Mc H1 B ((þ H x).ev ev1) v1;refine⟨ν1,w',undef,.inr ⟨?_,rfl⟩,trivial,k2,ev1.trans k3 (dk (É _ _ _).symm),k4.trans (É _ _ _),rfl⟩;simp[k1]
  ·rw[jG] at e;obtain⟨h',B,h2⟩:=Đ e;cases h2;exact oH (Mc E B (þ H x) (þ H y))
 |nilCheck x =>
  rw[A] at e;simp only[opR,opK] at e;have C:=þ H x
  split at e<;>try (cases e; done)
  ·rename_i id off he;cases e;rw[he] at C;have K:=C;obtain⟨cs,b,B,h2,L⟩:=K;exact PC.still E (by unfold execOp; rw[A]; simp only[L]; rfl) (L▸C)
  ·rename_i t x' off he;cases e;rw[he] at C;have K:=C;obtain⟨b,o',us,L,T⟩:=K;exact PC.still E (by unfold execOp; rw[A]; simp only[L]; rfl) (L▸C)
  ·rename_i id g i off he
   split at e<;>try (cases e; done)
   rename_i t g' fz xs hl
   split at e<;>try (cases e; done)
   rename_i hgg;cases e;rw[he] at C;have K:=C;obtain⟨ho,t2,g2,fz2,xs2,hl2,hle,hf⟩:=K;rw[hl] at hl2; cases hl2;obtain⟨_,b,o',cap,_,L⟩:=hf (eq_of_beq hgg);exact PC.still E (by unfold execOp; rw[A]; simp only[L]; rfl) (L▸C)
 |binOp op t x y yt =>
  rw[A] at e;simp only[opR,opK] at e
  have D:execOp a.eval o=(do let u <-(do eqGuard op t x y (a.eval x) (a.eval y); binOp op t (a.eval x) (a.eval y)); pure (.value u)):=by unfold execOp; rw[A]
  rw[D]
  split at e
  ·rename_i hnil
   have J:y=.const .nilIface:=by
    unfold Rs at hnil
    split at hnil
    ·rfl
    ·cases hnil
   subst J;rw[qK] at e;obtain⟨M,B,h2⟩:=Đ e;cases h2;exact(ifc_ok x E B (þ H x)).step
  ·rw[ro] at e;obtain⟨M,B,h2⟩:=Đ e;cases h2;exact(Vd x y E B (þ H x) (þ H y)).step
 |unOp op t x =>
  rw[A] at e;simp only[opR,opK] at e
  have D:execOp a.eval o=(do let u <-Op.unary op (a.eval x); pure (.value u)):=by unfold execOp; rw[A]
  rw[D];have C:=þ H x
  split at e<;>try (cases e; done)
  ·rename_i b he;cases e;rw[he] at C;exact(PP (op:=.not) E C rfl).step
  ·rename_i k n he;rw[tW] at e;obtain⟨M,B,h2⟩:=Đ e;cases h2;rw[he] at C;exact(PP (op:=.neg) E C B).step
 |convert src dst x =>
  rw[A] at e;simp only[opR,opK] at e
  have D:execOp a.eval o=(do let u <-convert src dst (a.eval x); pure (.value u)):=by unfold execOp; rw[A]
  rw[D];have C:=þ H x
  split at e<;>try (cases e; done)
  ·rename_i d k k' n U hd he;cases e;rw[he] at C;have C:a.eval x=.int k' n:=C;refine(Ğ.still (v:=.int k (k.wrap n)) (u:=.int k (k.wrap n)) E ?_ rfl).step;rw[C];simp only[convert,Sem.run_bind,run_underlying U,run_underlying hd,Result.andThen_ok];simp[Conv.intToInt]
  ·rename_i W U hd
   split at e<;>try (cases e; done)
   rename_i hu8;rw[jR] at e;obtain⟨M,B,h2⟩:=Đ e;cases h2;exact(Vc E U hd (TI hu8) C B).step
 |makeFunc fn first caps =>
  rw[A] at e;simp only[opR,opK] at e
  split at e<;>try (cases e; done)
  rename_i O;simp only[bn,bI] at O;cases e
  have D:execOp a.eval o=(do let u <-Instr.makeFunc fn (first.map a.eval) (caps.map a.eval); pure (.value u)):=by unfold execOp; rw[A]
  rw[D];refine(Ğ.still (v:=.fn fn (first.toList.map (ev S.t)) (caps.toList.map (ev S.t))) (u:=.func fn (first.map a.eval) (caps.map a.eval)) E rfl ⟨_,_,rfl,?_,?_⟩).step
  ·rw[dT];exact ê.of_map fun x D=>Rr (O.1 _ (List.mem_map_of_mem D)) (þ H x)
  ·rw[dT];exact ê.of_map fun x D=>Rr (O.2 _ (List.mem_map_of_mem D)) (þ H x)
 |makeMap t r =>
  rw[A] at e;simp only[opR,opK] at e
  split at e<;>try (cases e; done)
  rename_i kt et I;obtain⟨B,h2⟩:=hn (by rw[A]; rfl)
  have D:execOp a.eval o=(do let u <-Instr.makeMap t none; pure (.value u)):=by unfold execOp; rw[A]; rfl
  rw[D]
  split at e<;>try (cases e; done)
  ·rename_i k M hk C
   split at e<;>try (cases e; done)
   cases e;exact(Oo k M E B h2).step
  ·split at e<;>try (cases e; done)
   cases e;exact(Oq E B h2).step
 |makeSlice t l c =>
  rw[A] at e;simp only[opR,opK] at e
  split at e<;>try (cases e; done)
  rename_i k n W hsame hl hel
  split at e<;>try (cases e; done)
  rename_i ty hty
  split at e<;>try (cases e; done)
  rename_i hrow
  split at e<;>try (cases e; done)
  rename_i zs X
  split at e<;>try (cases e; done)
  rename_i z hz
  split at e<;>try (cases e; done)
  rename_i hb;simp only[bn,decide_eq_true_eq,Ñ] at hb;cases e;obtain⟨B,h2⟩:=hn (by rw[A]; rfl);have C:=þ H l;rw[hl] at C;have C:a.eval l=.int k n:=C
  have O:a.eval c=.int k n:=by rw[<-P8 (S:=S) hsame,C]
  have D:execOp a.eval o=(do let u <-Instr.makeSlice t (.int k n) (.int k n); pure (.value u)):=by unfold execOp; rw[A]; simp only[C,O]
  rw[D];exact(Ir E B h2 hel hrow X hz hb.1 hb.2).step
 |slice t x lo hi mx =>
  rw[A] at e;simp only[opR,opK] at e
  split at e<;>try (cases e; done)
  all_goals
   have D:execOp a.eval o=(do let u <-Instr.sliceAt t (a.eval x) (lo.map a.eval) (hi.map a.eval) none; pure (.value u)):=by unfold execOp; rw[A]; rfl
   rw[D]
  ·rename_i W I
   split at e<;>try (cases e; done)
   rename_i sz U;rw[qo] at e;obtain⟨⟨M,h'⟩,B,h2⟩:=Đ e;cases h2;refine(TS E I U B (þ H x) (fun y J=>?_) (fun J=>?_) (fun y J=>?_) (fun J=>?_)).step
   ·cases lo with
    |none=>cases J
    |some l=>cases J; exact⟨_,rfl,þ H l⟩
   ·cases lo with
    |none=>rfl
    |some l=>cases J
   ·cases hi with
    |none=>cases J
    |some l=>cases J; exact⟨_,rfl,þ H l⟩
   ·cases hi with
    |none=>rfl
    |some l=>cases J
  ·rename_i I;have C:=þ H x
   split at e<;>try (cases e; done)
   rename_i s U;rw[U] at C;have C:a.eval x=.string s:=C;rw[Ε] at e;obtain⟨M,B,h2⟩:=Đ e;cases h2;rw[C];refine(Kr E I B (fun y J=>?_) (fun J=>?_) (fun y J=>?_) (fun J=>?_)).step
   ·cases lo with
    |none=>cases J
    |some l=>cases J; exact⟨_,rfl,þ H l⟩
   ·cases lo with
    |none=>rfl
    |some l=>cases J
   ·cases hi with
    |none=>cases J
    |some l=>cases J; exact⟨_,rfl,þ H l⟩
   ·cases hi with
    |none=>rfl
    |some l=>cases J
 |fieldAddr t x f =>
  rw[A] at e;simp only[opR,opK] at e
  split at e<;>try (cases e; done)
  rename_i fs I
  split at e<;>try (cases e; done)
  rename_i fd hf
  split at e<;>try (cases e; done)
  rename_i n U;rw[jJ] at e;obtain⟨M,B,h2⟩:=Đ e;cases h2
  have D:execOp a.eval o=(do let u <-Instr.fieldAt t (a.eval x) f; pure (.value u)):=by unfold execOp; rw[A]
  rw[D];exact(Jz E I hf U B (þ H x)).step
 |field t x f =>
  rw[A] at e;simp only[opR,opK] at e;have C:=þ H x
  split at e<;>try (cases e; done)
  rename_i fs cs I O
  split at e<;>try (cases e; done)
  rename_i fd hf
  split at e<;>try (cases e; done)
  rename_i agg n hl
  split at e<;>try (cases e; done)
  rename_i ds hg
  split at e<;>try (cases e; done)
  rename_i M V;cases e;rw[O] at C
  have D:execOp a.eval o=(do let u <-Instr.field t (a.eval x) f; pure (.value u)):=by unfold execOp; rw[A]
  rw[D];exact(UB E I hf hl hg V C).step
 |indexAddr t x i =>
  rw[A] at e;simp only[opR,opK] at e
  have D:execOp a.eval o=(do let u <-Instr.indexAt t (a.eval x) (a.eval i); pure (.value u)):=by unfold execOp; rw[A]
  rw[D]
  split at e<;>try (cases e; done)
  ·rename_i W I
   split at e<;>try (cases e; done)
   rename_i sz U;rw[jM] at e;obtain⟨M,B,h2⟩:=Đ e;cases h2;exact(Uy E I U B (þ H x) (þ H i)).step
  ·rename_i n W I;have C:=þ H x;have hi:=þ H i
   split at e<;>try (cases e; done)
   rename_i id off k j Y hi'
   split at e<;>try (cases e; done)
   rename_i sz U;rw[ŧ] at e;obtain⟨q,B,h2⟩:=Đ e;obtain⟨rfl,_,hb⟩:=wH B;cases h2;rw[Y] at C;rw[hi'] at hi;have hi:a.eval i=.int k (q:Int):=hi;rw[hi];have:=(B5 E I (j:=(q:Int)) (k:=k) ⟨by omega,by omega⟩ U C).step;simpa using this
 |index t x i =>
  rw[A] at e;simp only[opR,opK] at e
  have D:execOp a.eval o=(do let u <-Instr.index t (a.eval x) (a.eval i); pure (.value u)):=by unfold execOp; rw[A]
  rw[D];have C:=þ H x;have hi:=þ H i
  split at e<;>try (cases e; done)
  ·rename_i n W cs k j I Y hi';rw[ŧ] at e;obtain⟨q,B,h2⟩:=Đ e;obtain⟨rfl,_,hb⟩:=wH B
   split at h2<;>try (cases h2; done)
   rename_i agg m hl
   split at h2<;>try (cases h2; done)
   rename_i ds hg
   split at h2<;>try (cases h2; done)
   rename_i M V;cases h2;rw[Y] at C;rw[hi'] at hi;have hi:a.eval i=.int k (q:Int):=hi;rw[hi];exact(Lf E I (j:=(q:Int)) (k:=k) ⟨by omega,by omega⟩ hl (by simpa using hg) V C).step
  ·rename_i s k j I Y hi';rw[Ζ] at e;obtain⟨M,B,h2⟩:=Đ e;cases h2;rw[Y] at C;rw[hi'] at hi;have hi:a.eval i=.int k j:=hi;have C:a.eval x=.string s:=C;rw[hi,C];exact(Ks E I B).step
 |lookup t m i ok =>
  rw[A] at e;simp only[opR,opK] at e
  have D:execOp a.eval o=(do let u <-Instr.lookup t (a.eval m) (a.eval i) ok; pure (.value u)):=by unfold execOp; rw[A]
  rw[D];have V:=þ H m
  split at e
  ·rename_i id hid;rw[hid] at V;rw[g8] at e;obtain⟨M,B,h2⟩:=Đ e;cases h2;exact(OH E B V (þ H i)).step
  ·rw[gY] at e;obtain⟨M,B,h2⟩:=Đ e;cases h2;exact(Q5 E B V (þ H i)).step
 |mapUpdate t m i x =>
  rw[A] at e;simp only[opR,opK] at e
  have D:execOp a.eval o=(do Instr.mapUpdate t (a.eval m) (a.eval i) (a.eval x); pure .skip):=by unfold execOp; rw[A]
  rw[D];have V:=þ H m
  split at e
  ·rename_i id hid;rw[hid] at V;rw[υ] at e;obtain⟨h',B,h2⟩:=Đ e;cases h2;exact oH (uO E B V (þ H i) (þ H x))
  ·rw[ς] at e;obtain⟨h',B,h2⟩:=Đ e;cases h2;exact oH (xS E B V (þ H i) (þ H x))
 |insert t m i x =>
  rw[A] at e;simp only[opR,opK] at e
  have D:execOp a.eval o=(do Instr.mapUpdate t (a.eval m) (a.eval i) (a.eval x); pure .skip):=by unfold execOp; rw[A]
  rw[D];have V:=þ H m
  split at e
  ·rename_i id hid;rw[hid] at V;rw[υ] at e;obtain⟨h',B,h2⟩:=Đ e;cases h2;exact oH (uO E B V (þ H i) (þ H x))
  ·rw[ς] at e;obtain⟨h',B,h2⟩:=Đ e;cases h2;exact oH (xS E B V (þ H i) (þ H x))
 |range t x =>
  rw[A] at e;simp only[opR,opK] at e
  split at e<;>try (cases e; done)
  rename_i s I C;cases e;obtain⟨B,h2⟩:=hn (by rw[A]; rfl)
  have D:execOp a.eval o=(do let u <-Instr.range t (a.eval x); pure (.value u)):=by unfold execOp; rw[A]
  have K:=þ H x;rw[C] at K;have K:a.eval x=.string s:=K;rw[D,K];exact(Ql E B h2 I).step
 |next x b =>
  rw[A] at e;simp only[opR,opK] at e
  cases b with
  |false=>cases e
  |true =>
  have D:execOp a.eval o=(do let u <-Instr.next (a.eval x) true o.type; pure (.value u)):=by unfold execOp; rw[A]
  rw[D];rw[uL] at e;obtain⟨⟨M,h'⟩,B,h2⟩:=Đ e;cases h2;exact(WF E B (þ H x)).step
 |extract x i =>
  rw[A] at e;simp only[opR,opK] at e;have C:=þ H x
  split at e<;>try (cases e; done)
  rename_i vs hvs
  split at e<;>try (cases e; done)
  rename_i M K;cases e;rw[hvs] at C;obtain⟨us,hu,h2⟩:=C;obtain⟨u,L,T⟩:=h2.get K;refine PC.still E (u:=u) (by unfold execOp; rw[A]; simp only[hu]; simp at L; simp[Instr.extract,L]) ?_
  cases I:v.isTup with
  |true =>
   cases v<;>try cases I
   exact T.elim
  |false=>rw[mN I]; exact T
 |call c =>
  obtain⟨f,args,tys⟩:=c;rw[A] at e
  cases f with
  |value f=>cases e
  |invoke r n=>cases e
  |builtin b =>
   simp only[opR,opK] at e
   split at e
   ·-- len
    rename_i x t rest G N;rw[qF] at e;obtain⟨M,B,h2⟩:=Đ e;cases h2;rw[fH (S:=S) (f:=Builtin.len_) A (fun _ _=>rfl),arr1 G,show Array.map a.eval #[x]=#[a.eval x] by simp]
    have Z:tys[0]?=some t:=by rw[<-dP,N]; rfl
    exact(len_ok E B (þ H x) Z).step
   ·rename_i s x t t' G N;obtain⟨B,h2⟩:=hn (by rw[A]; rfl);rw[fH (S:=S) (f:=Builtin.append_) A (fun _ _=>rfl),arr2 G,arr2 N,show Array.map a.eval #[s,x]=#[a.eval s,a.eval x] by simp]
    split at e
    ·rename_i htt;have htt:=eq_of_beq htt;subst htt;have hvx:=þ H x
     split at e
     ·rename_i id g hdp;rw[hdp] at hvx;rw[wg] at e;obtain⟨⟨M,h'⟩,L,T⟩:=Đ e;cases T;exact(Xg E B h2 L (þ H s) hvx).step
     ·rw[nT] at e;obtain⟨⟨M,h'⟩,L,T⟩:=Đ e;cases T;exact(S6 E B h2 L (þ H s) hvx).step
    ·split at e<;>try (cases e; done)
     rename_i hu;rw[qm] at e;obtain⟨⟨M,h'⟩,L,T⟩:=Đ e;cases T;exact(TD E B h2 hu L (þ H s) (þ H x)).step
   ·rename_i x t G N
    split at e<;>try (cases e; done)
    rename_i d hd;rw[rl] at e;obtain⟨h',B,h2⟩:=Đ e;cases h2;rw[fH (S:=S) (f:=Builtin.clear_) A (fun _ _=>rfl),arr1 G,show Array.map a.eval #[x]=#[a.eval x] by simp]
    have Z:tys[0]?=some t:=by rw[<-dP,N]; rfl
    exact(UP Z E B (by rw[hd]; rfl) (þ H x)).step
   ·rename_i x t rest G N
    split at e<;>try (cases e; done)
    rename_i W I D;cases e;have C:=þ H x;rw[D] at C;have C:a.eval x=.slice none 0 0:=C;rw[fH (S:=S) (f:=Builtin.cap_) A (fun _ _=>rfl),arr1 G]
    have Z:tys[0]?=some t:=by rw[<-dP,N]; rfl
    exact(Ğ.still (v:=.int .i64 0) (u:=.int .i64 0) E (by simp[Builtin.cap_,Z,C,run_underlying I,goInt]) rfl).step
   ·rename_i x xs G;rw[ŝ] at e;obtain⟨M,B,h2⟩:=Đ e;cases h2;rw[fH (S:=S) (f:=Builtin.min_) A (fun _ _=>rfl)];obtain⟨u,L,T⟩:=As (P:=P) (f:=Builtin.min2) (gt:=false) (fun k p q=>TY k p q) (xs.map (ev S.t)) (xs.map a.eval) _ v (a.eval x) B (þ H x) (ê.of_map fun y _=>þ H y);refine(Ğ.still E ?_ T).step;simp only[Builtin.min_,dT,G,cH];exact L
   ·rename_i x xs G;rw[ŝ] at e;obtain⟨M,B,h2⟩:=Đ e;cases h2;rw[fH (S:=S) (f:=Builtin.max_) A (fun _ _=>rfl)];obtain⟨u,L,T⟩:=As (P:=P) (f:=Builtin.max2) (gt:=true) (fun k p q=>TZ k p q) (xs.map (ev S.t)) (xs.map a.eval) _ v (a.eval x) B (þ H x) (ê.of_map fun y _=>þ H y);refine(Ğ.still E ?_ T).step;simp only[Builtin.max_,dT,G,cH];exact L
   ·cases e
 |_=>rw[A] at e; cases e
end
end Go.Am
end

noncomputable section
namespace Go.Am
variable [Globs] [È]
def Ď (nid:Nat) (h h':th Blk):Prop:=∀j,j≠nid->lkB h j=.dead->lkB h' j=.dead
def Ď.refl (nid:Nat) (h:th Blk):Ď nid h h:=fun _ _ hd=>hd
def Ď.upd {nid id:Nat} {h:th Blk} (B:Blk) (b:id=nid\/lkB h id≠.dead):Ď nid h (á h id B):=fun j c hd=>by
 rw[Ê]
 ·exact hd
 ·rintro rfl;rcases b with rfl|b
  ·exact c rfl
  ·exact b hd
def Ď.trans {nid:Nat} {h h' b:th Blk} (d:Ď nid h h') (h2:Ď nid h' b):Ď nid h b:=fun j c hd=>h2 j c (d j c hd)
def Ď.upd2 {nid i j:Nat} {h:th Blk} (A B:Blk) (hi:lkB h i≠.dead) (c:j=nid\/lkB h j≠.dead):Ď nid h (á (á h i A) j B):=fun m b hd=>by
 have d:m≠i:=fun e=>hi (by rw[<-e]; exact hd);have h2:m≠j:=fun e=>c.elim (fun q=>b (e.trans q)) fun q=>q (by rw[<-e]; exact hd);rw[Ê _ h2,Ê _ d];exact hd
def Ď.frz {nid:Nat} {h:th Blk} (v:AV):Ď nid h (frz h v):=fun _ _ hd=>Nc hd
def Ď.frzA {nid:Nat} {h:th Blk} (ps:th (Nat×AV)):Ď nid h (frzA h ps):=fun _ _ hd=>Ca ps hd
def fJ {h:th Blk} {id:Nat} {B:Blk} (b:lkB h id=B) (c:B≠.dead):lkB h id≠.dead:=by rw[b]; exact c
def WZ {v:AV} {id:Nat} {h:th Blk} {k u:Ty} {es:th (Val k×Val u)} (b:lkB h id=.map k u es):lkB (frz h v) id=.map k u es:=by
 unfold frz; split
 ·exact Gy _ b
 ·exact Nh b
def DX {P:Program} {h h':th Blk} {t:TypeId} {a v:AV} {nid:Nat} (b:kG P h t a v some=some h'):Ď nid h h':=by
 unfold kG at b
 (repeat' split at b)<;>first
  |(cases b; done)
  |(cases b; exact Ď.upd _ (.inr (fJ ‹lkB h _=.cells _› (by simp))))
  |(cases b; exact Ď.upd _ (.inr (fJ ‹lkB h _=.deep _ _ _› (by simp))))
  |(cases b; exact(Ď.frz _).trans (Ď.upd _ (.inr (fJ ‹lkB (frz h _) _=.row _ _ _ _› (by simp)))))
def Qx {P:Program} {S f:St} {o:Op} {nid:Nat} {eat:Bool} {v:AV} (e:opR P S nid eat o=some (v,f)):Ď nid S.h f.h:=by
 unfold opR opK at e;dsimp only at e
 (repeat' split at e)<;>first
  |(cases e; done)
  |(cases e; exact Ď.refl _ _)
  |(cases e; exact Ď.upd _ (.inl rfl))
  |(cases e; exact(Ď.frzA _).trans (Ď.upd _ (.inl rfl)))
  |(rw[mB] at e; obtain⟨c,b,h2⟩:=Đ e; cases h2; exact Ď.refl _ _)
  |(rw[ro] at e; obtain⟨c,b,h2⟩:=Đ e; cases h2; exact Ď.refl _ _)
  |(rw[tW] at e; obtain⟨c,b,h2⟩:=Đ e; cases h2; exact Ď.refl _ _)
  |(rw[jJ] at e; obtain⟨c,b,h2⟩:=Đ e; cases h2; exact Ď.refl _ _)
  |(rw[jM] at e; obtain⟨c,b,h2⟩:=Đ e; cases h2; exact Ď.refl _ _)
  |(rw[qK] at e; obtain⟨c,b,h2⟩:=Đ e; cases h2; exact Ď.refl _ _)
  |(rw[jR] at e; obtain⟨c,b,h2⟩:=Đ e; cases h2; exact Ď.refl _ _)
  |(rw[Ε] at e; obtain⟨c,b,h2⟩:=Đ e; cases h2; exact Ď.refl _ _)
  |(rw[Ζ] at e; obtain⟨c,b,h2⟩:=Đ e; cases h2; exact Ď.refl _ _)
  |(rw[g8] at e; obtain⟨c,b,h2⟩:=Đ e; cases h2; exact Ď.refl _ _)
  |(rw[gY] at e; obtain⟨c,b,h2⟩:=Đ e; cases h2; exact Ď.refl _ _)
  |(rw[qF] at e; obtain⟨c,b,h2⟩:=Đ e; cases h2; exact Ď.refl _ _)
  |(rw[ŝ] at e; obtain⟨c,b,h2⟩:=Đ e; cases h2; exact Ď.refl _ _)
  |(rw[jG] at e; obtain⟨h',b,h2⟩:=Đ e; cases h2; exact DX b)
  | (rw [jG] at e; obtain ⟨h', b, h2⟩ := Đ e; cases h2
     exact(Ď.upd _ (.inr (fJ ‹lkB S.h _=.row _ _ _ _› (by simp)))).trans (DX b))
  | (rw [qo] at e; obtain ⟨⟨c, h'⟩, b, h2⟩ := Đ e; cases h2
     unfold jY at b
     (repeat' split at b)<;>first
      |(cases b; done)
      |(cases b; exact Ď.refl _ _)
      |(cases b; exact Ď.upd _ (.inr (fJ ‹lkB S.h _=.row _ _ _ _› (by simp)))))
  | (rw [nT] at e; obtain ⟨⟨c, h'⟩, b, h2⟩ := Đ e; cases h2
     unfold nV at b
     (repeat' split at b)<;>first
      |(cases b; done)
      |(cases b; exact Ď.upd _ (.inl rfl))
      |(cases b; exact Ď.upd _ (.inr (fJ ‹lkB S.h _=.row _ _ _ _› (by simp)))))
  | (rw [wc] at e; obtain ⟨⟨c, h'⟩, b, h2⟩ := Đ e; cases h2
     unfold JD at b
     (repeat' split at b)<;>first
      |(cases b; done)
      |(cases b; exact Ď.upd2 _ _ (fJ ‹lkB S.h _=.row _ _ _ _› (by simp)) (.inl rfl))
      |(cases b; exact Ď.upd2 _ _ (fJ ‹lkB S.h _=.deep _ _ _› (by simp)) (.inl rfl)))
  | (rw [wg] at e; obtain ⟨⟨c, h'⟩, b, h2⟩ := Đ e; cases h2
     unfold GN at b
     split at b<;>try (cases b; done)
     split at b<;>try (cases b; done)
     split at b<;>try (cases b; done)
     rename_i d
     split at b<;>try (cases b; done)
     (repeat' split at b)<;>first
      |(cases b; done)
      |(cases b; exact Ď.upd2 _ _ (fJ d (by simp)) (.inl rfl))
      |(cases b; exact Ď.upd2 _ _ (fJ d (by simp)) (.inr (fJ (by assumption) (by simp)))))
  | (rw [qm] at e; obtain ⟨⟨c, h'⟩, b, h2⟩ := Đ e; cases h2
     unfold tZ at b
     (repeat' split at b)<;>first
      |(cases b; done)
      |(cases b; exact Ď.upd _ (.inl rfl)))
  | (rw [rl] at e; obtain ⟨h', b, h2⟩ := Đ e; cases h2
     unfold wl at b
     (repeat' split at b)<;>first
      |(cases b; done)
      |(cases b; exact Ď.refl _ _)
      |(cases b; exact Ď.upd _ (.inr (fJ ‹lkB S.h _=.row _ _ _ _› (by simp)))))
  | (rw [ŧ] at e; obtain ⟨q, b, h2⟩ := Đ e
     (repeat' split at h2)<;>first
      |(cases h2; done)
      |(cases h2; exact Ď.refl _ _))
  | (rw [υ] at e; obtain ⟨h', b, h2⟩ := Đ e; cases h2
     unfold ķ at b
     (repeat' split at b)<;>first
      |(cases b; done)
      |(cases b; exact Ď.upd _ (.inr (fJ ‹lkB S.h _=.fns _› (by simp)))))
  | (rw [uL] at e; obtain ⟨⟨c, h'⟩, b, h2⟩ := Đ e; cases h2
     unfold FR at b
     (repeat' split at b)<;>first
      |(cases b; done)
      |(cases b; exact Ď.refl _ _)
      |(cases b; exact Ď.upd _ (.inr (fJ ‹lkB S.h _=.iter _ _› (by simp)))))
  | (rw [ς] at e; obtain ⟨h', b, h2⟩ := Đ e; cases h2
     unfold Ķ at b
     (repeat' split at b)<;>first
      |(cases b; done)
      |(cases b; exact(Ď.frz _).trans (Ď.upd _ (.inr (fJ (WZ ‹lkB S.h _=.map _ _ _›) (by simp))))))
end Go.Am
end

noncomputable section
namespace Go.Am
variable [Globs] [È]
section
variable {ρ:Type} {ν ν':Nat->Value} {h h':th Blk} {w w':World} {P:Program}
def Ev.same (d:∀id,lkB h' id=lkB h id) (c:w'.heap=w.heap) (i:w'.os=w.os) (h2:w'.tape=w.tape) (g:w'.output=w.output) (m:Nat):Ev m ν h w ν h' w' :=
 ⟨i,h2,g,by rw[c]; exact bm _,fun b _ hb=>⟨by rw[c],fun⟨id,f,e⟩=>hb ⟨id,by rwa [d] at f,e⟩⟩,fun id _=>by rw[d]; exact Blk.next_refl _ _ _⟩
def HR.same (H:HR ν h w) (d:∀id,lkB h' id=lkB h id) (c:w'.heap=w.heap) (k:w'.os=w.os) (h2:w'.tape=w.tape) (g:w'.output=w.output):HR ν h' w':=by
 refine⟨fun id=>?_,fun i j b e f=>H.inj i j b (by rwa [d] at e) (by rwa [d] at f),fun b hb=>by rw[c]; exact H.ghlt b hb,fun id b e=>H.ghne id b (by rwa [d] at e),Globs.keep _ _ H.glob (fun b _=>by rw[c]),fun b hb ⟨id,e,f⟩=>H.globL b hb ⟨id,by rwa [d] at e,f⟩⟩;rw[d];exact BR.ev (Ev.same d c k h2 g _) (fun b o hb _=>by rw[c]; exact hb) (fun b hb=>by rw[c]) rfl (fun b _ _ _=>by rw[c]) (H.blk id)
def Sim.same {S:St} {a:Act} (H:Sim ν S a w) (d:∀id,lkB h' id=lkB S.h id) (c:w'.heap=w.heap) (f:w'.os=w.os) (h2:w'.tape=w.tape) (e:w'.output=w.output):Sim ν {t:=S.t,h:=h'} a w' :=
 ⟨H.defers.keep (by rw[c]; exact bm _) (fun b o hb _=>by rw[c]; exact hb),H.len,fun i=>(H.tmps i).ev (Ev.same d c f h2 e _),H.heap.same d c f h2 e⟩
def oi:∀(h:th Blk) (d:Nat),h.length<=d->lkB h d=.dead
 |[],_,_=>rfl
 |x::xs,0,h=>by simp at h
 |x::xs,d+1,h=>by simpa[Gs,Gt,Gr] using oi xs d (by simpa using h)
def BX:∀(h:th Blk) (n id:Nat),lkB (h++List.replicate n .dead) id=lkB h id
 |[],0,_=>rfl
 |[],n+1,0=>rfl
 |[],n+1,id+1=>by simpa[List.replicate_succ,Gs,Gt,Gr] using BX [] n id
 |x::xs,n,0=>rfl
 |x::xs,n,id+1=>by simpa[Gs,Gt,Gr] using BX xs n id
abbrev fen:Fence:={Fence.wide with round:=È.Q}
def NP (P:Program) (L:Nat) (call:th Nat->Bool->Nat->th AV->th Blk->(AV->th Blk->so ρ)->so ρ):Prop :=
 ∀path b g args h (K:AV->th Blk->so ρ) r,path.length=L->call path b g args h K=some r->∀ν w vals,HR ν h w->È.B<=w.heap.size->ê (VR ν h w) args vals ->
  (∃fn c,P.funcs[g]?=some fn/\fn.body=some c) /\
  CallsIn Fence.wide 0 P g vals.toArray w fun e w'=>∃ν' h' v u,e=.returned u/\VR ν' h' w' v u/\HR ν' h' w'/\Ev h.length ν h w ν' h' w'/\h.length<=h'.length/\(∀j,j<h.length->lkB h j=.dead->lkB h' j=.dead)/\K v h'=some r
def xz (P:Program) (clone:Nat->Bool):Prop :=
 ∀g,clone g=true->∀fz S nid x v b,om P g fz S nid x (fun v S=>some (v,S))=some (v,b)->∀ν w u,HR ν S.h w->VR ν S.h w x u->nid<S.h.length->lkB S.h nid=.dead ->
  (∃fn c,P.funcs[g]?=some fn/\fn.body=some c) /\
  CallsIn Fence.wide 0 P g #[u] w fun e w'=>∃ν' u',e=.returned u'/\VR ν' b.h w' v u'/\HR ν' b.h w'/\Ev S.h.length ν S.h w ν' b.h w'/\S.h.length<=b.h.length/\Ď nid S.h b.h/\b.t=S.t
def xl (P:Program) (g:Nat) (fz:Bool) (S:St) (nid:Nat) (x:AV) (K:AV->St->so ρ):om P g fz S nid x K=(om P g fz S nid x fun v S=>some (v,S)).bind fun r=>K r.1 r.2:=by
 unfold om; (repeat' split)<;>rfl
def Aft (m:Nat) (ν:Nat->Value) (h:th Blk) (w:World) (K:St->so ρ) (r:ρ) (c:Act) (w':World):Prop :=
 ∃ν' b,Sim ν' b c w'/\Ev m ν h w ν' b.h w'/\h.length<=b.h.length/\K b=some r
def Aft.trans {m f:Nat} {K:St->so ρ} {r:ρ} {g:Act} {ν b:Nat->Value} {h c:th Blk} {w d w':World} (e:Ev m ν h w b c d) (j:h.length<=c.length) (i:m<=f) (ha:Aft f b c d K r g w'):Aft m ν h w K r g w':=by
 obtain⟨ν',p,o,h2,l,k⟩:=ha;exact⟨ν',p,o,e.trans h2 i,bB j l,k⟩
def op_nid {S:St} {o:Op} {nid nid':Nat} {eat:Bool} {clone:Nat->Bool} (d:ô clone o=false):opR P S nid eat o=opR P S nid' eat o:=by
 cases o<;>try first|rfl|(cases d; done)
 rename_i c;obtain⟨f,args,tys⟩:=c
 cases f<;>try rfl
 rename_i b
 cases b<;>first|(cases d; done)|rfl|(unfold opR opK; dsimp only; (repeat' split)<;>first|rfl|simp_all)
def YldP (P:Program) (y:YFun):Prop:=∃f:y.ty=È.T,∀(O X:Nat->Prop) (c:th (Val È.T)) (v:Val È.T) (u:Value) (W:World),È.J O X c W->(∀b,O b->X b)->(∀b,X b->b<W.heap.size)->(c++[v] <+: l5 (F:=fun t=>th (Val t)) f y.all)->CR W X È.T v [u]->È.B<=W.heap.size ->
 YieldAt Fence.wide 0 P È.L #[u] W fun e d=>e=.returned (.bool (ygo y.stop (l5 (F:=fun t=>th (Val t)) f y.all) (c++[v])))/\d.os=W.os/\d.tape=W.tape/\d.output=W.output/\W.heap.size<=d.heap.size /\
  ∃us,(∀b,b<W.heap.size->¬O b->d.heap[b]?=W.heap[b]?/\¬č (.agg us) b)/\(∀b,č (.agg us) b->∃o,d.heap[b]?=some o/\xP o=true)/\È.J (č (.agg us)) (fun b=>(X b/\¬O b)\/č (.agg us) b) (c++[v]) d
def Ŭ (E:Env ρ):Prop:=∀y,E.yld=some y->YldP E.P y
def ō {E:Env ρ} (h:E.yld=none):Ŭ E:=fun y e=>by rw[h] at e; cases e
def VX {α:Type} {all l:th α} {k:so ρ} {r:ρ} (h:yg all l k=some r):l <+: all/\k=some r:=by
 unfold yg at h
 split at h
 ·exact⟨‹_›,h⟩
 ·cases h
def NT {t:Ty} (b:t.isAgg=false) {a:AV} {v:Val t} (e:Ø t [a]=some v):a.isAgg=false/\a.isTup=false:=by
 cases t<;>first|(cases b; done)|(cases a<;>first|exact⟨rfl,rfl⟩|cases e)
def Ku (h:th Blk) {a:AV} (e:(í h a).isAgg=false/\(í h a).isTup=false):a.isAgg=false/\a.isTup=false:=by
 cases a<;>first|exact⟨rfl,rfl⟩|exact e
def PN {E:Env ρ} (hy:Ŭ E) {x:AV} {u:Value} {K:AV->th Blk->so ρ} {r:ρ} (H:HR ν h w) (hv:VR ν h w x u) (hB:È.B<=w.heap.size) (e:yldK E h x K=some r) :
 YieldAt Fence.wide 0 E.P È.L #[u] w fun e w'=>∃b,e=.returned (.bool b)/\∃ν' h',HR ν' h' w'/\Ev h.length ν h w ν' h' w'/\h'.length=h.length/\(∀j,lkB h j=.dead->lkB h' j=.dead)/\K (.bool b) h'=some r:=by
 unfold yldK at e
 split at e<;>try (cases e; done)
 rename_i y hE
 split at e<;>try (cases e; done)
 rename_i O
 split at e<;>try (cases e; done)
 rename_i G
 split at e<;>try (cases e; done)
 rename_i v k
 split at e<;>try (cases e; done)
 rename_i t xs f
 split at e<;>try (cases e; done)
 rename_i he hq;clear hq;obtain⟨ty,all,stp⟩:=y;obtain⟨hT,hY⟩:=hy _ hE;have M:t=ty:=he;subst M;have R:t=È.T:=hT;subst R;obtain⟨m,hk⟩:=VX e;obtain⟨C,A⟩:=Ku h (NT O k);have D:=hv.one C A;obtain⟨S,g,_⟩:=Cc H x;have N:CR w (Av ν (kD h x)) È.T v [u]:=ÿ k ⟨Cb H D G,trivial⟩;have hb:=g.blk 0;rw[f] at hb;obtain⟨Z,h1,h2,h3,h4⟩:=hb;obtain⟨fn,tmps,assign,body,l,hR⟩:=hY _ _ xs v u w h4 (fun b hb=>.inl ⟨0,by rw[f]; rfl,hb⟩) (fun b hb=>g.ltA hb) m N hB;refine⟨fn,tmps,assign,body,l,hR.mono fun e' w' hw=>?_⟩;obtain⟨rfl,o1,o2,o3,o4,us,U,o6,o7⟩:=hw;refine⟨_,rfl,?_⟩
 have c:(lkB (kD h x) 0).live=true:=by rw[f]; rfl
 have s:0<(kD h x).length:=Ę f (by simp);have d:∀b,b<w.heap.size->((lkB (kD h x) 0).live=true->¬č (ν 0) b)->w'.heap[b]?=w.heap[b]?:=fun b hb p=>(U b hb (p c)).1
 have Y:(Blk.acc È.T (xs++[v])).live=true->∀b,č (.agg us) b->((lkB (kD h x) 0).live=true/\č (ν 0) b)\/w.heap.size<=b:=fun _ b hb=>by
  rcases bZ b w.heap.size with I|J
  ·by_cases W:č (ν 0) b
   ·exact .inl ⟨c,W⟩
   ·exact absurd hb (U b I W).2
  ·exact .inr J
 have z:=Ev.upd g (B:=.acc È.T (xs++[v])) (V:=.agg us) s o1 o2 o3 o4 d Y (by rw[f]; exact⟨_,rfl⟩)
 have H2:HR (æ ν 0 (.agg us)) (á (kD h x) 0 (.acc È.T (xs++[v]))) w':=by
  refine HR.upd g s z d Y ⟨us,Ç _ _ _,?_,rfl,?_⟩
  ·rw[Ç]; exact o6
  ·rw[Ç];refine È.st _ _ _ _ _ _ o7 ⟨rfl,rfl,rfl,bm _,fun b _ p=>?_,fun b o hb _ _=>hb,fun b o hb _ _=>hb,fun _ _ _=>rfl⟩;rintro(⟨i,hi,hb⟩|X)
   ·by_cases h0:i=0
    ·subst h0; rw[Ç] at hb; exact p (.inr hb)
    ·rw[Ê _ h0] at hi;rw[ò _ _ h0] at hb;exact p (.inl ⟨.inl ⟨i,hi,hb⟩,fun q=>h0 (g.inj i 0 b hi c hb q)⟩)
   ·exact p (.inl ⟨.inr X,fun q=>g.ghne 0 b c q X⟩)
 refine⟨_,_,H2,S.trans z (by rw[hZ]; exact bm _),by rw[É,hZ],fun j hj=>?_,hk⟩;have hd:lkB (kD h x) j=.dead:=Cd hj;rw[Ê _ (fun q=>by rw[q,f] at hd; cases hd)];exact hd
def KE {E : Env ρ} {call : th Nat -> Bool -> Nat -> th AV -> th Blk -> (AV -> th Blk -> so ρ) -> so ρ} {L : Nat} (I : NP E.P L call) (hP : ∀ (f : Nat) (fn : Func), E.P.funcs[f]? = some fn -> (fn.name == "runtime.NumGoroutine") = false)
 (B:xz E.P E.clone) (N:Ŭ E)
 {fid:Nat} {path:th Nat} {y:Bool} {S:St} {a:Act} {nid:Nat} {o:Oper} {K:AV->St->so ρ} {r:ρ} (hp:path.length=L) (H:Sim ν S a w) (hn:ô E.clone o.op=true->nid<S.h.length/\lkB S.h nid=.dead)
 (e:ο E call fid path y S nid o K=some r) {next:Act->World->Prop} {Q:Exit->Act->World->Prop}
 (X:∀(ν':Nat->Value) (w':World) (u:Value) (v:AV) (k:St),VR ν' k.h w' v u->HR ν' k.h w'->Ev S.h.length ν S.h w ν' k.h w'->S.h.length<=k.h.length->(∀j,j<S.h.length->j≠nid\/ô E.clone o.op=false->lkB S.h j=.dead->lkB k.h j=.dead)->k.t=S.t->K v k=some r->next (a.put o.dst u) w') :
 o.wpIn fen 0 E.P a w next Q:=by
 refine⟨fun _ _=>trivial,?_⟩
 have Z:∀c,o.op≠.defer c:=by
  intro c M;rw[Ź] at e
  try simp only[xO] at e
  split at e<;>try (cases e; done)
  split at e
  ·rename_i i;rw[M] at i; cases i
  ·rw[M] at e;cases e
 rw[Oper.semAt_eq _ _ _ Z]
 have plain:∀v k,opR E.P S nid (Cq E y fid o) o.op=some (v,k)->K v k=some r->o.uponIn fen 0 E.P a next Q ((execOp a.eval o).run E.P w):=by
  intro v k z h2;obtain⟨ν',w',u,J,h4,h5,h6,h7,h8⟩:=T7 (clone:=E.clone) H hn z
  have:=X ν' w' u v k h4 h5 h6 (dk h7.symm) (fun j _ C hd=>by
   rcases C with C|hal
   ·exact Qx z j C hd
   ·rw[op_nid (nid':=j+1) hal] at z
    exact Qx z j (by omega) hd) h8 h2
  rcases J with J|⟨J,rfl⟩
  ·rw[J]; exact this
  ·rw[J]; exact this
 rw[Ź] at e
 try simp only[xO] at e
 split at e<;>try (cases e; done)
 split at e
 ·rename_i f args tys i
  split at e<;>try (cases e; done)
  rotate_left
  ·rename_i p
   split at e<;>try (cases e; done)
   rename_i x d
   have D:a.eval f=.func (.yield È.L) #[] #[]:=by
    have:=þ H f;rw[p] at this;exact this
   obtain⟨fn,tmps,assign,body,T,hR⟩:=PN N H.heap (þ H x) H.defers.bnd e
   have O:(execOp a.eval o).run E.P w=.ok (.round È.L fn tmps assign body) w:=by
    rw[<-T];unfold execOp;rw[i,arr1 d];simp[resolve,D,Deferred.ofValue,invoke,Sem.run_bind,Result.andThen_ok,callFunc,run_program]
   rw[O,Oper.uponIn_round];refine⟨fun p=>(by cases p),RoundIn.mono (show RoundIn fen 0 E.P _ _ _ _ _ _ _ from hR) fun e' w' R=>?_⟩;obtain⟨b,rfl,ν',h',g1,g2,g3,g4,g5⟩:=R;exact X ν' w' (.bool b) (.bool b) {t:=S.t,h:=h'} rfl g1 g2 (dk g3.symm) (fun j _ _ hd=>g4 j hd) rfl g5
  rename_i g first W p;have V:=þ H f;rw[p] at V;obtain⟨fs,cs,D,A,G⟩:=V
  split at e
  ·rename_i l
   split at e<;>try (cases e; done)
   rename_i x d;rw[xl] at e;obtain⟨⟨v,k⟩,z,h2⟩:=Đ e;simp only[bn] at l;obtain⟨l,U⟩:=l
   have hfg:f=.func g:=by
    cases f<;>try (cases U; done)
    simp only[ev] at p
    injection p with Y
    injection Y with Y
    rw[Y]
   subst hfg;obtain⟨hn1,hn2⟩:=hn (by rw[i]; exact l);obtain⟨⟨fn,c,s,m⟩,M⟩:=B g l _ S nid _ v k z ν w _ H.heap (þ H x) hn1 hn2
   have O:(execOp a.eval o).run E.P w=.ok (.enter g #[a.eval x]) w:=by
    unfold execOp;rw[i,arr1 d];simp only[resolve,Act.eval,Deferred.ofValue,pure_bind,invoke,callFunc,Sem.run_bind,run_program,Result.andThen_ok,s,hP g fn s,m];simp only[Bool.false_eq_true,if_false,Option.isNone_some];show Result.ok (Next.enter g _) w=_;congr 2;apply Array.ext'
    cases x<;>simp[Act.eval]
   rw[O,Oper.uponIn_enter];refine⟨fun p=>(by cases p),M.mono fun e' w' R=>?_⟩;obtain⟨ν',u',rfl,g1,g2,g3,g4,g6,g5⟩:=R;exact X ν' w' u' v k g1 g2 g3 g4 (fun j _ C hd=>g6 j (C.resolve_right (by rw[i]; exact fun p=>by rw[show ô E.clone (.call ⟨.value (.func g),args,tys⟩)=E.clone g from rfl,l] at p; cases p)) hd) g5 h2
  ·rename_i l
   have d:ê (VR ν S.h w) (first++(args.toList.map (ev S.t)++W)) (fs.toList++(args.toList.map a.eval++cs.toList)) :=
    (A.mono fun _ _ q=>q.up.up).append ((ê.of_map fun x _=>þ H x).append (G.mono fun _ _ q=>q.up.up))
   obtain⟨⟨fn,c,s,m⟩,M⟩:=I path y g _ _ _ r hp e ν w _ H.heap H.defers.bnd d
   have O:(execOp a.eval o).run E.P w=.ok (.enter g (fs.toList++(args.toList.map a.eval++cs.toList)).toArray) w:=by
    unfold execOp;rw[i];simp only[resolve,D,Deferred.ofValue,pure_bind,invoke,callFunc,Sem.run_bind,run_program,Result.andThen_ok,s,hP g fn s,m];simp only[Bool.false_eq_true,if_false,Option.isNone_some];show Result.ok (Next.enter g _) w=_;congr 2;apply Array.ext';simp
   rw[O,Oper.uponIn_enter];refine⟨fun p=>(by cases p),M.mono fun e' w' R=>?_⟩;obtain⟨ν',h',v,u,rfl,z,h2,J,h4,h6,h5⟩:=R;exact X ν' w' u v {t:=S.t,h:=h'} z h2 J h4 (fun j C _ hd=>h6 j C hd) rfl h5
 ·rename_i op hne;rw[FN] at e;obtain⟨⟨v,k⟩,z,h2⟩:=Đ e;exact plain v k z h2
def t7:∀(t:th AV) (d:Nat),upd t d (lk t d)=t
 |[],_=>rfl
 |_::_,0=>rfl
 |x::t,d+1=>by simp[Hs,Ht,Hr,Tz,TA,Tx,t7 t d]
def Vm (n nid:Nat) (h:th Blk):Prop:=∀j,nid<=j->j<nid+n->j<h.length/\lkB h j=.dead
def iw {clone:Nat->Bool} {o:Oper} {os:th Oper}:Ŝ clone (o::os)=bif ô clone o.op then Ŝ clone os+1 else Ŝ clone os:=rfl
def EW {all:th Oper} {o:Oper} {j:Nat} {b:Bool}:∀{l:th Oper},lO all l=true->o∈l->o.guard=some (j,b)->∃p d,all[j]?=some p/\p.dst=some d
 |[],_,c,_=>by cases c
 |x::l,f,c,g=>by
  simp only[lO,bn] at f;rcases bw.1 c with rfl|c
  ·have e:=f.1;rw[g] at e;simp only at e
   split at e
   ·rename_i p i;obtain⟨d,hd⟩:=dS.1 e;exact⟨p,d,i,hd⟩
   ·cases e
  ·exact EW f.2 c g
def NQ {c:Array Oper} {tmps:Array Value} {j d:Nat} {p:Oper} (g:c.toList[j]?=some p) (hd:p.dst=some d) :
 (∀b,tmps.getD d undef=.bool b->yielded c tmps j=some b)/\(tmps.getD d undef=undef->yielded c tmps j=none):=by
 have e:c[j]?=some p:=by simpa using g
 constructor
 ·intro b hb;unfold yielded;rw[e];simp only[Option.bind_some,hd]
  cases f:tmps[d]? with
  |none=>simp[bM,f,undef] at hb
  |some v=>simp[bM,f] at hb; subst hb; rfl
 ·intro hb;unfold yielded;rw[e];simp only[Option.bind_some,hd]
  cases f:tmps[d]? with
  |none=>rfl
  |some v=>simp[bM,f] at hb; subst hb; rfl
def jV (E:Env ρ) (call:th Nat->Bool->Nat->th AV->th Blk->(AV->th Blk->so ρ)->so ρ) (fid:Nat) (path:th Nat) (c:Bool) (all:th Oper) (i nid:Nat) (o:Oper) (S:St) (K:St->so ρ):so ρ :=
 match o.guard with
 |none=>ο E call fid (path++[i]) c S nid o fun v S=>K {t:=ï S.t o.dst v,h:=S.h}
 |some (j,want)=>match lk S.t (jz all j) with
  |.bool b=>match b==want with
   |true=>ο E call fid (path++[i]) c S nid o fun v S=>K {t:=ï S.t o.dst v,h:=S.h}
   |false=>K {t:=ï S.t o.dst .und,h:=S.h}
  |.und=>K {t:=ï S.t o.dst .und,h:=S.h}
  |_=>none
def Qu {E:Env ρ} {call:th Nat->Bool->Nat->th AV->th Blk->(AV->th Blk->so ρ)->so ρ} {fid:Nat} {path:th Nat} {c:Bool} {all:th Oper} {o:Oper} {os:th Oper} {i nid:Nat} {S:St} {K:St->so ρ} :
 Oe E call fid path c all (o::os) i nid S K=jV E call fid path c all i nid o S fun m=>Oe E call fid path c all os (i+1) (bif ô E.clone o.op then nid+1 else nid) m K:=by
 simp only[Oe,jV]
 have f:∀d b,lk S.t d=.bool b->({t:=upd S.t d (.bool b),h:=S.h}:St)=S:=fun d b hb=>by rw[<-hb,t7]
 have e:∀d b,lk S.t d=.bool b->upd S.t d (.bool b)=S.t:=fun d b hb=>by rw[<-hb,t7]
 cases o.guard with
 |none=>rfl
 |some g =>
  obtain⟨j,k⟩:=g;simp only
  cases hb:lk S.t (jz all j)<;>try rfl
  rename_i b;have l:=f _ b hb;have h2:=e _ b hb
  cases b<;>cases k<;>simp only[l,h2]<;>rfl
def zN {E : Env ρ} {call : th Nat -> Bool -> Nat -> th AV -> th Blk -> (AV -> th Blk -> so ρ) -> so ρ} {L : Nat} (y : NP E.P L call) (U : ∀ (f : Nat) (fn : Func), E.P.funcs[f]? = some fn -> (fn.name == "runtime.NumGoroutine") = false)
 (l:xz E.P E.clone) (z:Ŭ E) {fid:Nat} {path:th Nat} {m:Bool} {c:Array Oper} (T:lO c.toList c.toList=true)
 {S:St} {a:Act} {nid i:Nat} {o:Oper} {K:St->so ρ} {r:ρ} (D:path.length+1=L) (N:c[i]?=some o) (H:Sim ν S a w) (R:ô E.clone o.op=true->nid<S.h.length/\lkB S.h nid=.dead)
 (e:jV E call fid path m c.toList i nid o S K=some r) {next:Act->World->Prop} {Q:Exit->Act->World->Prop}
 (O:∀(ν':Nat->Value) (w':World) (u:Value) (v:AV) (q:St),VR ν' q.h w' v u->HR ν' q.h w'->Ev S.h.length ν S.h w ν' q.h w'->S.h.length<=q.h.length->(∀j,j<S.h.length->j≠nid\/ô E.clone o.op=false->lkB S.h j=.dead->lkB q.h j=.dead)->q.t=S.t ->
  K {t:=ï q.t o.dst v,h:=q.h}=some r->next (a.put o.dst u) w') :
 wpOpIn fen 0 E.P c Q i next a w:=by
 have run:ο E call fid (path++[i]) m S nid o (fun v S=>K {t:=ï S.t o.dst v,h:=S.h})=some r ->
  o.wpIn fen 0 E.P a w next Q:=fun J=>KE y U l z (by simpa using D) H R J O
 -- it is left out
 have skip:K {t:=ï S.t o.dst .und,h:=S.h}=some r->next (a.put o.dst undef) w :=
  fun J=>O ν w undef .und S rfl H.heap (Ev.refl _ _ _ _) (bm _) (fun _ _ _ hd=>hd) rfl J
 have B:o∈c.toList:=by
  have:c.toList[i]?=some o:=by simpa using N
  exact bJ this
 unfold wpOpIn;rw[N];simp only[jV] at e
 split at e
 ·rename_i g
  have s:Region.wanted o (yielded c a.tmps)=true:=by simp[Region.wanted,g]
  simp only[s,if_true];exact run e
 ·rename_i j M g;obtain⟨p,d,D,hd⟩:=EW T B g;obtain⟨I,G⟩:=NQ (tmps:=a.tmps) D hd
  have x:jz c.toList j=d:=by simp[jz,D,hd]
  rw[x] at e;have C:=H.tmps d
  split at e
  ·rename_i b hb;rw[hb] at C;have A:=I b C
   split at e
   ·rename_i k
    have s:Region.wanted o (yielded c a.tmps)=true:=by
     simp only[beq_iff_eq] at k;simp[Region.wanted,g,A,k]
    simp only[s,if_true];exact run e
   ·rename_i k
    have s:Region.wanted o (yielded c a.tmps)=false:=by
     simp only[beq_eq_false_iff_ne] at k;simpa[Region.wanted,g,A] using k
    simp only[s,bP,if_false];exact⟨fun _ _=>trivial,skip e⟩
  ·rename_i hb;rw[hb] at C
   have s:Region.wanted o (yielded c a.tmps)=false:=by simp[Region.wanted,g,G C]
   simp only[s,bP,if_false];exact⟨fun _ _=>trivial,skip e⟩
  ·cases e
def Qt {E : Env ρ} {call : th Nat -> Bool -> Nat -> th AV -> th Blk -> (AV -> th Blk -> so ρ) -> so ρ} {L : Nat} (m : NP E.P L call) (I : ∀ (f : Nat) (fn : Func), E.P.funcs[f]? = some fn -> (fn.name == "runtime.NumGoroutine") = false)
 (g:xz E.P E.clone) (p:Ŭ E) {fid:Nat} {path:th Nat} {k:Bool} {c:Array Oper} (G:lO c.toList c.toList=true)
 {S:St} {a:Act} {nid i:Nat} {o:Oper} {os:th Oper} {K:St->so ρ} {r:ρ} (z:path.length+1=L) (A:c[i]?=some o) (H:Sim ν S a w) (x:Vm (Ŝ E.clone (o::os)) nid S.h)
 (e:Oe E call fid path k c.toList (o::os) i nid S K=some r) {next:Act->World->Prop} {Q:Exit->Act->World->Prop}
 (C:∀(ν':Nat->Value) (w':World) (u:Value) (v:AV) (d:St),VR ν' d.h w' v u->HR ν' d.h w'->Ev S.h.length ν S.h w ν' d.h w'->S.h.length<=d.h.length->Vm (Ŝ E.clone os) (bif ô E.clone o.op then nid+1 else nid) d.h->(∀j,j<S.h.length->j<nid->lkB S.h j=.dead->lkB d.h j=.dead)->d.t=S.t ->
  Oe E call fid path k c.toList os (i+1) (bif ô E.clone o.op then nid+1 else nid) {t:=ï d.t o.dst v,h:=d.h} K=some r->next (a.put o.dst u) w') :
 wpOpIn fen 0 E.P c Q i next a w:=by
 have s:ô E.clone o.op=true->nid<S.h.length/\lkB S.h nid=.dead:=fun b=>x nid (bm _) (by rw[iw,b]; simp)
 have l:Vm (Ŝ E.clone os) (bif ô E.clone o.op then nid+1 else nid) S.h:=fun j q h2=>by
  cases b:ô E.clone o.op with
  |true=>rw[b] at q h2; exact x j (by simp at q; omega) (by rw[iw,b]; simp at h2 ⊢; omega)
  |false=>rw[b] at q h2; exact x j (by simpa using q) (by rw[iw,b]; simpa using h2)
 rw[Qu] at e;refine zN m I g p G z A H s e fun ν' w' u v d W V U T y R O=>C ν' w' u v d W V U T (fun j h2 N=>?_) (fun j D B hd=>y j D (.inl (by omega)) hd) R O;obtain⟨M,J⟩:=l j h2 N;refine⟨by omega,y j M ?_ J⟩
 cases b:ô E.clone o.op with
 |true=>left; rw[b] at h2; simp at h2; omega
 |false=>exact .inr rfl
end
end Go.Am
end

noncomputable section
namespace Go.Am
variable [Globs] [È]
section
variable {ρ:Type} {ν ν':Nat->Value} {h h':th Blk} {w w':World} {P:Program}
def Dd (m:Nat) (h h':th Blk):Prop:=∀j,j<m->lkB h j=.dead->lkB h' j=.dead
def Dd.refl (m:Nat) (h:th Blk):Dd m h h:=fun _ _ hd=>hd
def Dd.trans {m c:Nat} {h h' b:th Blk} (f:Dd m h h') (h2:Dd c h' b) (e:m<=c):Dd m h b:=fun j d hd=>h2 j (bu d e) (f j d hd)
def Ka (m:Nat) (ν:Nat->Value) (h:th Blk) (w:World) (K:Exit->St->so ρ) (r:ρ) (e:Exit) (c:Act) (w':World):Prop :=
 ∃ν' b,Sim ν' b c w'/\Ev m ν h w ν' b.h w'/\m<=b.h.length/\Dd m h b.h/\K e b=some r
def Ka.trans {m g:Nat} {K:Exit->St->so ρ} {r:ρ} {e:Exit} {i:Act} {b:Nat->Value} {c:th Blk} {d:World} (ev:Ev m ν h w b c d) (hd:Dd m h c) (f:m<=g) (ha:Ka g b c d K r e i w'):Ka m ν h w K r e i w':=by
 obtain⟨ν',p,o,h2,l,k,j⟩:=ha;exact⟨ν',p,o,ev.trans h2 f,bB f l,hd.trans k f,j⟩
def Tp (E:Env ρ) (call:th Nat->Bool->Nat->th AV->th Blk->(AV->th Blk->so ρ)->so ρ):Prop :=
 (∀path b g args h K,call path b g args h K=none) \/
 ((∀ f p, E.pure f = some p -> ∀ path b args h K, call path b f args h K = FG (b && !E.fz f) p h args K) /\
  (∀f,E.pure f=none->E.sort f=true->∀path b args h K,call path b f args h K=match args with|[x]=>Fz h x K|_=>none) /\
  (∀f,E.pure f=none->E.sort f=false->E.compact f=true->∀path b args h K,call path b f args h K=match args with|[x]=>jD h x K|_=>none))
def NormOk (m:Nat) (N:St->so St):Prop:=∀(S b:St) (ν:Nat->Value) (a:Act) (w:World),N S=some b->Sim ν S a w->m<=S.h.length->∃ν',Sim ν' b a w/\Ev m ν S.h w ν' b.h w/\m<=b.h.length/\Dd m S.h b.h
def NM (E:Env ρ):Prop:=∀path fid rid m J,E.joins path fid rid m=some J->∃N,NormOk m N/\∀body rest,J body rest=body (fun S=>match N S with|some b=>rest b|none=>none)
def Œ {E:Env ρ} (h:E.joins=fun _ _ _ _=>none):NM E:=by
 intro path fid rid m J e;rw[h] at e;cases e
structure Ÿ (E:Env ρ) (L:Nat) (call:th Nat->Bool->Nat->th AV->th Blk->(AV->th Blk->so ρ)->so ρ):Prop where
 pureEq:Tp E call
 call:NP E.P L call
 plain : ∀ (f : Nat) (fn : Func), E.P.funcs[f]? = some fn -> (fn.name == "runtime.NumGoroutine") = false
 clone:xz E.P E.clone
 joins:NM E
 yld:Ŭ E
def If {E:Env ρ} {call:th Nat->Bool->Nat->th AV->th Blk->(AV->th Blk->so ρ)->so ρ} {L:Nat} (g:Ÿ E L call) {fid:Nat} {path:th Nat} {l:Bool} {b:Array Oper} (A:path.length+1=L) (C:lO b.toList b.toList=true)
 {K:St->so ρ} {r:ρ} {Q:Exit->Act->World->Prop} {m:Nat}:∀(os:th Oper) (i nid:Nat) (S:St) (a:Act) (ν:Nat->Value) (w:World),(∀k,os[k]?=b[i+k]?)->Sim ν S a w->Vm (Ŝ E.clone os) nid S.h->m<=nid->m<=S.h.length ->
  Oe E call fid path l b.toList os i nid S K=some r ->
  (∀ν' c G w',Sim ν' c G w'->Ev m ν S.h w ν' c.h w'->m<=c.h.length->Dd m S.h c.h->K c=some r->Q .normal G w') ->
  wpOpsIn fen 0 E.P b Q (List.range' i os.length) a w
 |[],i,nid,S,a,ν,w,_,H,_,_,s,e,x=>x ν S a w H (Ev.refl _ _ _ _) s (Dd.refl _ _) e
 |o::os,i,nid,S,a,ν,w,B,H,I,J,s,e,x=>by
  rw[bz,List.range'_succ,wpOpsIn_cons]
  have q:b[i]?=some o:=by have:=B 0; simpa using this.symm
  refine Qt g.call g.plain g.clone g.yld C A q H I e fun ν' w' u v c U h2 D h4 T N R O=>?_;have f:=H.put D h2 o.dst U
  refine If g A C os (i+1) _ {t:=ï c.t o.dst v,h:=c.h} _ ν' w' (fun k=>by have:=B (k+1); rw[show i+1+k=i+(k+1) by omega]; simpa using this) (by rw[R]; exact f) T (by cases ô E.clone o.op<;>simp<;>omega) (by simp; omega) O
   fun d z y p Z Y X W V=>x d z y p Z ((D.mono s).trans Y (bm _)) X (fun j M hd=>W j M (N j (by omega) (by omega) hd)) V
def KK {E:Env ρ} {call:th Nat->Bool->Nat->th AV->th Blk->(AV->th Blk->so ρ)->so ρ} {L:Nat} (o:Ÿ E L call) {fid rid:Nat} {path:th Nat} {c:Array Oper} {S:St} {a:Act} {K:Exit->St->so ρ} {r:ρ} {m:Nat} (g:path.length+1=L)
 (e:zY E call fid path false c.toList S (K .normal)=some r) (H:Sim ν S a w) (i:m<=S.h.length):(Code.region rid c false).wpIn fen 0 E.P (Ka m ν S.h w K r) a w:=by
 unfold zY at e
 split at e<;>try (cases e; done)
 rename_i f;simp only[Bool.false_and,Bool.false_or,dj] at f;apply wpIn_region;have b:=fun id=>BX S.h (Ŝ E.clone c.toList) id;have z:Sim ν {t:=S.t,h:=S.h++List.replicate (Ŝ E.clone c.toList) .dead} a w:=H.same b rfl rfl rfl rfl;have d:Ev m ν S.h w ν (S.h++List.replicate (Ŝ E.clone c.toList) .dead) w:=Ev.same b rfl rfl rfl rfl m
 have:=If (m:=m) (Q:=Ka m ν S.h w K r) o g f c.toList 0 S.h.length _ a ν w (fun k=>by simp) z (fun j p h2=>⟨by simp; omega,by simp only[b]; exact oi _ _ p⟩) i (by simp; omega) e
  (fun ν' y A w' x v u s q=>⟨ν',y,x,d.trans v (bm _),u,fun j l hd=>s j l (by simp only[b]; exact hd),q⟩)
 rw[List.range_eq_range'];simpa using this
def gM (E:Env ρ) (L:Nat) (call:th Nat->Bool->Nat->th AV->th Blk->(AV->th Blk->so ρ)->so ρ):Prop :=
 ∀(fid rid:Nat) (path:th Nat) (b:Array Oper) (S:St) (a:Act) (K:Exit->St->so ρ) (r:ρ) (m:Nat) (ν:Nat->Value) (w:World),path.length+1=L ->
  zY E call fid path true b.toList S (K .normal)=some r->Sim ν S a w->m<=S.h.length->(Code.region rid b true).wpIn fen 0 E.P (Ka m ν S.h w K r) a w
def drawn:Code->Bool
 |.region _ _ d=>d
 |.seq a b=>drawn a||drawn b
 |.cond _ a b=>drawn a||drawn b
 |.block _ b=>drawn b
 |.scope b=>drawn b
 |_=>false
def noGoto (Q:Exit->Act->World->Prop):Exit->Act->World->Prop
 |.goto _,_,_=>False
 |e,a,w=>Q e a w
section
variable {F:Fence} {n:Nat} {P:Program} {Q:Exit->Act->World->Prop} {a:Act} {w:World}
def gO {b:Frame} {k:th Item} {cs:th Frame} {c:Code}:step P (lone (b.atR a (.code (.scope c)::k)) cs w)=.next (lone (b.atR a (.code c::.inScope c::k)) cs w) :=
 step_lone_go (by simp[stepG,stepG.exec,Frame.atR])
def Fx {b:Frame} {k:th Item} {cs:th Frame} {c:Code}:step P (lone (b.atR a (.inScope c::k)) cs w)=.next (lone (b.atR a k) cs w) :=
 step_lone_go (by simp[stepG,stepG.exec,Frame.atR])
def NR {c:Code} (h:c.wpIn F n P (noGoto Q) a w):(Code.scope c).wpIn F n P Q a w:=by
 intro b k cs j hb o;have h0:(lone (b.atR a (.code (.scope c)::k)) cs w).fenced P F:=fenced_calm hb o rfl;obtain⟨e,g,f,i,d⟩:=h b (.inScope c::k) cs j hb o
 cases e with
 |normal=>exact⟨.normal,g,f,i,.head h0 gO (StepsIn.trans d (.one (fenced_calm hb o rfl) Fx))⟩
 |exit id =>
  have q:exitTo id (.inScope c::k)=exitTo id k:=by simp[exitTo]
  exact⟨.exit id,g,f,i,fun r p=>.head h0 gO (d.1 r (by rw[q]; exact p)),
   fun m p=>let ⟨k₁,s,h2⟩:=d.2 m (by rw[q]; exact p); ⟨k₁,s,.head h0 gO h2⟩⟩
 |goto l=>exact i.elim
 |ret=>exact⟨_,g,f,i,.of_steps (.one h0 gO) d⟩
 |panic ch=>exact⟨_,g,f,i,.of_steps (.one h0 gO) d⟩
 |outgrown=>exact⟨_,g,f,i,.of_steps (.one h0 gO) d⟩
end
def Χ (E:Env ρ) (path:th Nat) (fid bid:Nat):LI->Prop
 |.lp b=>∀(m:Nat) (S:St) (K:Exit->St->so ρ) (r:ρ) (ν:Nat->Value) (a:Act) (w:World),E.loops path fid bid m S K=some r->Sim ν S a w->m<=S.h.length->(Code.loop b).wpIn fen 0 E.P (Ka m ν S.h w K r) a w
 |.rf g ps x y=>∀(m:Nat) (S:St) (K:Exit->St->so ρ) (r:ρ) (ν:Nat->Value) (a:Act) (w:World),E.ranges path fid bid m (ev S.t g) S K=some r->Sim ν S a w->m<=S.h.length->(Code.rangeFunc g ps x y).wpIn fen 0 E.P (Ka m ν S.h w K r) a w
def hO {E:Env ρ} {call:th Nat->Bool->Nat->th AV->th Blk->(AV->th Blk->so ρ)->so ρ} {L:Nat} (R:Ÿ E L call) {fid:Nat} {path:th Nat} (O:path.length+2=L) {m:Nat} {r:ρ}:∀(c:Code) (bid:Nat) (S:St) (K:Exit->St->so ρ) (ν:Nat->Value) (a:Act) (w:World),
 (drawn c=true->gM E L call)->(∀x∈Õ bid c,Χ E path fid x.1 x.2)->goC E call fid path m bid c S K=some r->Sim ν S a w->m<=S.h.length->c.wpIn fen 0 E.P (Ka m ν S.h w K r) a w:=by
 intro c
 induction c with
 |skip=>exact fun bid S K ν a w _ _ e H p=>wpIn_skip ⟨ν,S,H,Ev.refl _ _ _ _,p,Dd.refl _ _,e⟩
 |label l=>exact fun bid S K ν a w _ _ e H p=>wpIn_label ⟨ν,S,H,Ev.refl _ _ _ _,p,Dd.refl _ _,e⟩
 |exit id=>exact fun bid S K ν a w _ _ e H p=>wpIn_exit ⟨ν,S,H,Ev.refl _ _ _ _,p,Dd.refl _ _,e⟩
 |ret=>exact fun bid S K ν a w _ _ e H p=>wpIn_ret ⟨ν,S,H,Ev.refl _ _ _ _,p,Dd.refl _ _,e⟩
 |region rid ops draw =>
  intro bid S K ν a w s _ e H p;simp only[goC,RE] at e
  cases draw with
  |false=>exact KK R (by simpa using O) e H p
  |true=>exact s rfl fid rid _ ops S a K r m ν w (by simpa using O) e H p
 |seq x y ihx ihy =>
  intro bid S K ν a w s q e H p;simp only[goC] at e
  cases u:E.joins path fid (B7 y) m with
  |none =>
   rw[u] at e;simp only at e;refine wpIn_seq (wpIn_mono (ihx bid S _ ν a w (fun h=>s (by simp[drawn,h])) (fun z t=>q z (cB _ t)) e H p) fun v A w' ha=>?_);obtain⟨ν',o,k,h2,i,f,d⟩:=ha
   cases v with
   |normal =>
    exact wpIn_mono (ihy bid o K ν' A w' (fun h=>s (by simp[drawn,h])) (fun z t=>q z (bT _ t)) d k i) fun I M G ha=>ha.trans h2 f (bm _)
   |exit id=>exact⟨ν',o,k,h2,i,f,d⟩
   |goto l=>exact⟨ν',o,k,h2,i,f,d⟩
   |ret=>exact⟨ν',o,k,h2,i,f,d⟩
   |panic ch=>exact⟨ν',o,k,h2,i,f,d⟩
   |outgrown=>exact⟨ν',o,k,h2,i,f,d⟩
  |some J =>
   rw[u] at e;simp only at e;obtain⟨N,U,V⟩:=R.joins _ _ _ _ _ u;rw[V] at e;refine wpIn_seq (wpIn_mono (ihx bid S _ ν a w (fun h=>s (by simp[drawn,h])) (fun z t=>q z (cB _ t)) e H p) fun v A w' ha=>?_);obtain⟨ν',o,k,h2,i,f,d⟩:=ha
   cases v with
   |normal =>
    simp only at d
    split at d<;>try (cases d; done)
    rename_i D T;obtain⟨B,Z,Y,X,W⟩:=U o D ν' A w' T k i;exact wpIn_mono (ihy bid D K B A w' (fun h=>s (by simp[drawn,h])) (fun z t=>q z (bT _ t)) d Z X) fun I M G ha=>ha.trans (h2.trans Y (bm _)) (f.trans W (bm _)) (bm _)
   |exit id=>exact⟨ν',o,k,h2,i,f,d⟩
   |goto l=>exact⟨ν',o,k,h2,i,f,d⟩
   |ret=>exact⟨ν',o,k,h2,i,f,d⟩
   |panic ch=>exact⟨ν',o,k,h2,i,f,d⟩
   |outgrown=>exact⟨ν',o,k,h2,i,f,d⟩
 |cond c x y ihx ihy =>
  intro bid S K ν a w s q e H p;simp only[goC] at e
  split at e<;>try (cases e; done)
  rename_i b hb;have C:=þ H c;rw[hb] at C;have C:a.eval c=.bool b:=C
  split at e
  ·exact wpIn_cond_true C (ihx bid S K ν a w (fun h=>s (by simp[drawn,h])) (fun z t=>q z (cB _ t)) e H p)
  ·exact wpIn_cond_false C (ihy bid S K ν a w (fun h=>s (by simp[drawn,h])) (fun z t=>q z (bT _ t)) e H p)
 |block id b ih =>
  intro bid S K ν a w s q e H p;simp only[goC] at e;refine wpIn_block (wpIn_mono (ih id S _ ν a w (fun h=>s (by simpa[drawn] using h)) q e H p) fun v A w' ha=>?_);obtain⟨ν',o,k,h2,i,f,d⟩:=ha
  cases v with
  |exit j =>
   simp only[Exit.inBlock];simp only at d
   split at d
   ·rename_i u;rw[if_pos (eq_of_beq u)];exact⟨ν',o,k,h2,i,f,d⟩
   ·rename_i u
    have:¬j=id:=by simpa using u
    rw[if_neg this];exact⟨ν',o,k,h2,i,f,d⟩
  |normal=>exact⟨ν',o,k,h2,i,f,d⟩
  |goto l=>exact⟨ν',o,k,h2,i,f,d⟩
  |ret=>exact⟨ν',o,k,h2,i,f,d⟩
  |panic ch=>exact⟨ν',o,k,h2,i,f,d⟩
  |outgrown=>exact⟨ν',o,k,h2,i,f,d⟩
 |loop b ih =>
  intro bid S K ν a w s q e H p;simp only[goC] at e;exact q (bid,.lp b) (by simp[Õ]) m S K r ν a w e H p
 |rangeFunc g ps x y ihx ihy =>
  intro bid S K ν a w s q e H p;simp only[goC] at e;exact q (bid,.rf g ps x y) (by simp[Õ]) m S K r ν a w e H p
 |scope b ih =>
  intro bid S K ν a w s q e H p;simp only[goC] at e;refine NR (wpIn_mono (ih bid S _ ν a w (fun h=>s (by simpa[drawn] using h)) q e H p) fun v A w' ha=>?_);obtain⟨ν',o,k,h2,i,f,d⟩:=ha
  cases v with
  |goto l=>cases d
  |normal=>exact⟨ν',o,k,h2,i,f,d⟩
  |exit id=>exact⟨ν',o,k,h2,i,f,d⟩
  |ret=>exact⟨ν',o,k,h2,i,f,d⟩
  |panic ch=>exact⟨ν',o,k,h2,i,f,d⟩
  |outgrown=>exact⟨ν',o,k,h2,i,f,d⟩
 |_=>intro bid S K ν a w s q e H p; cases e
def ψ {E:Env ρ} {call:th Nat->Bool->Nat->th AV->th Blk->(AV->th Blk->so ρ)->so ρ} {L:Nat} (g:Ÿ E L call) (i:gM E L call) {fid:Nat} {path:th Nat} (b:path.length+2=L) {m:Nat} {r:ρ} (c:Code) (bid:Nat) (S:St) (K:Exit->St->so ρ) (ν:Nat->Value) (a:Act) (w:World)
 (f:∀x∈Õ bid c,Χ E path fid x.1 x.2) (e:goC E call fid path m bid c S K=some r) (H:Sim ν S a w) (d:m<=S.h.length):c.wpIn fen 0 E.P (Ka m ν S.h w K r) a w :=
 hO g b c bid S K ν a w (fun _=>i) f e H d
end
end Go.Am
end

noncomputable section
namespace Go.Am
variable [Globs] [È]
section
variable {ρ:Type} {ν ν':Nat->Value} {h h':th Blk} {w w':World} {P:Program}
def Tm:Prop:=∀(T:Tpl) (pin:Nat) (cs vs:th Ty) (S:St) (p:Val (tyL cs)) (v:Val (tyL vs)) (ν:Nat->Value) (a:Act) (w:World),ix T pin cs vs S=some (p,v)->Sim ν S a w ->
 ∃ν',Sim ν' (à T cs vs p v) a w/\Ev pin ν S.h w ν' (à T cs vs p v).h w/\pin<=(à T cs vs p v).h.length/\Dd pin S.h (à T cs vs p v).h
def E4:∀(l:th (Exit×Tpl×th Ty)) (e:Exit) (i j:Nat),UA l e i=some j->∃x,i<=j/\l[j-i]?=some x/\zh x.1 e=true
 |[],_,_,_,h=>by cases h
 |x::l,e,i,j,h=>by
  unfold UA at h
  split at h
  ·rename_i b;cases h;exact⟨x,bm _,by simp,b⟩
  ·obtain⟨y,d,h2,c⟩:=E4 l e (i+1) j h;refine⟨y,by omega,?_,c⟩;rw[show j-i=(j-(i+1))+1 by omega];simpa using h2
def KC {a b:Exit} (h:zh a b=true):a=b:=by
 unfold zh at h
 split at h
 ·rw[eq_of_beq h]
 ·rfl
 ·cases h
def M5 (X:Tm) {E:Env ρ} {call:th Nat->Bool->Nat->th AV->th Blk->(AV->th Blk->so ρ)->so ρ} {N:Nat} (hE:Ÿ E N call) (hD:gM E N call) {fid bid:Nat} {path:th Nat} (D:path.length+2=N) {b:Code}
 (W:∀x∈Õ bid b,Χ E path fid x.1 x.2) (L:Æ)
 (bF:Val (tyL L.cs)->Val (tyL L.vs)->(Val (tyL L.vs)->so ρ)->((i:Nat)->Val (tyL (L.zs i))->so ρ)->so ρ)
 (law:∀p v kn kx,goC E call fid path L.pin bid b (à L.head L.cs L.vs p v) (Kt L kn kx)=bF p v (kn p) (fun i=>kx i p)) {m:Nat} {S:St} {K:Exit->St->so ρ} {r:ρ} {ν:Nat->Value} {a:Act} {w:World} (e:KH L bF m S K=some r) (H:Sim ν S a w) (hm:m<=S.h.length):(Code.loop b).wpIn fen 0 E.P (Ka m ν S.h w K r) a w:=by
 unfold KH at e
 split at e<;>try (cases e; done)
 rename_i c;have c:m<=L.pin:=ca c
 split at e<;>try (cases e; done)
 rename_i p v u;obtain⟨n,hn⟩:=OG e;obtain⟨d,H1,M,I,R⟩:=X _ _ _ _ _ _ _ ν a w u H;apply wpIn_loop_rounds n
 have U:∀(n:Nat) (p:Val (tyL L.cs)) (v:Val (tyL L.vs)) (d:Nat->Value) (o:Act) (f:World),iter (fun v kn=>bF p v kn fun i z=>K (L.xk i) (à (L.tpl i) L.cs (L.zs i) p z)) n v=some r ->
  Sim d (à L.head L.cs L.vs p v) o f->Ev m ν S.h w d (à L.head L.cs L.vs p v).h f->L.pin<=(à L.head L.cs L.vs p v).h.length->Dd m S.h (à L.head L.cs L.vs p v).h ->
  Code.roundsIn fen 0 E.P b (Ka m ν S.h w K r) n o f:=by
  intro n
  induction n with
  |zero=>intro p v d o f e; cases e
  |succ n ih =>
   intro p v d o f e H1 M I R;rw[roundsIn_succ];have hl:=law p v (fun p v=>iter (fun v kn=>bF p v kn fun i z=>K (L.xk i) (à (L.tpl i) L.cs (L.zs i) p z)) n v) (fun i p z=>K (L.xk i) (à (L.tpl i) L.cs (L.zs i) p z))
   have e':goC E call fid path L.pin bid b (à L.head L.cs L.vs p v) (Kt L (fun p v=>iter (fun v kn=>bF p v kn fun i z=>K (L.xk i) (à (L.tpl i) L.cs (L.zs i) p z)) n v) (fun i p z=>K (L.xk i) (à (L.tpl i) L.cs (L.zs i) p z)))=some r:=by
    rw[hl]; exact e
   refine wpIn_mono (ψ hE hD D b bid _ _ d o f W e' H1 I) fun x t k ha=>?_;obtain⟨s,A,H2,Y,hp2,Z,g⟩:=ha;have B:Ev m ν S.h w s A.h k:=M.trans Y c;have C:Dd m S.h A.h:=R.trans Z c
   have out:∀x,x≠.normal->Kt L (fun p v=>iter (fun v kn=>bF p v kn fun i z=>K (L.xk i) (à (L.tpl i) L.cs (L.zs i) p z)) n v) (fun i p z=>K (L.xk i) (à (L.tpl i) L.cs (L.zs i) p z)) x A=some r->Ka m ν S.h w K r x t k:=by
    intro x hx g;unfold Kt at g
    split at g
    ·exact absurd rfl hx
    ·split at g<;>try (cases g; done)
     rename_i i hi
     split at g<;>try (cases g; done)
     rename_i T z u;obtain⟨y,_,h1,h2⟩:=E4 _ _ _ _ hi
     have V:L.xk i=x:=by
      have:L.exits[i]?=some y:=by simpa using h1
      unfold Æ.xk;rw[this];exact KC h2
     obtain⟨q,H3,J,G,O⟩:=X _ _ _ _ _ _ _ s t k u H2;have g:K (L.xk i) (à (L.tpl i) L.cs (L.zs i) T z)=some r:=g;rw[V] at g;exact⟨q,_,H3,B.trans J c,bB c G,C.trans O c,g⟩
   cases x with
   |normal =>
    simp only[Kt] at g
    split at g<;>try (cases g; done)
    rename_i T v' u;obtain⟨q,H3,J,G,O⟩:=X _ _ _ _ _ _ _ s t k u H2;exact ih T v' q t k g H3 (B.trans J c) G (C.trans O c)
   |exit id=>exact out _ (by simp) g
   |ret=>exact out _ (by simp) g
   |goto l=>exact out _ (by simp) g
   |panic ch=>exact out _ (by simp) g
   |outgrown=>exact out _ (by simp) g
 exact U n p v d a w hn H1 (M.mono c) I (fun j hj hd=>R j (by omega) hd)
end
end Go.Am
end

noncomputable section
namespace Go.Am
variable [Globs] [È]
section
variable {ν:Nat->Value} {h h':th Blk} {w:World}
def JQ {t:Ty} {d:DV} {x:Val t} (e:CD t d=some x):d=⟨t,x⟩:=by
 unfold CD at e
 split at e<;>try (cases e; done)
 rename_i b _;obtain⟨ty,val⟩:=d;simp only at b;subst b;cases e;rfl
def NU (u:Ty) (l:th Ty) (t:Ty) (d:DV) (b:th DV):NV (u::l) t (d::b)=(match CD t d with
 |some x=>match NV l u b with
  |some y=>some ((x,y):Val t×Val (tys u l))
  |none=>none
 |none=>none):=rfl
def Qy (t:Ty) (x:Val t):Oi t [] x=[⟨t,x⟩]:=rfl
def Oh (t u:Ty) (l:th Ty) (x:Val t) (y:Val (tys u l)):Oi t (u::l) ((x,y):Val t×Val (tys u l))=⟨t,x⟩::Oi u l y:=rfl
def TL (l:th Ty):∀(t:Ty) (b:th DV) (x:Val (tys t l)),NV l t b=some x->Oi t l x=b:=by
 induction l with
 |nil =>
  intro t b x e
  match b,e with
  |[],e=>exact absurd (show(none:so (Val t))=some x from e) (fun h=>by cases h)
  |[d],e =>
   have e:CD t d=some x:=e;rw[JQ e]; exact Qy t x
  |_::_::_,e=>exact absurd (show(none:so (Val t))=some x from e) (fun h=>by cases h)
 |cons u l g =>
  intro t b x e
  match b,e with
  |[],e=>exact absurd (show(none:so (Val t×Val (tys u l)))=some x from e) (fun h=>by cases h)
  |d::b,e =>
   rw[NU] at e
   cases c:CD t d with
   |none=>rw[c] at e; exact absurd (show(none:so (Val t×Val (tys u l)))=some x from e) (fun h=>by cases h)
   |some y =>
    cases f:NV l u b with
    |none=>rw[c,f] at e; exact absurd (show(none:so (Val t×Val (tys u l)))=some x from e) (fun h=>by cases h)
    |some z =>
     rw[c,f] at e;have e:((y,z):Val t×Val (tys u l))=x:=Option.some.inj e;rw[<-e,JQ c,<-g u b z f];exact Oh t u l y z
def L9 (l:th Ty) (b:th DV) (x:Val (tyL l)) (e:V1 l b=some x):KS l x=b:=by
 cases l with
 |nil=>cases b with
  |nil=>rfl
  |cons=>cases e
 |cons t l=>exact TL l t b x e
def νb (B:th Bd) (ν:Nat->Value) (i:Nat):Value :=
 match Ţ B i with
 |some (.at_ id)=>ν id
 |some .new=>.slice none 0 0
 |some .newd=>.agg [Value.slice none 0 0].toArray
 |_=>undef
structure Ext (M M':Mt):Prop where
 bd:∀i id,Ţ M.bd i=some (.at_ id)->Ţ M'.bd i=some (.at_ id)
 new:∀i,Ţ M.bd i=some .new->Ţ M'.bd i=some .new
 newd:∀i,Ţ M.bd i=some .newd->Ţ M'.bd i=some .newd
 cons:M.cons <+: M'.cons
 vars:M.vars <+: M'.vars
 freed:∀i∈M.freed,i∈M'.freed
 len:M'.bd.length=M.bd.length
def Ext.refl (M:Mt):Ext M M:=⟨fun _ _ h=>h,fun _ h=>h,fun _ h=>h,cf,cf,fun _ h=>h,rfl⟩
def Ext.trans {M M' b:Mt} (h:Ext M M') (k:Ext M' b):Ext M b :=
 ⟨fun i id q=>k.bd i id (h.bd i id q),fun i q=>k.new i (h.new i q),fun i q=>k.newd i (h.newd i q),h.cons.trans k.cons,h.vars.trans k.vars,fun i q=>k.freed i (h.freed i q),k.len.trans h.len⟩
def Ĩ:∀(l:th Bd) (d:Nat) (b:Bd) (i:Nat),Ţ (yn l d b) i=if i=d/\d<l.length then some b else Ţ l i
 |[],d,v,i=>by simp[yn,Ţ]
 |x::xs,0,v,0=>by simp[yn,Ţ]
 |x::xs,0,v,i+1=>by simp[yn,Ţ]
 |x::xs,d+1,v,0=>by simp[yn,Ţ]
 |x::xs,d+1,v,i+1=>by simp[yn,Ţ,Ĩ xs d v i]
def lM:∀(l:th Bd) (d:Nat) (b:Bd),(yn l d b).length=l.length
 |[],_,_=>rfl
 |_::_,0,_=>rfl
 |_::xs,d+1,v=>by simp[yn,lM xs d v]
def nz:∀{l:th Bd} {i:Nat} {b:Bd},Ţ l i=some b->i<l.length
 |[],_,_,h=>by cases h
 |_::_,0,_,_=>eR _
 |_::_,i+1,_,h=>Nat.succ_lt_succ (nz (by simpa[Ţ] using h))
def Ĝ {M M':Mt} {i id:Nat} (e:wo M i id=some M'):Ext M M'/\Ţ M'.bd i=some (.at_ id)/\M'.cons=M.cons/\M'.vars=M.vars:=by
 unfold wo at e
 split at e<;>try (cases e; done)
 ·rename_i c;cases e;have f:=nz c;refine⟨⟨fun j d q=>?_,fun j q=>?_,fun j q=>?_,cf,cf,fun _ q=>q,lM _ _ _⟩,by simp[Ĩ,f],rfl,rfl⟩
  ·simp only[Ĩ]
   by_cases b:j=i
   ·subst b; rw[c] at q; cases q
   ·simp[b,q]
  ·simp only[Ĩ]
   by_cases b:j=i
   ·subst b; rw[c] at q; cases q
   ·simp[b,q]
  ·simp only[Ĩ]
   by_cases b:j=i
   ·subst b; rw[c] at q; cases q
   ·simp[b,q]
 ·rename_i d c
  split at e<;>try (cases e; done)
  rename_i hi;cases e;rw[eq_of_beq hi] at c;exact⟨Ext.refl _,c,rfl,rfl⟩
def yj {M M':Mt} {i:Nat} (e:LL M i=some M'):Ext M M'/\Ţ M'.bd i=some .new/\M'.cons=M.cons/\M'.vars=M.vars:=by
 unfold LL at e
 split at e<;>try (cases e; done)
 rename_i c;cases e;have d:=nz c;refine⟨⟨fun j f q=>?_,fun j q=>?_,fun j q=>?_,cf,cf,fun _ q=>q,lM _ _ _⟩,by simp[Ĩ,d],rfl,rfl⟩
 ·simp only[Ĩ]
  by_cases b:j=i
  ·subst b; rw[c] at q; cases q
  ·simp[b,q]
 ·simp only[Ĩ]
  by_cases b:j=i
  ·subst b; rw[c] at q; cases q
  ·simp[b,q]
 ·simp only[Ĩ]
  by_cases b:j=i
  ·subst b; rw[c] at q; cases q
  ·simp[b,q]
def wn {M M':Mt} {i:Nat} (e:G7 M i=some M'):Ext M M'/\Ţ M'.bd i=some .newd/\M'.cons=M.cons/\M'.vars=M.vars:=by
 unfold G7 at e
 split at e<;>try (cases e; done)
 rename_i c;cases e;have d:=nz c;refine⟨⟨fun j f q=>?_,fun j q=>?_,fun j q=>?_,cf,cf,fun _ q=>q,lM _ _ _⟩,by simp[Ĩ,d],rfl,rfl⟩
 ·simp only[Ĩ]
  by_cases b:j=i
  ·subst b; rw[c] at q; cases q
  ·simp[b,q]
 ·simp only[Ĩ]
  by_cases b:j=i
  ·subst b; rw[c] at q; cases q
  ·simp[b,q]
 ·simp only[Ĩ]
  by_cases b:j=i
  ·subst b; rw[c] at q; cases q
  ·simp[b,q]
def kin:Blk->Blk->Prop
 |.row t _ false xs,B=>B=.row t 0 false xs
 |.row t g true xs,B=>B=.row t g true xs
 |.map k v es,B=>B=.map k v es
 |.cells _,B=>∃c,B=.cells c
 |.dead,B=>B=.dead
 |.deep k _ xss,B=>B=.deep k 0 xss
 |.acc t xs,B=>B=.acc t xs
 |.fns _,B=>∃b,B=.fns b
 |.iter s q,B=>B=.iter s q
structure Fin (ν:Nat->Value) (h:th Blk) (w:World) (M:Mt) (h':th Blk):Prop where
 at_:∀i id,Ţ M.bd i=some (.at_ id)->kin (lkB h id) (lkB h' i)
 new:∀i,Ţ M.bd i=some .new->∃t,lkB h' i=.row t 0 false []
 newd:∀i,Ţ M.bd i=some .newd->∃k,lkB h' i=.deep k 0 []
 out:∀i,(∀id,Ţ M.bd i≠some (.at_ id))->Ţ M.bd i≠some .new->Ţ M.bd i≠some .newd->lkB h' i=.dead
 freed:∀id∈M.freed,∀i,Ţ M.bd i≠some (.at_ id)
 inj:∀i j id,Ţ M.bd i=some (.at_ id)->Ţ M.bd j=some (.at_ id)->i=j
def Fin.live {M:Mt} (F:Fin ν h w M h') {b:Nat} (hb:jc (νb M.bd ν) h' b):∃i id,Ţ M.bd i=some (.at_ id)/\(lkB h id).live=true/\č (ν id) b:=by
 obtain⟨i,d,e⟩:=hb
 cases c:Ţ M.bd i with
 |none=>rw[F.out i (by simp[c]) (by simp[c]) (by simp[c])] at d; cases d
 |some bd =>
  cases bd with
  |open_=>rw[F.out i (by simp[c]) (by simp[c]) (by simp[c])] at d; cases d
  |new=>simp only[νb,c] at e; cases e
  |newd =>
   simp only[νb,c] at e;obtain⟨u,k,hb⟩:=e;simp at k;subst k;cases hb
  |at_ id =>
   refine⟨i,id,c,?_,by simpa[νb,c] using e⟩;have j:=F.at_ i id c
   cases f:lkB h id with
   |dead=>rw[f] at j; rw[show lkB h' i=_ from j] at d; cases d
   |cells=>rfl
   |map=>rfl
   |deep=>rfl
   |acc=>rfl
   |fns=>rfl
   |iter=>rfl
   |row t g fz xs =>
    cases fz with
    |false=>rfl
    |true=>rw[f] at j; rw[show lkB h' i=_ from j] at d; cases d
def Fin.subL {M:Mt} (F:Fin ν h w M h') (b:Nat) (hb:jc (νb M.bd ν) h' b):jc ν h b:=by
 obtain⟨i,id,_,h2,c⟩:=F.live hb;exact⟨id,h2,c⟩
def Fin.sub {M:Mt} (F:Fin ν h w M h') (b:Nat) (hb:Av (νb M.bd ν) h' b):Av ν h b:=hb.imp_left (F.subL b)
def Nt (H:HR ν h w) {M:Mt} (F:Fin ν h w M h') {t:Ty} {v:AV} {u:Value} {x:Val t} (A:∀i∈EY h v,i∈M.freed) (e:Ø t [í h v]=some x) (z:VR ν h w v u) :
 VR (νb M.bd ν) h' w (O2 ⟨t,x⟩) u:=by
 have c:∀(r:v.isAgg=false) (q:v.isTup=false),CR w (Av (νb M.bd ν) h') t x [u]:=by
  intro r q;have o:=z.one r q;refine ÿ e ⟨oL H F.sub o fun id b B m hb=>?_,trivial⟩;rintro(hlive|y)
  rotate_left
  ·exact H.ghne id b m hb y
  obtain⟨i,p,h2,D,C⟩:=F.live hlive;have s:id=p:=H.inj id p b m D hb C;subst s;refine F.freed id (A id ?_) i h2;rcases B with⟨g,rfl⟩|⟨g,lo,n,rfl⟩|rfl
  ·obtain⟨_,t',g',fz,xs,l,_⟩:=o;rw[l] at m
   cases fz with
   |true=>cases m
   |false=>simp[EY,l]
  ·obtain⟨_,t',g',fz,xs,l,_⟩:=o;rw[l] at m
   cases fz with
   |true=>cases m
   |false=>simp[EY,l]
  ·simp[EY]
 have d:(t≠.unit/\∀a b,t≠.pair a b)->v.isAgg=false/\v.isTup=false:=fun⟨o,h2⟩=>by
  constructor
  ·cases v<;>try rfl
   cases t<;>first|(exact absurd rfl o)|(exact absurd rfl (h2 _ _))|(simp[í,Ø,Ĵ] at e)
  ·cases v<;>try rfl
   cases t<;>first|(exact absurd rfl o)|(exact absurd rfl (h2 _ _))|(simp[í,Ø,Ĵ] at e)
 cases t with
 |unit=>trivial
 |pair a b=>trivial
 |bool=>obtain⟨j,f⟩:=d ⟨by simp,by simp⟩; exact yh (c j f)
 |int k=>obtain⟨j,f⟩:=d ⟨by simp,by simp⟩; exact yh (c j f)
 |str=>obtain⟨j,f⟩:=d ⟨by simp,by simp⟩; exact yh (c j f)
 |slice t=>obtain⟨j,f⟩:=d ⟨by simp,by simp⟩; exact yh (c j f)
 |map k v=>obtain⟨j,f⟩:=d ⟨by simp,by simp⟩; exact yh (c j f)
 |ptr t=>obtain⟨j,f⟩:=d ⟨by simp,by simp⟩; exact yh (c j f)
def ù {α:Type} {l C:th α} {d:α} (h:(l++[d]) <+: C):C.drop l.length=d::C.drop (l.length+1):=by
 obtain⟨t,rfl⟩:=h;simp[bE]
def Ŷ {B:th Bd} {i id:Nat} (h:Ţ B i=some (.at_ id)):νb B ν i=ν id:=by simp[νb,h]
def PM {B:th Bd} {i:Nat} (h:Ţ B i=some .new):νb B ν i=.slice none 0 0:=by simp[νb,h]
def L2 {B:th Bd} {i:Nat} (h:Ţ B i=some .newd):νb B ν i=.agg [Value.slice none 0 0].toArray:=by simp[νb,h]
def Ł:∀(ps:th (Nat×Nat)) (vs:th AV) (us:th Value) (M M1:Mt),mg h ps vs M=some M1->Ext M M1/\M1.cons=M.cons/\M1.vars=M.vars /\
 ∀d,Ext M1 d->Fin ν h w d h'->ê (VR0 ν h w) vs us->ê (VR0 (νb d.bd ν) h' w) (ps.map fun c=>.box c.1 c.2) us
 |[],[],us,M,M1,e=>by
  cases e;exact⟨Ext.refl _,rfl,rfl,fun d _ _ f=>by cases us with|nil=>trivial|cons=>exact f.elim⟩
 |[],_::_,_,_,_,e=>by cases e
 |_::_,[],_,_,_,e=>by cases e
 |(i,o)::ps,v::vs,us,M,M1,e=>by
  cases v<;>try (simp[mg] at e; done)
  rename_i id off;simp only[mg] at e
  split at e<;>try (cases e; done)
  rename_i q
  split at e<;>try (cases e; done)
  rename_i cs r
  split at e<;>try (cases e; done)
  rename_i p hb;obtain⟨t,A,z,v1⟩:=Ĝ hb;obtain⟨m,y,v2,_⟩:=Ł ps vs us p M1 e;refine⟨t.trans m,y.trans z,v2.trans v1,fun d l F f=>?_⟩
  cases us with
  |nil=>exact f.elim
  |cons u us =>
   refine⟨?_,(Ł ps vs us p M1 e).2.2.2 d l F f.2⟩;obtain⟨x,b,B,h2,s⟩:=f.1;have g:=l.bd i id (m.bd i id A);have j:=F.at_ i id g;rw[r] at j;obtain⟨k,j⟩:=j;exact⟨k,b,j,(Ŷ g).trans h2,by rw[eq_of_beq q]; exact s⟩
def je:∀(ps:th (ByteArray×Nat×th (Nat×Nat))) (es:th (ByteArray×AV)) (ms:th MapEntry) (M M1:Mt),zk h ps es M=some M1->Ext M M1/\M1.cons=M.cons/\M1.vars=M.vars /\
 ∀b,Ext M1 b->Fin ν h w b h'->Hl ν h w es ms->Hl (νb b.bd ν) h' w (ps.map fun e=>(e.1,.fn (.func e.2.1) [] (e.2.2.map fun c=>.box c.1 c.2))) ms
 |[],[],ms,M,M1,e=>by
  cases e;exact⟨Ext.refl _,rfl,rfl,fun b _ _ d=>by cases ms with|nil=>trivial|cons=>exact d.elim⟩
 |[],_::_,_,_,_,e=>by cases e
 |_::_,[],_,_,_,e=>by cases e
 |p::ps,x::es,ms,M,M1,e=>by
  obtain⟨s,v⟩:=x;simp only[zk] at e
  split at e<;>try (cases e; done)
  rename_i f vs
  split at e<;>try (cases e; done)
  rename_i i;simp only[bn] at i;have t:=Mi.1 i.1;have u:=bt i.2;subst u
  split at e<;>try (cases e; done)
  rename_i g k;obtain⟨z,B,v1,_⟩:=Ł (ν:=ν) (w:=w) (h':=h') p.2.2 vs [] M g k;obtain⟨o,A,v2,_⟩:=je ps es ms g M1 e;refine⟨z.trans o,A.trans B,v2.trans v1,fun b l F d=>?_⟩
  cases ms with
  |nil=>exact d.elim
  |cons m ms =>
   refine⟨?_,(je ps es ms g M1 e).2.2.2 b l F d.2⟩;obtain⟨j,h2,fs,cs,y,r,q⟩:=d.1;have j:m.key=.string s:=j;have:=(Ł (ν:=ν) (w:=w) (h':=h') p.2.2 vs cs.toList M g k).2.2.2 b (o.trans l) F q;exact⟨by rw[j,<-t],rfl,fs,cs,y,by rw[r.nil_left]; trivial,this⟩
def rest (b M:Mt):It:=⟨b.cons.drop M.cons.length,b.vars.drop M.vars.length⟩
def lW:∀(ts:th Ty) (vs:th AV) (M M1:Mt),oU ts vs M=some M1->Ext M M1/\∀c,Ext M1 c->(qH ts (rest c M)).2=rest c M1 /\
 ∀us:th Value,Fin ν h w c h'->ê (VR0 ν h w) vs us->ê (VR0 (νb c.bd ν) h' w) (qH ts (rest c M)).1 us
 |[],[],M,M1,e=>by
  cases e;exact⟨Ext.refl _,fun c _=>⟨rfl,fun us _ d=>by cases us with|nil=>trivial|cons=>exact d.elim⟩⟩
 |[],_::_,_,_,e=>by cases e
 |_::_,[],_,_,e=>by cases e
 |t::ts,v::vs,M,M1,e=>by
  cases v<;>try (simp[oU] at e; done)
  rename_i t' x o;simp only[oU] at e
  split at e<;>try (cases e; done)
  rename_i f
  split at e<;>try (cases e; done)
  rename_i s _;have f:=bt f;subst f;obtain⟨i,k2⟩:=lW ts vs _ M1 e;have r:Ext M {M with cons:=M.cons++[⟨.ptr t',x⟩]}:=⟨fun _ _ q=>q,fun _ q=>q,fun _ q=>q,cp _ _,cf,fun _ q=>q,rfl⟩;refine⟨r.trans i,fun c g=>?_⟩;obtain⟨k3,k4⟩:=k2 c g;have hd:=ù (i.trans g).cons
  have j:rest c {M with cons:=M.cons++[⟨.ptr t',x⟩]}=⟨c.cons.drop (M.cons.length+1),c.vars.drop M.vars.length⟩:=by simp[rest]
  rw[j] at k3 k4;simp only[rest,qH,hd];refine⟨k3,fun us F d=>?_⟩
  cases us with
  |nil=>exact d.elim
  |cons u us =>
   refine⟨?_,k4 us F d.2⟩;obtain⟨b,o,ws,p,h2,m,l,k⟩:=d.1;exact⟨b,o,ws,p,fun h=>h2 (F.sub b h),m,CR.mono F.sub l,k⟩
def Au (H:HR ν h w) {p:Pat} {v:AV} {M M1:Mt} (e:ĥ h p v M=some M1):Ext M M1/\∀j u,Ext M1 j->Fin ν h w j h'->VR ν h w v u ->
 VR (νb j.bd ν) h' w (kr p ⟨j.cons.drop M.cons.length,j.vars.drop M.vars.length⟩).1 u /\
  (kr p ⟨j.cons.drop M.cons.length,j.vars.drop M.vars.length⟩).2=⟨j.cons.drop M1.cons.length,j.vars.drop M1.vars.length⟩:=by
 cases p with
 |any=>cases e; exact⟨Ext.refl _,fun j u _ _ _=>⟨trivial,rfl⟩⟩
 |con t =>
  simp only[ĥ] at e
  split at e<;>try (cases e; done)
  rename_i x K;cases e;refine⟨⟨fun _ _ q=>q,fun _ q=>q,fun _ q=>q,cp _ _,cf,fun _ q=>bT _ q,rfl⟩,fun j u m F d=>?_⟩;have hd:=ù m.cons;simp only[kr,hd];exact⟨Nt H F (fun i hi=>m.freed i (cB _ hi)) K d,by simp⟩
 |var t =>
  simp only[ĥ] at e
  split at e<;>try (cases e; done)
  rename_i x K;cases e;refine⟨⟨fun _ _ q=>q,fun _ q=>q,fun _ q=>q,cf,cp _ _,fun _ q=>bT _ q,rfl⟩,fun j u m F d=>?_⟩;have hd:=ù m.vars;simp only[kr,hd];exact⟨Nt H F (fun i hi=>m.freed i (cB _ hi)) K d,by simp⟩
 |own i =>
  simp only[ĥ] at e
  split at e<;>try (cases e; done)
  ·rename_i id g
   split at e<;>try (cases e; done)
   rename_i t g' xs A
   split at e<;>try (cases e; done)
   rename_i L;obtain⟨o,z,y,v1⟩:=Ĝ e;refine⟨o,fun j u m F d=>⟨?_,by simp only[kr,y,v1]⟩⟩;have c:=m.bd i id z;have l:=F.at_ i id c;rw[A] at l;obtain⟨D,t2,Y,Z,V,r,_,C⟩:=d;rw[A] at r; cases r;exact⟨D,t,0,false,xs,l,bm _,fun _=>(C (eq_of_beq L)).trans (Ŷ c).symm⟩
  ·obtain⟨o,z,y,v1⟩:=yj e;refine⟨o,fun j u m F d=>⟨?_,by simp only[kr,y,v1]⟩⟩;have B:=m.new i z;obtain⟨t,l⟩:=F.new i B;have E:u=.slice none 0 0:=d;exact⟨by rw[E]; rfl,t,0,false,[],l,bm _,fun _=>E.trans (PM B).symm⟩
 |dp i =>
  simp only[ĥ] at e
  split at e<;>try (cases e; done)
  ·rename_i id g
   split at e<;>try (cases e; done)
   rename_i k g' xss A
   split at e<;>try (cases e; done)
   rename_i L;obtain⟨o,z,y,v1⟩:=Ĝ e;refine⟨o,fun j u m F d=>⟨?_,by simp only[kr,y,v1]⟩⟩;have c:=m.bd i id z;have l:=F.at_ i id c;rw[A] at l;obtain⟨D,k2,Y,T,r,_,C⟩:=d;rw[A] at r; cases r;exact⟨D,k,0,xss,l,bm _,fun _=>by rw[Ŷ c]; exact C (eq_of_beq L)⟩
  ·obtain⟨o,z,y,v1⟩:=wn e;refine⟨o,fun j u m F d=>⟨?_,by simp only[kr,y,v1]⟩⟩;have B:=m.newd i z;obtain⟨k,l⟩:=F.newd i B;have E:u=.slice none 0 0:=d;exact⟨by rw[E]; rfl,k,0,[],l,bm _,fun _=>⟨[],by rw[L2 B,E]⟩⟩
 |omp i =>
  simp only[ĥ] at e
  split at e<;>try (cases e; done)
  rename_i id
  split at e<;>try (cases e; done)
  rename_i k W es A;obtain⟨o,z,y,v1⟩:=Ĝ e;refine⟨o,fun j u m F d=>⟨?_,by simp only[kr,y,v1]⟩⟩;have c:=m.bd i id z;have l:=F.at_ i id c;rw[A] at l;obtain⟨D,k2,v2,O,r,C⟩:=d;exact⟨D,k,W,es,l,C.trans (Ŷ c).symm⟩
 |box i off =>
  simp only[ĥ] at e
  split at e<;>try (cases e; done)
  rename_i id U
  split at e<;>try (cases e; done)
  rename_i G
  split at e<;>try (cases e; done)
  rename_i cs A;obtain⟨o,z,y,v1⟩:=Ĝ e;refine⟨o,fun j u m F d=>⟨?_,by simp only[kr,y,v1]⟩⟩;have c:=m.bd i id z;have l:=F.at_ i id c;rw[A] at l;obtain⟨S,l⟩:=l;obtain⟨cs',b,h1,h2,X⟩:=d;exact⟨S,b,l,(Ŷ c).trans h2,by rw[eq_of_beq G]; exact X⟩
 |nils =>
  simp only[ĥ] at e
  split at e<;>try (cases e; done)
  cases e;exact⟨Ext.refl _,fun j u _ _ d=>⟨d,rfl⟩⟩
 |nilp =>
  simp only[ĥ] at e
  split at e<;>try (cases e; done)
  cases e;exact⟨Ext.refl _,fun j u _ _ d=>⟨d,rfl⟩⟩
 |nilfn =>
  simp only[ĥ] at e
  split at e<;>try (cases e; done)
  cases e;exact⟨Ext.refl _,fun j u _ _ d=>⟨d,rfl⟩⟩
 |yld =>
  simp only[ĥ] at e
  split at e<;>try (cases e; done)
  cases e;exact⟨Ext.refl _,fun j u _ _ d=>⟨d,rfl⟩⟩
 |ofn i =>
  simp only[ĥ] at e
  split at e<;>try (cases e; done)
  rename_i id
  split at e<;>try (cases e; done)
  rename_i es A;obtain⟨o,z,y,v1⟩:=Ĝ e;refine⟨o,fun j u m F d=>⟨?_,by simp only[kr,y,v1]⟩⟩;have c:=m.bd i id z;have l:=F.at_ i id c;rw[A] at l;obtain⟨R,l⟩:=l;obtain⟨D,O,r,C⟩:=d;exact⟨D,R,l,C.trans (Ŷ c).symm⟩
 |oit i =>
  simp only[ĥ] at e
  split at e<;>try (cases e; done)
  rename_i id
  split at e<;>try (cases e; done)
  rename_i s q A;obtain⟨o,z,y,v1⟩:=Ĝ e;refine⟨o,fun j u m F d=>⟨?_,by simp only[kr,y,v1]⟩⟩;have c:=m.bd i id z;have l:=F.at_ i id c;rw[A] at l;obtain⟨D,s2,I,r,C⟩:=d;exact⟨D,s,q,l,C.trans (Ŷ c).symm⟩
 |fn f caps =>
  simp only[ĥ] at e
  split at e<;>try (cases e; done)
  rename_i f' vs
  split at e<;>try (cases e; done)
  rename_i N;obtain⟨o,y,v1,_⟩:=Ł (ν:=ν) (w:=w) (h':=h') caps vs [] M M1 e;refine⟨o,fun j u m F d=>⟨?_,by simp only[kr,y,v1]⟩⟩;obtain⟨fs,cs,rfl,J,I⟩:=d;have:=(Ł (ν:=ν) (w:=w) (h':=h') caps vs cs.toList M M1 e).2.2.2 j m F I;exact⟨fs,cs,by rw[eq_of_beq N],by rw[J.nil_left]; trivial,this⟩
 |fnd f ts =>
  simp only[ĥ] at e
  split at e<;>try (cases e; done)
  rename_i f' vs
  split at e<;>try (cases e; done)
  rename_i N;obtain⟨o,k⟩:=lW (ν:=ν) (h:=h) (w:=w) (h':=h') ts vs M M1 e;refine⟨o,fun j u m F d=>?_⟩;obtain⟨k1,k2⟩:=k j m;obtain⟨fs,cs,rfl,J,I⟩:=d;exact⟨⟨fs,cs,by rw[eq_of_beq N],by rw[J.nil_left]; trivial,k2 cs.toList F I⟩,k1⟩
def lV {b M M1:Mt} (c:M1.cons=M.cons) (h2:M1.vars=M.vars):rest b M=rest b M1:=by simp only[rest,c,h2]
def mY {p:Pat} {v:AV} {M M1:Mt} (e:ĥ h p v M=some M1):Ext M M1/\∀b,Ext M1 b->(kr p (rest b M)).2=rest b M1:=by
 cases p with
 |any=>cases e; exact⟨Ext.refl _,fun b _=>rfl⟩
 |con t =>
  simp only[ĥ] at e
  split at e<;>try (cases e; done)
  rename_i x l;cases e;refine⟨⟨fun _ _ q=>q,fun _ q=>q,fun _ q=>q,cp _ _,cf,fun _ q=>bT _ q,rfl⟩,fun b g=>?_⟩;have hd:=ù g.cons;simp only[rest,kr,hd]; simp
 |var t =>
  simp only[ĥ] at e
  split at e<;>try (cases e; done)
  rename_i x l;cases e;refine⟨⟨fun _ _ q=>q,fun _ q=>q,fun _ q=>q,cf,cp _ _,fun _ q=>bT _ q,rfl⟩,fun b g=>?_⟩;have hd:=ù g.vars;simp only[rest,kr,hd]; simp
 |own i =>
  simp only[ĥ] at e
  split at e<;>try (cases e; done)
  ·split at e<;>try (cases e; done)
   split at e<;>try (cases e; done)
   obtain⟨c,j,d,v1⟩:=Ĝ e;exact⟨c,fun b g=>lV d v1⟩
  ·obtain⟨c,j,d,v1⟩:=yj e;exact⟨c,fun b g=>lV d v1⟩
 |dp i =>
  simp only[ĥ] at e
  split at e<;>try (cases e; done)
  ·split at e<;>try (cases e; done)
   split at e<;>try (cases e; done)
   obtain⟨c,j,d,v1⟩:=Ĝ e;exact⟨c,fun b g=>lV d v1⟩
  ·obtain⟨c,j,d,v1⟩:=wn e;exact⟨c,fun b g=>lV d v1⟩
 |omp i =>
  simp only[ĥ] at e
  split at e<;>try (cases e; done)
  split at e<;>try (cases e; done)
  obtain⟨c,j,d,v1⟩:=Ĝ e;exact⟨c,fun b g=>lV d v1⟩
 |box i off =>
  simp only[ĥ] at e
  split at e<;>try (cases e; done)
  split at e<;>try (cases e; done)
  split at e<;>try (cases e; done)
  obtain⟨c,j,d,v1⟩:=Ĝ e;exact⟨c,fun b g=>lV d v1⟩
 |nils =>
  simp only[ĥ] at e
  split at e<;>try (cases e; done)
  cases e; exact⟨Ext.refl _,fun b _=>rfl⟩
 |nilp =>
  simp only[ĥ] at e
  split at e<;>try (cases e; done)
  cases e; exact⟨Ext.refl _,fun b _=>rfl⟩
 |nilfn =>
  simp only[ĥ] at e
  split at e<;>try (cases e; done)
  cases e; exact⟨Ext.refl _,fun b _=>rfl⟩
 |yld =>
  simp only[ĥ] at e
  split at e<;>try (cases e; done)
  cases e; exact⟨Ext.refl _,fun b _=>rfl⟩
 |ofn i =>
  simp only[ĥ] at e
  split at e<;>try (cases e; done)
  split at e<;>try (cases e; done)
  obtain⟨c,j,d,v1⟩:=Ĝ e;exact⟨c,fun b g=>lV d v1⟩
 |oit i =>
  simp only[ĥ] at e
  split at e<;>try (cases e; done)
  split at e<;>try (cases e; done)
  obtain⟨c,j,d,v1⟩:=Ĝ e;exact⟨c,fun b g=>lV d v1⟩
 |fn f caps =>
  simp only[ĥ] at e
  split at e<;>try (cases e; done)
  rename_i m vs
  split at e<;>try (cases e; done)
  obtain⟨c,d,v1,_⟩:=Ł (ν:=fun _=>undef) (w:=default) (h':=[]) caps vs [] M M1 e;exact⟨c,fun b g=>lV d v1⟩
 |fnd f ts =>
  simp only[ĥ] at e
  split at e<;>try (cases e; done)
  rename_i m vs
  split at e<;>try (cases e; done)
  obtain⟨c,k⟩:=lW (ν:=fun _=>undef) (h:=[]) (w:=default) (h':=[]) ts vs M M1 e;exact⟨c,fun b g=>(k b g).1⟩
def mF (p:Pat) (ps:th Pat) (I:It):w8 (p::ps) I=((kr p I).1::(w8 ps (kr p I).2).1,(w8 ps (kr p I).2).2):=rfl
def s9:∀{ps:th Pat} {vs:th AV} {M M1:Mt},En h ps vs M=some M1->Ext M M1/\∀b,Ext M1 b->(w8 ps (rest b M)).2=rest b M1
 |[],vs,M,M1,e=>by cases e; exact⟨Ext.refl _,fun b _=>rfl⟩
 |p::ps,vs,M,M1,e=>by
  simp only[En] at e
  split at e<;>try (cases e; done)
  rename_i i f;obtain⟨g,t1⟩:=mY f;obtain⟨d,t2⟩:=s9 e;exact⟨g.trans d,fun b c=>by rw[mF,t1 b (d.trans c)]; exact t2 b c⟩
def Io (H:HR ν h w):∀{ps:th Pat} {vs:th AV} {M M1:Mt},En h ps vs M=some M1->∀b,Ext M1 b->Fin ν h w b h'->∀f:Nat->Value,(∀k,VR ν h w (lk vs k) (f k)) ->
 ∀k,VR (νb b.bd ν) h' w (lk (w8 ps (rest b M)).1 k) (f k)
 |[],vs,M,M1,e,b,_,_,f,_,k=>trivial
 |p::ps,vs,M,M1,e,b,c,F,f,d,k=>by
  simp only[En] at e
  split at e<;>try (cases e; done)
  rename_i m g;obtain⟨l,t1⟩:=mY g;obtain⟨i,t2⟩:=s9 e;rw[mF,t1 b (i.trans c)]
  cases k with
  |zero=>exact((Au H g).2 b (f 0) (i.trans c) F (d 0)).1
  |succ k =>
   have j:∀k,lk vs.tail k=lk vs (k+1):=fun k=>by cases vs<;>rfl
   exact Io H e b c F (fun k=>f (k+1)) (fun k=>by rw[j]; exact d (k+1)) k
def kd:∀{ps:th Pat} {vs:th AV} {M M1:Mt},jK h ps vs M=some M1->Ext M M1/\∀b,Ext M1 b->(w8 ps (rest b M)).2=rest b M1
 |[],[],M,M1,e=>by cases e; exact⟨Ext.refl _,fun b _=>rfl⟩
 |[],_::_,M,M1,e=>by cases e
 |_::_,[],M,M1,e=>by cases e
 |p::ps,v::vs,M,M1,e=>by
  simp only[jK] at e
  split at e<;>try (cases e; done)
  rename_i i f;obtain⟨g,t1⟩:=mY f;obtain⟨d,t2⟩:=kd e;exact⟨g.trans d,fun b c=>by rw[mF,t1 b (d.trans c)]; exact t2 b c⟩
def OQ (p:Pat) (I:It):(kr p I).1.isAgg=false/\(kr p I).1.isTup=false:=by
 have b:∀d:DV,(O2 d).isAgg=false/\(O2 d).isTup=false:=fun d=>by
  obtain⟨t,x⟩:=d
  cases t<;>exact⟨rfl,rfl⟩
 cases p<;>simp only[kr]<;>try exact⟨rfl,rfl⟩
 ·split<;>first|exact b _|exact⟨rfl,rfl⟩
 ·split<;>first|exact b _|exact⟨rfl,rfl⟩
def uM (H:HR ν h w):∀{ps:th Pat} {vs:th AV} {us:th Value} {M M1:Mt},jK h ps vs M=some M1->∀b,Ext M1 b->Fin ν h w b h'->ê (VRc ν h w) vs us ->
 ê (VRc (νb b.bd ν) h' w) (w8 ps (rest b M)).1 us
 |[],[],us,M,M1,e,b,_,_,c=>by cases us with|nil=>trivial|cons=>exact c.elim
 |[],_::_,_,M,M1,e,_,_,_,_=>by cases e
 |_::_,[],_,M,M1,e,_,_,_,_=>by cases e
 |p::ps,v::vs,us,M,M1,e,b,f,F,c=>by
  simp only[jK] at e
  split at e<;>try (cases e; done)
  rename_i k g;obtain⟨j,t1⟩:=mY g;obtain⟨i,t2⟩:=kd e;rw[mF,t1 b (i.trans f)]
  cases us with
  |nil=>exact c.elim
  |cons u us =>
   have h2:=((Au H g).2 b u (i.trans f) F c.1.1.up).1;have d:=OQ p (rest b M);exact⟨⟨h2.one d.1 d.2,c.1.2⟩,uM H e b f F c.2⟩
def ri (M:Mt) (d:DV):Ext M {M with cons:=M.cons++[d]}:=⟨fun _ _ q=>q,fun _ q=>q,fun _ q=>q,cp _ _,cf,fun _ q=>q,rfl⟩
def nN (M:Mt) (d:DV):Ext M {M with vars:=M.vars++[d]}:=⟨fun _ _ q=>q,fun _ q=>q,fun _ q=>q,cf,cp _ _,fun _ q=>q,rfl⟩
def ta {p:rr} {i:Nat} {M M1:Mt} (e:đ h p i M=some M1):Ext M M1/\∀d,Ext M1 d->(kq p (rest d M)).2=rest d M1 /\
 ((∃id,Ţ M.bd i=some (.at_ id)/\kin (lkB h id) (kq p (rest d M)).1)\/(Ţ M.bd i=some .new/\∃t,(kq p (rest d M)).1=.row t 0 false [])\/(Ţ M.bd i=some .newd/\∃k,(kq p (rest d M)).1=.deep k 0 [])):=by
 cases p with
 |dead =>
  simp only[đ] at e
  split at e<;>try (cases e; done)
  rename_i id hb
  split at e<;>try (cases e; done)
  rename_i c;cases e;exact⟨Ext.refl _,fun d _=>⟨rfl,.inl ⟨id,hb,by rw[c]; rfl⟩⟩⟩
 |cells ps =>
  simp only[đ] at e
  split at e<;>try (cases e; done)
  rename_i id hb
  split at e<;>try (cases e; done)
  rename_i cs c;obtain⟨l,t1⟩:=kd e;exact⟨l,fun d b=>⟨t1 d b,.inl ⟨id,hb,by rw[c]; exact⟨_,rfl⟩⟩⟩⟩
 |rowc t =>
  simp only[đ] at e
  split at e<;>try (cases e; done)
  ·rename_i id hb
   split at e<;>try (cases e; done)
   rename_i t' g xs c
   split at e<;>try (cases e; done)
   cases e;refine⟨ri _ _,fun d b=>?_⟩;have hd:=ù b.cons;simp only[rest,kq,hd];exact⟨by simp,.inl ⟨id,hb,by rw[c]; rfl⟩⟩
  ·rename_i hb;cases e;refine⟨ri _ _,fun d b=>?_⟩;have hd:=ù b.cons;simp only[rest,kq,hd];exact⟨by simp,.inr (.inl ⟨hb,t,rfl⟩)⟩
 |rowf t g =>
  simp only[đ] at e
  split at e<;>try (cases e; done)
  rename_i id hb
  split at e<;>try (cases e; done)
  rename_i t' g' xs c
  split at e<;>try (cases e; done)
  split at e<;>try (cases e; done)
  rename_i o _;subst o;cases e;refine⟨ri _ _,fun d b=>?_⟩;have hd:=ù b.cons;simp only[rest,kq,hd];exact⟨by simp,.inl ⟨id,hb,by rw[c]; rfl⟩⟩
 |rowv t =>
  simp only[đ] at e
  split at e<;>try (cases e; done)
  ·rename_i id hb
   split at e<;>try (cases e; done)
   rename_i t' g xs c
   split at e<;>try (cases e; done)
   cases e;refine⟨nN _ _,fun d b=>?_⟩;have hd:=ù b.vars;simp only[rest,kq,hd];exact⟨by simp,.inl ⟨id,hb,by rw[c]; rfl⟩⟩
  ·rename_i hb;cases e;refine⟨nN _ _,fun d b=>?_⟩;have hd:=ù b.vars;simp only[rest,kq,hd];exact⟨by simp,.inr (.inl ⟨hb,t,rfl⟩)⟩
 |mapc k v =>
  simp only[đ] at e
  split at e<;>try (cases e; done)
  rename_i id hb
  split at e<;>try (cases e; done)
  rename_i f m es c
  split at e<;>try (cases e; done)
  cases e;refine⟨ri _ _,fun d b=>?_⟩;have hd:=ù b.cons;simp only[rest,kq,hd];exact⟨by simp,.inl ⟨id,hb,by rw[c]; rfl⟩⟩
 |mapv k v =>
  simp only[đ] at e
  split at e<;>try (cases e; done)
  rename_i id hb
  split at e<;>try (cases e; done)
  rename_i f m es c
  split at e<;>try (cases e; done)
  cases e;refine⟨nN _ _,fun d b=>?_⟩;have hd:=ù b.vars;simp only[rest,kq,hd];exact⟨by simp,.inl ⟨id,hb,by rw[c]; rfl⟩⟩
 |deepc k =>
  simp only[đ] at e
  split at e<;>try (cases e; done)
  ·rename_i id hb
   split at e<;>try (cases e; done)
   rename_i f g xss c
   split at e<;>try (cases e; done)
   cases e;refine⟨ri _ _,fun d b=>?_⟩;have hd:=ù b.cons;simp only[rest,kq,hd];exact⟨by simp,.inl ⟨id,hb,by rw[c]; rfl⟩⟩
  ·rename_i hb;cases e;refine⟨ri _ _,fun d b=>?_⟩;have hd:=ù b.cons;simp only[rest,kq,hd];exact⟨by simp,.inr (.inr ⟨hb,k,rfl⟩)⟩
 |deepv k =>
  simp only[đ] at e
  split at e<;>try (cases e; done)
  ·rename_i id hb
   split at e<;>try (cases e; done)
   rename_i f g xss c
   split at e<;>try (cases e; done)
   cases e;refine⟨nN _ _,fun d b=>?_⟩;have hd:=ù b.vars;simp only[rest,kq,hd];exact⟨by simp,.inl ⟨id,hb,by rw[c]; rfl⟩⟩
  ·rename_i hb;cases e;refine⟨nN _ _,fun d b=>?_⟩;have hd:=ù b.vars;simp only[rest,kq,hd];exact⟨by simp,.inr (.inr ⟨hb,k,rfl⟩)⟩
 |fns es =>
  simp only[đ] at e
  split at e<;>try (cases e; done)
  rename_i id hb
  split at e<;>try (cases e; done)
  rename_i j c;obtain⟨l,r,v1,_⟩:=je (ν:=fun _=>undef) (w:=default) (h':=[]) es j [] M M1 e;exact⟨l,fun d b=>⟨lV r v1,.inl ⟨id,hb,by rw[c]; exact⟨_,rfl⟩⟩⟩⟩
 |acc t =>
  simp only[đ] at e
  split at e<;>try (cases e; done)
  rename_i id hb
  split at e<;>try (cases e; done)
  rename_i t' xs c
  split at e<;>try (cases e; done)
  cases e;refine⟨nN _ _,fun d b=>?_⟩;have hd:=ù b.vars;simp only[rest,kq,hd];exact⟨by simp,.inl ⟨id,hb,by rw[c]; rfl⟩⟩
 |itr =>
  simp only[đ] at e
  split at e<;>try (cases e; done)
  rename_i id hb
  split at e<;>try (cases e; done)
  rename_i s q c;cases e;refine⟨nN _ _,fun d b=>?_⟩;have hd:=ù b.vars;simp only[rest,kq,hd];exact⟨by simp,.inl ⟨id,hb,by rw[c]; rfl⟩⟩
def QM (H:HR ν h w) {p:rr} {i id:Nat} {M M1:Mt} {cs:th AV} (e:đ h p i M=some M1) (hb:Ţ M.bd i=some (.at_ id)) (b:lkB h id=.cells cs) {d:Mt} (j:Ext M1 d) (F:Fin ν h w d h') {us:th Value} (f:ê (VRc ν h w) cs us) :
 ∃c,(kq p (rest d M)).1=.cells c/\ê (VRc (νb d.bd ν) h' w) c us:=by
 cases p with
 |cells ps =>
  simp only[đ,hb,b] at e;exact⟨_,rfl,uM H e d j F f⟩
 |dead=>simp[đ,hb,b] at e
 |rowc t=>simp[đ,hb,b] at e
 |rowf t g=>simp[đ,hb,b] at e
 |rowv t=>simp[đ,hb,b] at e
 |mapc k v=>simp[đ,hb,b] at e
 |mapv k v=>simp[đ,hb,b] at e
 |deepc k=>simp[đ,hb,b] at e
 |deepv k=>simp[đ,hb,b] at e
 |acc t=>simp[đ,hb,b] at e
 |itr=>simp[đ,hb,b] at e
 |fns es=>simp[đ,hb,b] at e
def On {p:rr} {i id:Nat} {M M1:Mt} {es:th (ByteArray×AV)} (e:đ h p i M=some M1) (hb:Ţ M.bd i=some (.at_ id)) (b:lkB h id=.fns es) {d:Mt} (j:Ext M1 d) (F:Fin ν h w d h') {ms:th MapEntry} (f:Hl ν h w es ms) :
 ∃c,(kq p (rest d M)).1=.fns c/\Hl (νb d.bd ν) h' w c ms:=by
 cases p with
 |fns es0 =>
  simp only[đ,hb,b] at e;exact⟨_,rfl,(je es0 es ms M M1 e).2.2.2 d j F f⟩
 |cells ps=>simp[đ,hb,b] at e
 |dead=>simp[đ,hb,b] at e
 |rowc t=>simp[đ,hb,b] at e
 |rowf t g=>simp[đ,hb,b] at e
 |rowv t=>simp[đ,hb,b] at e
 |mapc k v=>simp[đ,hb,b] at e
 |mapv k v=>simp[đ,hb,b] at e
 |deepc k=>simp[đ,hb,b] at e
 |deepv k=>simp[đ,hb,b] at e
 |acc t=>simp[đ,hb,b] at e
 |itr=>simp[đ,hb,b] at e
def qI (p:rr) (ps:th rr) (I:It):rA (p::ps) I=((kq p I).1::(rA ps (kq p I).2).1,(rA ps (kq p I).2).2):=rfl
def lN:∀(ps:th rr) (I:It),(rA ps I).1.length=ps.length
 |[],_=>rfl
 |p::ps,I=>by rw[qI]; simp[lN ps]
def mX:∀{ps:th rr} {i:Nat} {M M1:Mt},xR h ps i M=some M1->Ext M M1/\∀b,Ext M1 b->∀k,k<ps.length ->
 (∃id,Ţ b.bd (i+k)=some (.at_ id)/\kin (lkB h id) (lkB (rA ps (rest b M)).1 k))\/(Ţ b.bd (i+k)=some .new/\∃t,lkB (rA ps (rest b M)).1 k=.row t 0 false [])\/(Ţ b.bd (i+k)=some .newd/\∃q,lkB (rA ps (rest b M)).1 k=.deep q 0 [])
 |[],i,M,M1,e=>by cases e; exact⟨Ext.refl _,fun b _ k l=>by simp at l⟩
 |p::ps,i,M,M1,e=>by
  simp only[xR] at e
  split at e<;>try (cases e; done)
  rename_i s r;obtain⟨j,t1⟩:=ta r;obtain⟨g,t2⟩:=mX e;refine⟨j.trans g,fun b f k l=>?_⟩;obtain⟨o,m⟩:=t1 b (g.trans f);rw[qI,o]
  cases k with
  |zero =>
   rcases m with⟨id,d,c⟩|⟨d,c⟩|⟨d,c⟩
   ·exact .inl ⟨id,(j.trans (g.trans f)).bd _ _ d,c⟩
   ·exact .inr (.inl ⟨(j.trans (g.trans f)).new _ d,c⟩)
   ·exact .inr (.inr ⟨(j.trans (g.trans f)).newd _ d,c⟩)
  |succ k =>
   have:=t2 b f k (by simpa using l);rw[show i+(k+1)=i+1+k by omega];exact this
def Ip (H:HR ν h w):∀{ps:th rr} {i:Nat} {M M1:Mt},xR h ps i M=some M1->∀c,Ext M1 c->Fin ν h w c h'->∀k id cs us,k<ps.length->Ţ c.bd (i+k)=some (.at_ id)->lkB h id=.cells cs->ê (VRc ν h w) cs us ->
 ∃j,lkB (rA ps (rest c M)).1 k=.cells j/\ê (VRc (νb c.bd ν) h' w) j us
 |[],i,M,M1,e,c,_,_,k,_,_,_,l,_,_,_=>by simp at l
 |p::ps,i,M,M1,e,c,f,F,k,id,cs,us,l,hb,r,q=>by
  simp only[xR] at e
  split at e<;>try (cases e; done)
  rename_i x s;obtain⟨m,t1⟩:=ta s;obtain⟨g,t2⟩:=mX e;obtain⟨u,t⟩:=t1 c (g.trans f);rw[qI,u]
  cases k with
  |zero =>
   rcases t with⟨v,d,o⟩|⟨d,o⟩|⟨d,o⟩
   ·have:=(m.trans (g.trans f)).bd _ _ d;have b:Ţ c.bd i=some (.at_ id):=hb;rw[this] at b;cases b;exact QM H s d r (g.trans f) F q
   ·have:=(m.trans (g.trans f)).new _ d;have b:Ţ c.bd i=some (.at_ id):=hb;rw[this] at b;cases b
   ·have:=(m.trans (g.trans f)).newd _ d;have b:Ţ c.bd i=some (.at_ id):=hb;rw[this] at b;cases b
  |succ k=>exact Ip H e c f F k id cs us (by simpa using l) (by rw[show i+1+k=i+(k+1) by omega]; exact hb) r q
def Eo:∀{ps:th rr} {i:Nat} {M M1:Mt},xR h ps i M=some M1->∀c,Ext M1 c->Fin ν h w c h'->∀k id es ms,k<ps.length->Ţ c.bd (i+k)=some (.at_ id)->lkB h id=.fns es->Hl ν h w es ms ->
 ∃g,lkB (rA ps (rest c M)).1 k=.fns g/\Hl (νb c.bd ν) h' w g ms
 |[],i,M,M1,e,c,_,_,k,_,_,_,l,_,_,_=>by simp at l
 |p::ps,i,M,M1,e,c,f,F,k,id,es,ms,l,hb,r,q=>by
  simp only[xR] at e
  split at e<;>try (cases e; done)
  rename_i x s;obtain⟨m,t1⟩:=ta s;obtain⟨j,t2⟩:=mX e;obtain⟨u,t⟩:=t1 c (j.trans f);rw[qI,u]
  cases k with
  |zero =>
   rcases t with⟨v,d,o⟩|⟨d,o⟩|⟨d,o⟩
   ·have:=(m.trans (j.trans f)).bd _ _ d;have b:Ţ c.bd i=some (.at_ id):=hb;rw[this] at b;cases b;exact On s d r (j.trans f) F q
   ·have:=(m.trans (j.trans f)).new _ d;have b:Ţ c.bd i=some (.at_ id):=hb;rw[this] at b;cases b
   ·have:=(m.trans (j.trans f)).newd _ d;have b:Ţ c.bd i=some (.at_ id):=hb;rw[this] at b;cases b
  |succ k=>exact Eo e c f F k id es ms (by simpa using l) (by rw[show i+1+k=i+(k+1) by omega]; exact hb) r q
def vM:∀{l:th Bd} {i id:Nat},Ţ l i=some (.at_ id)->id∈yY l
 |[],_,_,h=>by cases h
 |x::l,0,id,h=>by
  simp only[Ţ,Option.some.injEq] at h;subst h; simp[yY]
 |x::l,i+1,id,h=>by
  have:=vM (l:=l) (i:=i) (id:=id) h
  cases x<;>simp[yY,this]
def yi:∀{l:th Bd} {i j id:Nat},nP (yY l)=true->Ţ l i=some (.at_ id)->Ţ l j=some (.at_ id)->i=j
 |[],_,_,_,_,h,_=>by cases h
 |x::l,0,0,_,_,_,_=>rfl
 |x::l,0,j+1,id,hd,b,h2=>by
  simp only[Ţ,Option.some.injEq] at b;subst b;simp only[yY,nP,bn] at hd;have:=vM (l:=l) (i:=j) (id:=id) h2;simp[this] at hd
 |x::l,i+1,0,id,hd,b,h2=>by
  simp only[Ţ,Option.some.injEq] at h2;subst h2;simp only[yY,nP,bn] at hd;have:=vM (l:=l) (i:=i) (id:=id) b;simp[this] at hd
 |x::l,i+1,j+1,id,hd,b,h2=>by
  have c:nP (yY l)=true:=by
   cases x<;>simp only[yY,nP,bn] at hd<;>first|exact hd|exact hd.2
  rw[yi (l:=l) c b h2]
def NZ {pin n i:Nat} (hi:i<pin) (d:pin<=n):Ţ (sS pin n) i=some (.at_ i):=by
 have b:∀(l:th Bd) (k:Nat),Ţ l k=l[k]?:=by
  intro l
  induction l with
  |nil=>intro k; simp[Ţ]
  |cons x l c=>intro k; cases k with
   |zero=>rfl
   |succ k=>simpa[Ţ] using c k
 rw[b,sS,dt,List.getElem?_range (by omega)];simp[hi]
def w9:∀{pin:Nat},Rx h pin=true->∀i,i<pin->(∀t g xs,lkB h i=.row t g false xs->g=0)/\∀k g xss,lkB h i=.deep k g xss->g=0
 |0,_,i,hi=>by omega
 |pin+1,f,i,hi=>by
  have b:Rx h pin=true/\(∀t g xs,lkB h pin=.row t (g+1) false xs->False)/\∀k g xss,lkB h pin=.deep k (g+1) xss->False:=by
   simp only[Rx] at f
   split at f<;>try (cases f; done)
   rename_i d c;exact⟨f,fun t g xs e=>d _ _ _ e,fun k g xss e=>c _ _ _ e⟩
  rcases Nat.lt_succ_iff_lt_or_eq.1 hi with l|rfl
  ·exact w9 b.1 i l
  ·refine⟨fun t g xs j=>?_,fun k g xss j=>?_⟩
   ·cases g with
    |zero=>rfl
    |succ g=>exact(b.2.1 _ _ _ j).elim
   ·cases g with
    |zero=>rfl
    |succ g=>exact(b.2.2 _ _ _ j).elim
def BW:∀(l:th AV) (n k:Nat),lk (l++List.replicate n .any) k=lk l k
 |[],0,_=>rfl
 |[],n+1,0=>rfl
 |[],n+1,k+1=>by simpa[List.replicate_succ,Tz,TA,Tx] using BW [] n k
 |x::l,n,0=>rfl
 |x::l,n,k+1=>by simpa[Tz,TA,Tx] using BW l n k
def yd:∀(ps:th Pat) (I:It),(w8 ps I).1.length=ps.length
 |[],_=>rfl
 |p::ps,I=>by rw[mF]; simp[yd ps]
def gd:Tm:=by
 intro T pin cs vs S p v ν a w e H;unfold ix at e
 split at e<;>try (cases e; done)
 rename_i hc;simp only[bn,decide_eq_true_eq] at hc;obtain⟨c1,c2,c3,c4⟩:=hc
 split at e<;>try (cases e; done)
 rename_i O Z
 split at e<;>try (cases e; done)
 rename_i M hH
 split at e<;>try (cases e; done)
 rename_i hd;simp only[bn,bI] at hd;obtain⟨d1,d2⟩:=hd
 split at e<;>try (cases e; done)
 rename_i p' v' hp hv;cases e;have ep:KS cs p=M.cons:=L9 cs _ _ hp;have ev:KS vs v=M.vars:=L9 vs _ _ hv;obtain⟨eL,tL⟩:=s9 Z;obtain⟨eH,Y⟩:=mX hH
 -- the state of the pattern
 have hI0:({cons:=KS cs p,vars:=KS vs v}:It)=rest M {bd:=sS pin T.heap.length,cons:=[],vars:=[],freed:=[]}:=by
  simp[rest,ep,ev]
 have L:à T cs vs p v={t:=(w8 T.slots (rest M {bd:=sS pin T.heap.length,cons:=[],vars:=[],freed:=[]})).1++List.replicate (T.n-T.slots.length) .any,h:=(rA T.heap (rest M O)).1}:=by
  unfold à;rw[hI0];have:=tL M eH;show(St.mk _ _)=_;rw[show(w8 T.slots (rest M {bd:=sS pin T.heap.length,cons:=[],vars:=[],freed:=[]})).2=rest M O from this]
 rw[L]
 have y:M.bd.length=T.heap.length:=by rw[eH.len,eL.len]; simp[sS]
 have I:(rA T.heap (rest M O)).1.length=T.heap.length:=lN _ _
 have F:Fin ν S.h w M (rA T.heap (rest M O)).1:=by
  refine⟨fun i id hb=>?_,fun i hb=>?_,fun i hb=>?_,fun i h1 h2 h3=>?_,fun id hid i hb=>?_,fun i j id=>yi d1⟩
  ·have hi:i<T.heap.length:=by rw[<-y]; exact nz hb
   rcases Y M (Ext.refl _) i hi with⟨E,d,l⟩|⟨d,_⟩|⟨d,_⟩
   ·rw[bK,hb] at d; cases d; exact l
   ·rw[bK,hb] at d; cases d
   ·rw[bK,hb] at d; cases d
  ·have hi:i<T.heap.length:=by rw[<-y]; exact nz hb
   rcases Y M (Ext.refl _) i hi with⟨E,d,l⟩|⟨d,l⟩|⟨d,l⟩
   ·rw[bK,hb] at d; cases d
   ·exact l
   ·rw[bK,hb] at d; cases d
  ·have hi:i<T.heap.length:=by rw[<-y]; exact nz hb
   rcases Y M (Ext.refl _) i hi with⟨E,d,l⟩|⟨d,l⟩|⟨d,l⟩
   ·rw[bK,hb] at d; cases d
   ·rw[bK,hb] at d; cases d
   ·exact l
  ·rcases bZ i T.heap.length with hi|hi
   ·rcases Y M (Ext.refl _) i hi with⟨E,d,l⟩|⟨d,l⟩|⟨d,l⟩
    ·rw[bK] at d; exact absurd d (h1 E)
    ·rw[bK] at d; exact absurd d h2
    ·rw[bK] at d; exact absurd d h3
   ·exact oi _ _ (by rw[I]; exact hi)
  ·have:=d2 id hid;have hm:=vM hb;simp[hm] at this
 have hHR:HR (νb M.bd ν) (rA T.heap (rest M O)).1 w:=by
  refine⟨fun i=>?_,fun i j b hi hj A hbj=>?_,H.heap.ghlt,fun i b z hb hg=>?_,H.heap.glob,fun b hb Z=>H.heap.globL b hb (F.subL b Z)⟩
  rotate_left 2
  ·obtain⟨id,d,l⟩:=F.subL b ⟨i,z,hb⟩;exact H.heap.ghne id b d l hg
  ·cases hb:Ţ M.bd i with
   |none=>rw[F.out i (by simp[hb]) (by simp[hb]) (by simp[hb])]; trivial
   |some x =>
    cases x with
    |open_=>rw[F.out i (by simp[hb]) (by simp[hb]) (by simp[hb])]; trivial
    |newd =>
     obtain⟨k,f⟩:=F.newd i hb;rw[f];exact⟨none,0,[],L2 hb,bm _,dY _ _,.inl ⟨rfl,rfl⟩,trivial⟩
    |new =>
     obtain⟨t,ht⟩:=F.new i hb;rw[ht];exact⟨none,0,PM hb,bm _,.inl ⟨rfl,rfl⟩⟩
    |at_ id =>
     have f:=F.at_ i id hb;have B:=H.heap.blk id
     cases z:lkB S.h id with
     |dead=>rw[z] at f; rw[show lkB _ i=_ from f]; trivial
     |cells c =>
      rw[z] at B;obtain⟨b,X,e',d,l,D⟩:=B
      have hi:i<T.heap.length:=by rw[<-y]; exact nz hb
      obtain⟨cs',G,J⟩:=Ip H.heap hH M (Ext.refl _) F i id c X.toList hi (by rw[bK]; exact hb) z D;rw[G];exact⟨b,X,e',(Ŷ hb).trans d,l,J⟩
     |row t g fz xs =>
      rw[z] at f B
      cases fz with
      |true =>
       rw[show lkB _ i=_ from f];show CR w _ (.slice t) xs [_];rw[Ŷ hb];exact CR.mono F.sub B
      |false =>
       rw[show lkB _ i=_ from f];obtain⟨base,cap,d,l,D⟩:=B;refine⟨base,cap,(Ŷ hb).trans d,l,?_⟩;rcases D with D|⟨b,off,c,e',G,J,R,q7⟩
       ·exact .inl D
       ·refine .inr ⟨b,off,c,e',G,J,R,fun j x U=>?_⟩;obtain⟨us,q8,q9⟩:=q7 j x U;exact⟨us,CR.mono F.sub q8,q9⟩
     |map k u es =>
      rw[z] at f B;rw[show lkB _ i=_ from f];obtain⟨b,r,C,d,l,D,G⟩:=B;refine⟨b,r,C,(Ŷ hb).trans d,l,D,fun j x U=>?_⟩;obtain⟨m,us,J,R,q7,q8⟩:=G j x U;exact⟨m,us,J,CR.mono F.sub R,CR.mono F.sub q7,q8⟩
     |fns es =>
      rw[z] at B;obtain⟨b,r,C,d,l,D⟩:=B
      have hi:i<T.heap.length:=by rw[<-y]; exact nz hb
      obtain⟨es',G,J⟩:=Eo hH M (Ext.refl _) F i id es r.toList hi (by rw[bK]; exact hb) z D;rw[G];exact⟨b,r,C,(Ŷ hb).trans d,l,J⟩
     |iter s q =>
      rw[z] at f B;rw[show lkB _ i=_ from f];obtain⟨b,d,l⟩:=B;exact⟨b,(Ŷ hb).trans d,l⟩
     |deep k g xss =>
      rw[z] at f B;rw[show lkB _ i=_ from f];obtain⟨base,cap,us,d,l⟩:=B;exact⟨base,cap,us,(Ŷ hb).trans d,l⟩
     |acc t xs =>
      rw[z] at f B;rw[show lkB _ i=_ from f];obtain⟨us,d,l,D,G⟩:=B;refine⟨us,(Ŷ hb).trans d,by rw[Ŷ hb]; exact l,D,?_⟩;rw[Ŷ hb];exact È.st _ _ _ _ _ _ G ⟨rfl,rfl,rfl,bm _,fun b _ hn U=>hn (F.sub b U),fun b o ho _ _=>ho,fun b o ho _ _=>ho,fun _ _ _=>rfl⟩
  ·have W:∀i,(lkB (rA T.heap (rest M O)).1 i).live=true->č (νb M.bd ν i) b->∃id,Ţ M.bd i=some (.at_ id)/\(lkB S.h id).live=true/\č (ν id) b:=fun i hi A=>by
    cases hb:Ţ M.bd i with
    |none=>rw[F.out i (by simp[hb]) (by simp[hb]) (by simp[hb])] at hi; cases hi
    |some x =>
     cases x with
     |open_=>rw[F.out i (by simp[hb]) (by simp[hb]) (by simp[hb])] at hi; cases hi
     |new=>simp only[νb,hb] at A; cases A
     |newd =>
      simp only[νb,hb] at A;obtain⟨u,hu,A⟩:=A;simp at hu;subst hu;cases A
     |at_ id =>
      refine⟨id,rfl,?_,by simpa[νb,hb] using A⟩;have f:=F.at_ i id hb
      cases V:lkB S.h id with
      |dead=>rw[V] at f; rw[show lkB _ i=_ from f] at hi; cases hi
      |cells=>rfl
      |map=>rfl
      |deep=>rfl
      |acc=>rfl
      |fns=>rfl
      |iter=>rfl
      |row t g fz xs =>
       cases fz with
       |false=>rfl
       |true=>rw[V] at f; rw[show lkB _ i=_ from f] at hi; cases hi
   obtain⟨id,d,l,D⟩:=W i hi A;obtain⟨E,G,J,R⟩:=W j hj hbj;have:=H.heap.inj id E b l J D R;subst this;exact F.inj i j id d G
 have K:∀i,i<pin->Ţ M.bd i=some (.at_ i):=fun i hi=>(eL.trans eH).bd i i (NZ hi c1);refine⟨νb M.bd ν,⟨H.defers,?_,fun i=>?_,hHR⟩,⟨rfl,rfl,rfl,bm _,fun b _ hb=>⟨rfl,fun hb'=>hb (F.subL b hb')⟩,fun i hi=>?_⟩,by rw[I]; exact c1,fun i hi N=>?_⟩
 ·have:=H.len;simp only[bp,ez,yd];omega
 ·simp only[BW];exact Io H.heap Z M eH F (fun k=>a.tmps.getD k undef) (fun k=>H.tmps k) i
 ·have hb:=K i hi;have f:=F.at_ i i hb
  cases z:lkB S.h i with
  |dead=>trivial
  |cells c=>rw[z] at f; exact⟨f,Ŷ hb⟩
  |row t g fz xs =>
   rw[z] at f
   cases fz with
   |true=>exact⟨g,true,xs,f,bm _,fun _=>⟨Ŷ hb,rfl⟩⟩
   |false =>
    have hg:=(w9 c4 i hi).1 t g xs z;exact⟨0,false,xs,f,by omega,fun _=>⟨Ŷ hb,rfl⟩⟩
  |map k u es=>rw[z] at f; exact⟨⟨es,f⟩,Ŷ hb⟩
  |deep k g xss =>
   rw[z] at f;have hg:=(w9 c4 i hi).2 k g xss z;exact⟨0,xss,f,by omega,fun _=>⟨Ŷ hb,rfl⟩⟩
  |acc t xs=>rw[z] at f; exact⟨xs,f⟩
  |fns es=>rw[z] at f; exact⟨f,Ŷ hb⟩
  |iter s q=>rw[z] at f; exact⟨⟨q,f⟩,Ŷ hb⟩
 ·have f:=F.at_ i i (K i hi);rw[N] at f;exact f
end
end Go.Am
end

noncomputable section
namespace Go.Am
variable [Globs] [È]
section
variable {ρ:Type} {ν ν':Nat->Value} {h h':th Blk} {w w':World} {P:Program}
def ř (w:World) (G:Nat->Prop) (t:Ty) (x:Val t) (v:Value):Prop:=∃us,CR w G t x us/\v=oF t us
def AT (w:World) (G:Nat->Prop):(l:th Ty)->(t:Ty)->Val (tys t l)->th Value->Prop
 |[],t,x,vs=>∃v,vs=[v]/\ř w G t x v
 |u::l,t,x,vs=>∃v b,vs=v::b/\ř w G t (x:Val t×Val (tys u l)).1 v/\AT w G l u (x:Val t×Val (tys u l)).2 b
def AL (w:World) (G:Nat->Prop):(l:th Ty)->Val (tyL l)->th Value->Prop
 |[],_,vs=>vs=[]
 |t::l,x,vs=>AT w G l t x vs
def RR (w:World) (G:Nat->Prop):(l:th Ty)->Val (tyL l)->Value->Prop
 |[],_,u=>u=.tuple #[]
 |[t],x,u=>ř w G t x u
 |t::u'::l,x,u=>∃vs,u=.tuple vs/\AT w G (u'::l) t x vs.toList
def Ý (P:Program) (f:Nat) (p:ą):Prop :=
 ∀(G:Nat->Prop) (x:Val (tyL p.ts)) (y:Val (tyL p.rs)),p.F x=some y->∀(w:World) (vals:th Value),(∀b,G b->b<w.heap.size)->Globs.Φ w->AL w G p.ts x vals ->
  (∃fn c,P.funcs[f]?=some fn/\fn.body=some c) /\
  CallsIn Fence.wide 0 P f vals.toArray w fun e w'=>∃u,e=.returned u/\RR w' G p.rs y u/\(∀b,b<w.heap.size->w'.heap[b]?=w.heap[b]?)/\w.heap.size<=w'.heap.size/\w'.os=w.os/\w'.tape=w.tape/\w'.output=w.output
def GU {a:AV} {vs:th AV} (e:Ē a=some vs):gG a=vs:=by
 cases a<;>simp only[Ē,Option.some.injEq,reduceCtorEq] at e<;>exact e
def qi {G:Nat->Prop} {t:Ty} {x:Val t} {a:AV} {v:Value} {vs:th AV} (d:(EV a==t.isAgg)=true) (g:Ē a=some vs) (i:VR ν h w a v)
 (q:∀c∈gG a,∀u,VR1 ν h w c u->VRs w G (í h c) u) (e:Ø t (vs.map (í h))=some x):ř w G t x v:=by
 have f:=i.cells g;have h2:ê (VRs w G) (vs.map (í h)) v.cells.toList:=ê.map_left (aux vs _ f fun c m u j=>q c (by rw[GU g]; exact m) u j.1);refine⟨_,ÿ e h2,?_⟩
 cases ha:a.isAgg with
 |true =>
  cases a<;>try cases ha
  obtain⟨us,rfl,_⟩:=i
  have:t.isAgg=true:=by simpa[EV] using d
  simp[oF,this,Value.cells]
 |false =>
  have r:EV a=false:=by cases a<;>first|rfl|cases ha
  have l:t.isAgg=false:=by rw[r] at d; simpa using d
  have k:a.isTup=false:=by cases a<;>first|rfl|cases g
  have s:=(i.one ha k).oneCell g;simp[oF,l,kz s]
where
 aux {w:World} {G:Nat->Prop} {ν:Nat->Value} {h:th Blk} (vs:th AV) (us:th Value) (f:ê (VRc ν h w) vs us) (o:∀c∈vs,∀u,VRc ν h w c u->VRs w G (í h c) u):ê (fun c b=>VRs w G (í h c) b) vs us:=by
  induction vs generalizing us with
  |nil=>cases us with
   |nil=>trivial
   |cons=>exact f.elim
  |cons c vs p=>cases us with
   |nil=>exact f.elim
   |cons u us=>exact⟨o c (by simp) u f.1,p us f.2 fun c m u j=>o c (by simp[m]) u j⟩
def Hb (H:HR ν h w) {G:Nat->Prop} {t:Ty} {x:Val t} {a:AV} {v:Value} (p:VR ν h w a v)
 (K:∀c∈gG a,∀u,VR1 ν h w c u->VRs w G (í h c) u) (hb:∀id cs,a=.box id 0->lkB h id=.cells cs->(∀b,č (ν id) b->¬G b)/\∀c∈cs,∀u,VR1 ν h w c u->VRs w G (í h c) u) (hd:∀id g,a=.dp id g->(lkB h id).live=true->∀b,č (ν id) b->¬G b) (e:TC h t a=some x):ř w G t x v:=by
 cases B:(match t with|.ptr _=>true|_=>false) with
 |false =>
  by_cases m:∃id g,a=.dp id g
  ·obtain⟨id,g,rfl⟩:=m
   have d:(match lkB h id with
    |.deep k g' xss=>match g==g' with
     |true=>match decEq (Ty.slice (.slice (.int k))) t with
      |isTrue e=>some (l5 (F:=Val) e xss)
      |isFalse _=>none
     |false=>none
    |_=>none)=some x:=by
    cases t<;>first|exact e|cases B
   split at d<;>try (cases d; done)
   rename_i k g' xss j
   split at d<;>try (cases d; done)
   rename_i R
   split at d<;>try (cases d; done)
   rename_i A _;subst A;cases d;obtain⟨V,k2,W,J,l,_,N⟩:=p;rw[j] at l; cases l;have i:=Hz H j (N (by simpa using R)) (hd id g rfl (by rw[j]; rfl));exact⟨[v],i,rfl⟩
  have d:(match EV a==t.isAgg with|true=>(match Ē (Me h a) with|some cs=>Ø t cs|none=>none)|false=>none)=some x:=by
   have O:∀id g,a≠.dp id g:=fun id g q=>m ⟨id,g,q⟩
   cases t<;>first|(cases B; done)|(cases a<;>first|exact e|exact absurd rfl (O _ _))
  split at d<;>try (cases d; done)
  rename_i D
  split at d<;>try (cases d; done)
  rename_i cs f;obtain⟨vs,z,rfl⟩:=wB f;exact qi D z p K d
 |true =>
  cases t<;>try cases B
  rename_i u;simp only[TC] at e
  split at e<;>try (cases e; done)
  ·rename_i id
   split at e<;>try (cases e; done)
   rename_i cs j;obtain⟨U,b,z,h2,I⟩:=p.one rfl rfl;have L:=H.blk id;rw[j] at L;obtain⟨X,c,d,s,r,E⟩:=L;rw[h2] at s; cases s;obtain⟨T,f⟩:=hb id cs rfl j;have i:CR w G u x c.toList:=ÿ e (ê.map_left (qi.aux cs _ E fun c S u M=>f c S u M.1));refine⟨[v],⟨b,0,c.toList,by rw[I],T b (by rw[h2]; rfl),Û r,i,Ċ.of_cells r⟩,rfl⟩
  ·rename_i t' y
   split at e<;>try (cases e; done)
   rename_i C _;subst C;cases e;have z:=K _ (by simp[gG]) v (p.one rfl rfl);obtain⟨b,o,us,h2,I,s,r,E⟩:=z;exact⟨[v],⟨b,o,us,by rw[h2]; rfl,I,s,r,E⟩,rfl⟩
def CN (H:HR ν h w) {G:Nat->Prop}:∀(l:th Ty) (t:Ty) (x:Val (tys t l)) (as:th AV) (vs:th Value),ê (VR ν h w) as vs ->
 (∀a∈as,∀c∈gG a,∀u,VR1 ν h w c u->VRs w G (í h c) u)->(∀a∈as,∀id cs,a=.box id 0->lkB h id=.cells cs->(∀b,č (ν id) b->¬G b)/\∀c∈cs,∀u,VR1 ν h w c u->VRs w G (í h c) u)->(∀a∈as,∀id g,a=.dp id g->(lkB h id).live=true->∀b,č (ν id) b->¬G b)->Ha h l t as=some x->AT w G l t x vs
 |[],t,x,[],vs,_,_,_,_,e=>by cases e
 |[],t,x,[a],vs,d,f,hb,hd,e=>by
  obtain⟨v,rfl,k⟩:=d.one;exact⟨v,rfl,Hb H k (f a (by simp)) (hb a (by simp)) (hd a (by simp)) e⟩
 |[],t,x,_::_::_,vs,_,_,_,_,e=>by cases e
 |u::l,t,x,[],vs,_,_,_,_,e=>by cases e
 |u::l,t,x,a::as,[],d,_,_,_,e=>d.elim
 |u::l,t,x,a::as,v::vs,d,f,hb,hd,e=>by
  simp only[Ha] at e
  split at e<;>try (cases e; done)
  rename_i y j
  split at e<;>try (cases e; done)
  rename_i z i;cases e;exact⟨v,vs,rfl,Hb H d.1 (f a (by simp)) (hb a (by simp)) (hd a (by simp)) j,CN H l u z as vs d.2 (fun a ha=>f a (by simp[ha])) (fun a ha=>hb a (by simp[ha])) (fun a ha=>hd a (by simp[ha])) i⟩
def wq (H:HR ν h w) {G:Nat->Prop} {l:th Ty} {x:Val (tyL l)} {as:th AV} {vs:th Value} (d:ê (VR ν h w) as vs)
 (f:∀a∈as,∀c∈gG a,∀u,VR1 ν h w c u->VRs w G (í h c) u) (hb:∀a∈as,∀id cs,a=.box id 0->lkB h id=.cells cs->(∀b,č (ν id) b->¬G b)/\∀c∈cs,∀u,VR1 ν h w c u->VRs w G (í h c) u) (hd:∀a∈as,∀id g,a=.dp id g->(lkB h id).live=true->∀b,č (ν id) b->¬G b) (e:tV h l as=some x):AL w G l x vs:=by
 cases l with
 |nil=>cases as with
  |nil=>exact d.nil_left
  |cons=>cases e
 |cons t l=>exact CN H l t x as vs d f hb hd e
def ř.mono {G c:Nat->Prop} (e:∀b,c b->G b) {t:Ty} {x:Val t} {v:Value} (d:ř w G t x v):ř w c t x v:=by
 obtain⟨us,f,h2⟩:=d;exact⟨us,CR.mono e f,h2⟩
def xc {av f:Nat->Prop}:∀{t:Ty} {x:Val t} {us:th Value},(flat t x).all rH=true->CR w av t x us->CR w f t x us
 |.unit,_,_,_,d=>d
 |.bool,_,_,_,d=>d
 |.int _,_,_,_,d=>d
 |.str,_,_,_,d=>d
 |.slice _,_,_,c,_=>by simp[flat,rH] at c
 |.map _ _,_,_,c,_=>by simp[flat,rH] at c
 |.ptr _,_,_,c,_=>by simp[flat,rH] at c
 |.pair a b,x,us,c,d=>by
  simp only[flat,List.all_append,bn] at c;obtain⟨u1,g,e,i,h2⟩:=d;exact⟨u1,g,e,xc c.1 i,xc c.2 h2⟩
def RP {t:Ty} {x:Val t} (b:plain (enc t x)=true):(flat t x).all rH=true:=by
 cases t<;>first|exact b|(simp only[enc,plain,rH] at b; simp[flat,rH])|(simp[enc,plain,rH] at b)
def ř.plain {G e:Nat->Prop} {t:Ty} {x:Val t} {v:Value} (c:plain (enc t x)=true) (b:ř w G t x v):ř w e t x v:=by
 obtain⟨us,d,h2⟩:=b;exact⟨us,xc (RP c) d,h2⟩
def AT.plain {G e:Nat->Prop}:∀{l:th Ty} {t:Ty} {x:Val (tys t l)} {vs:th Value},(RQ l t x).all Go.Am.plain=true->AT w G l t x vs->AT w e l t x vs
 |[],t,x,vs,b,⟨v,c,h2⟩=>⟨v,c,h2.plain (by simpa[RQ] using b)⟩
 |u::l,t,x,vs,b,⟨v,vs',c,h2,d⟩=>by
  simp only[RQ,cY,bn] at b;exact⟨v,vs',c,h2.plain b.1,AT.plain b.2 d⟩
def HO {v:AV} (b:v.isTup=false):zZ v=Go.Am.plain v:=by cases v<;>first|rfl|cases b
def xh {t:Ty} {x:Val t}:(enc t x).isTup=false:=by cases t<;>rfl
def RR.plain {G d:Nat->Prop}:∀{l:th Ty} {x:Val (tyL l)} {u:Value},zZ (Ke l x)=true->RR w G l x u->RR w d l x u
 |[],_,_,_,h=>h
 |[t],x,u,b,h=>ř.plain ((HO (xh (t:=t) (x:=x))).symm.trans b) h
 |t::u'::l,x,u,b,⟨vs,c,h2⟩=>⟨vs,c,h2.plain b⟩
def ř.VR {t:Ty} {x:Val t} {v:Value} (b:ř w (Av ν h) t x v):VR ν h w (enc t x) v:=by
 obtain⟨us,c,rfl⟩:=b;exact yh c
def AT.VR:∀{l:th Ty} {t:Ty} {x:Val (tys t l)} {vs:th Value},AT w (Av ν h) l t x vs->ê (VR ν h w) (RQ l t x) vs
 |[],t,x,_,⟨v,rfl,h2⟩=>⟨h2.VR,trivial⟩
 |u::l,t,x,_,⟨v,vs',rfl,h2,b⟩=>⟨h2.VR,AT.VR b⟩
def Cp:∀{l:th Ty} {t:Ty} {x:Val (tys t l)},∀a∈RQ l t x,a.isTup=false
 |[],t,x,a,b=>by simp only[RQ,br] at b; rw[b]; exact xh
 |u::l,t,x,a,b=>by
  simp only[RQ,bw] at b;rcases b with rfl|b
  ·exact xh
  ·exact Cp a b
def ê.VR2:∀{as:th AV} {vs:th Value},ê (VR ν h w) as vs->(∀a∈as,a.isTup=false)->ê (VR2 ν h w) as vs
 |[],[],_,_=>trivial
 |a::as,v::vs,b,c=>⟨by rw[<-mN (c a (by simp))]; exact b.1,ê.VR2 b.2 fun a ha=>c a (by simp[ha])⟩
 |[],_::_,b,_=>b.elim
 |_::_,[],b,_=>b.elim
def RR.VR:∀{l:th Ty} {x:Val (tyL l)} {u:Value},RR w (Av ν h) l x u->VR ν h w (Ke l x) u
 |[],_,_,h=>by cases h; exact⟨#[],rfl,trivial⟩
 |[t],x,u,h=>ř.VR h
 |t::u'::l,x,u,⟨vs,b,h2⟩=>⟨vs,b,ê.VR2 h2.VR Cp⟩
def wy (P:Program) (g:Nat) (ν:Nat->Value) (h:th Blk) (w:World) (vals:th Value) (K:AV->th Blk->so ρ) (r:ρ):Prop :=
 (∃fn c,P.funcs[g]?=some fn/\fn.body=some c) /\
 CallsIn Fence.wide 0 P g vals.toArray w fun e w'=>∃ν' h' v u,e=.returned u/\VR ν' h' w' v u/\HR ν' h' w'/\Ev h.length ν h w ν' h' w'/\h.length<=h'.length/\(∀j,j<h.length->lkB h j=.dead->lkB h' j=.dead)/\K v h'=some r
def Nf {c:AV} {u:Value}:∀{as:th AV} {h:th Blk},HR ν h w->c∈as->Ap c=true->VR1 ν h w c u->VRs w (Av ν (rB h as)) (í h c) u
 |[],_,_,b,_,_=>by cases b
 |a::as,h,H,b,e,d=>by
  obtain⟨g,f,i⟩:=Cc H a;rcases bw.1 b with rfl|b
  ·exact VRs.mono ((tN as f).2.2) (Cb H d e)
  ·have:=Nf (as:=as) f b e (d.ev g)
   rwa [wC] at this
def Ob {f:Nat} {p:ą} (S:Ý P f p) {b:Bool} {args:th AV} {K:AV->th Blk->so ρ} {r:ρ} (e:FG b p h args K=some r) (H:HR ν h w) {vals:th Value} (C:ê (VR ν h w) args vals):wy P f ν h w vals K r:=by
 unfold FG at e
 split at e<;>try (cases e; done)
 rename_i x B;simp only[Â] at e
 split at e<;>try (cases e; done)
 rename_i y O
 -- the call, with what may not be touched
 have call:∀(G:Nat->Prop),(∀b,G b->b<w.heap.size)->AL w G p.ts x vals->∀(h':th Blk),HR ν h' w->Ev h.length ν h w ν h' w->h.length<=h'.length->(∀j,j<h.length->lkB h j=.dead->lkB h' j=.dead) ->
  (∀w' u,RR w' G p.rs y u->RR w' (Av ν h') p.rs y u)->K (Ke p.rs y) h'=some r->wy P f ν h w vals K r:=by
  intro G U J h' A ev z o D T;obtain⟨V,h2⟩:=S G x y O w vals U H.glob J;refine⟨V,h2.mono fun e w' R=>?_⟩;obtain⟨u,rfl,g1,g2,Z,Y,X,W⟩:=R;obtain⟨L,M⟩:=A.grow g2 Z Y X W h.length;exact⟨ν,h',_,u,rfl,(D w' u g1).VR,M,ev.trans L (bm _),z,o,T⟩
 split at e
 ·rename_i E;exact call È.G (fun b hb=>H.ghlt b hb) (wq H C (fun a _ c _ u m=>DZ H m) (fun _ _ id cs _ z=>⟨fun b hb I=>H.ghne id b (by rw[z]; rfl) hb I,fun c _ u m=>DZ H m⟩) (fun _ _ id g _ z b hb I=>H.ghne id b z hb I) B) h H (Ev.refl _ _ _ _) (bm _) (fun _ _ hd=>hd) (fun w' u s=>s.plain E) e
 ·split at e
  ·rename_i t
   have d:∀a∈args,CP a=false:=fun a ha=>by have:=bI.1 t a ha; simpa using this
   refine call (Av ν h) (fun b hb=>H.ltA hb) (wq H C (fun a ha c l u m=>?_) (fun a ha id cs i _=>?_) (fun a ha id g i=>?_) B) h H (Ev.refl _ _ _ _) (bm _) (fun _ _ hd=>hd) (fun w' u s=>s) e
   ·have q:tX c=false:=by
     have:=d a ha
     cases a<;>first
      |(simp only[gG,br] at l; subst l; exact this)
      |(simp only[gG] at l; simp only[CP,dF] at this; simpa using this c l)
    have:í h c=c:=by cases c<;>first|rfl|cases q
    rw[this]; exact m.data
   ·subst i; cases d _ ha
   ·subst i; cases d _ ha
  ·split at e<;>try (cases e; done)
   rename_i v;simp only[Bool.or_eq_false_iff,dj] at v;have k:∀a∈args,QH a=true:=bI.1 v.2;obtain⟨ev,A,N⟩:=tN (args.flatMap gG) H;refine call (Av ν (rB h (args.flatMap gG))) (fun b hb=>A.ltA hb) (wq H C (fun a ha c l u m=>?_) (fun a ha id cs i _=>?_) (fun a ha id g i=>?_) B) _ A ev (by rw[ń]; exact bm _) (fun _ _ hd=>B9 _ hd) (fun w' u s=>s) e
   ·refine Nf H (bW.2 ⟨a,ha,l⟩) ?_ m;have:=k a ha
    have q:QG c=true:=by
     cases a<;>first
      |(simp only[gG,br] at l; subst l; exact this)
      |(simp only[gG] at l; simp only[QH,bI] at this; exact this c l)
    cases c<;>first|rfl|cases q
   ·subst i; cases k _ ha
   ·subst i; cases k _ ha
end
end Go.Am
end
