/- lemmas -/
import Derived.Test.YtanjeafjkgllhaaGreatDoorAmA
import Derived.Laws.StructEq
import Derived.ChangeKeysEq
import Derived.Laws.BytesArg
import Derived.Laws.Strings3
import Derived.Laws.DeepStrings4
import Derived.OrdersIn
import Derived.RangeFuncSeq
import Derived.RangeFuncRecord
import Derived.LoopNIn
set_option linter.all false
noncomputable section
namespace Go.Am
variable [Globs] [Ghost]
section
variable {ν ν':Nat->Value} {h h':w9 Blk} {w w':World} {P:Program}
def KQ (off:Nat):∀(vs:w9 Value) (k:Nat) (cells:Array Value),off+k+vs.length<=cells.size ->
 ((vs.zipIdx k).foldl (fun cs (p:Value×Nat)=>cs.setIfInBounds (off+p.2) p.1) cells).toList=cells.toList.take (off+k)++vs++cells.toList.drop (off+k+vs.length)
 |[],k,cells,_=>by simp
 |v::vs,k,cells,d=>by
  simp only[cV] at d;have c:=KQ off vs (k+1) (cells.setIfInBounds (off+k) v) (by simp; omega);simp only[List.zipIdx_cons,eO,c,Array.toList_setIfInBounds]
  have b:off+k<cells.toList.length:=by simp; omega
  have e:(cells.toList.set (off+k) v).take (off+(k+1))=cells.toList.take (off+k)++[v]:=by
   rw[show off+(k+1)=off+k+1 by omega,List.take_add_one];rw[List.take_set_of_le (by omega),List.getElem?_set_self b]; rfl
  have h2:(cells.toList.set (off+k) v).drop (off+(k+1)+vs.length)=cells.toList.drop (off+k+(v::vs).length):=by
   rw[List.drop_set_of_lt (by omega)];simp only[cV];congr 1; omega
  rw[e,h2];simp
def xz {place:Nat->w8 (Nat×Nat)} {cells:Array Value} {i:Nat} {v:Value} {rest:w9 (Nat×Value)} {off size:Nat} (d:place i=some (off,size)) (c:v.cells.size=size) (e:off+size<=cells.size) :
 Instr.fill place cells ((i,v)::rest)=Instr.fill place (cells.toList.take off++v.cells.toList++cells.toList.drop (off+size)).toArray rest:=by
 have h0:¬(v.cells.size≠size\/off+v.cells.size>cells.size):=by omega
 have b:=KQ off v.cells.toList 0 cells (by simp; omega);simp only[Instr.fill,d];rw[if_neg (by simpa using h0)];congr 1;apply eW;simp only[fK,fi,c] at b;rw[<-b,<-Array.foldl_toList,Array.toList_zipIdx]
def W5 {fs:Array Field} {places:Nat->w8 (Nat×Nat)} (t:∀i f n,fs[i]?=some f->szP P f.type=some n->places i=some (f.offset,n)) :
 ∀(ps:w9 (Nat×AV)) (us:w9 (Nat×Value)) (cs d:w9 AV) (c:Array Value),YM P fs ps cs=some d->ñ (fun a b=>a.1=b.1/\VR ν h w a.2 b.2) ps us->ñ (VRc ν h w) cs c.toList ->
  ∃c',Instr.fill places c us=some c'/\ñ (VRc ν h w) d c'.toList
 |[],[],cs,d,c,e,_,p=>by cases e; exact⟨c,rfl,p⟩
 |[],_::_,_,_,_,_,g,_=>g.elim
 |_::_,[],_,_,_,_,g,_=>g.elim
 |(i,v)::ps,(j,u)::us,cs,d,c,e,g,p=>by
  obtain⟨⟨o,k⟩,g⟩:=g;simp only at o; subst o;simp only[YM] at e
  split at e<;>try (cases e; done)
  rename_i f y
  split at e<;>try (cases e; done)
  rename_i vs l
  split at e<;>try (cases e; done)
  rename_i r
  split at e<;>try (cases e; done)
  rename_i z m;obtain⟨rfl,h2⟩:=rZ m;have s:=k.cells l;have q:=FC k l;have x:=p.length;simp at x
  have r:szP P f.type=some vs.length:=by simpa using r
  rw[xz (t i f _ y r) q (by omega)];exact W5 t ps us _ d _ e g (((p.take _).append s).append (p.drop _))
def Om {sz:Nat} {places:Nat->w8 (Nat×Nat)} (s:∀i,places i=some (i*sz,sz)) :
 ∀(ps:w9 (Nat×AV)) (us:w9 (Nat×Value)) (cs d:w9 AV) (c:Array Value),Fu sz ps cs=some d->ñ (fun a b=>a.1=b.1/\VR ν h w a.2 b.2) ps us->ñ (VRc ν h w) cs c.toList ->
  ∃c',Instr.fill places c us=some c'/\ñ (VRc ν h w) d c'.toList
 |[],[],cs,d,c,e,_,o=>by cases e; exact⟨c,rfl,o⟩
 |[],_::_,_,_,_,_,f,_=>f.elim
 |_::_,[],_,_,_,_,f,_=>f.elim
 |(i,v)::ps,(j,u)::us,cs,d,c,e,f,o=>by
  obtain⟨⟨m,g⟩,f⟩:=f;simp only at m; subst m;simp only[Fu] at e
  split at e<;>try (cases e; done)
  rename_i vs k
  split at e<;>try (cases e; done)
  rename_i q
  split at e<;>try (cases e; done)
  rename_i x l;obtain⟨rfl,h2⟩:=rZ l;have r:=g.cells k;have p:=FC g k;have t:=o.length;simp at t
  have q:vs.length=sz:=by simpa using q
  subst q;rw[xz (s i) p (by omega)];exact Om s ps us _ d _ e f (((o.take _).append r).append (o.drop _))
def B8 {S:St} {a:Act} (H:Sim ν S a w):∀(ps:w9 (Nat×Operand)),ñ (fun(x:Nat×AV) (y:Nat×Value)=>x.1=y.1/\VR ν S.h w x.2 y.2) (ps.map fun p=>(p.1,ev S.t p.2)) (ps.map fun p=>(p.1,a.eval p.2))
 |[]=>trivial
 |p::ps=>⟨⟨rfl,Đ H p.2⟩,B8 H ps⟩
def y0 (w:World):∀(fs:w9 Field),fs.all (fun f=>(P.info? f.type).isSome)=true ->
 ∃l:w9 (Nat×Nat),(fs.mapM (m:=Sem) fun(f:Field)=>do pure (f.offset,<-sizeOf f.type)).run P w=.ok l w/\∀(i:Nat),l[i]?=(fs[i]?).bind fun(f:Field)=>(szP P f.type).map fun n=>(f.offset,n)
 |[],_=>⟨[],rfl,fun i=>by simp⟩
 |f::fs,ha=>by
  simp only[fk,cM] at ha;obtain⟨i,hi⟩:=fS.1 ha.1;obtain⟨l,c,h2⟩:=y0 w fs ha.2
  have b:szP P f.type=some i.size:=by simp[szP,hi]
  refine⟨(f.offset,i.size)::l,?_,fun j=>?_⟩
  ·simp only[List.mapM_cons,Sem.run_bind,lQ b,Result.andThen_ok,Sem.run_pure];rw[c]; rfl
  ·cases j with
   |zero=>simp[b]
   |succ j=>simpa using h2 j
def M4 {S:St} {a:Act} {t:TypeId} {fs:Array Field} {ps:Array (Nat×Operand)} {z:AV} {zs cs:w9 AV} (H:Sim ν S a w) (r:P.underlying t=some (.struct fs)) (o:fs.toList.all (fun f=>(P.info? f.type).isSome)=true)
 (c:((P.info? t).bind (·.zero)).map cv=some z) (e:į z=some zs) (B:YM P fs (ps.toList.map fun p=>(p.1,ev S.t p.2)) zs=some cs) :
 ň P ν S.h w (Instr.build t (ps.map fun(i,x)=>(i,a.eval x))) (.agg cs) S.h:=by
 cases hi:P.info? t with
 |none=>simp[hi] at c
 |some i =>
 cases b:i.zero with
 |none=>simp[hi,b] at c
 |some d =>
 simp only[hi,b,ee,dQ,Option.some.injEq] at c;subst c;have C:=(Tg (ν:=ν) (h:=S.h) (w:=w) d).cells e;obtain⟨l,k,g⟩:=y0 (P:=P) w fs.toList o
 obtain⟨c',D,h2⟩:=W5 (ν:=ν) (h:=S.h) (w:=w) (P:=P) (fs:=fs) (places:=fun j=>l[j]?) (fun j f n A v=>by
  show l[j]?=_
  rw[g j]; simp only[fM]; rw[A]; simp[v]) _ _ zs cs d.cells B (B8 H ps.toList) C
 refine ň.still H.heap (u:=.agg c') ?_ ⟨c',rfl,h2⟩
 have y:(fs.mapM (m:=Sem) fun f=>do pure (f.offset,<-sizeOf f.type)).run P w=.ok l.toArray w:=by
  rw[Array.mapM_eq_mapM_toList,Sem.run_map,k]; rfl
 have s:(ps.map fun(x:Nat×Operand)=>(x.1,a.eval x.2)).toList=ps.toList.map fun p=>(p.1,a.eval p.2):=by simp
 simp only[Instr.build,Sem.run_bind,zeroValue,typeInfo,run_program,Result.andThen_ok,hi,b,Sem.run_pure,run_underlying r];rw[y];simp only[Result.andThen_ok]
 have q:Instr.fill (fun x=>l.toArray[x]?) d.cells (ps.map fun(x:Nat×Operand)=>(x.1,a.eval x.2)).toList=some c':=by
  rw[s]; simpa using D
 erw [q]
 rfl
end
end Go.Am
end

noncomputable section
namespace Go.Am
variable [Globs] [Ghost]
section
variable {ν ν':Nat->Value} {h h':w9 Blk} {w w':World} {P:Program}
def Ve {S:St} {a:Act} {t e:TypeId} {n sz:Nat} {ps:Array (Nat×Operand)} {z:AV} {zs cs:w9 AV} (H:Sim ν S a w) (k:P.underlying t=some (.array n e)) (l:szP P e=some sz)
 (c:((P.info? t).bind (·.zero)).map cv=some z) (f:į z=some zs) (o:Fu sz (ps.toList.map fun p=>(p.1,ev S.t p.2)) zs=some cs) :
 ň P ν S.h w (Instr.build t (ps.map fun(i,x)=>(i,a.eval x))) (.agg cs) S.h:=by
 cases hi:P.info? t with
 |none=>simp[hi] at c
 |some i =>
 cases b:i.zero with
 |none=>simp[hi,b] at c
 |some d =>
 simp only[hi,b,ee,dQ,Option.some.injEq] at c;subst c;have q:=(Tg (ν:=ν) (h:=S.h) (w:=w) d).cells f;obtain⟨c',r,h2⟩:=Om (ν:=ν) (h:=S.h) (w:=w) (sz:=sz) (places:=fun j=>some (j*sz,sz)) (fun j=>rfl) _ _ zs cs d.cells o (B8 H ps.toList) q;refine ň.still H.heap (u:=.agg c') ?_ ⟨c',rfl,h2⟩
 have m:(ps.map fun(x:Nat×Operand)=>(x.1,a.eval x.2)).toList=ps.toList.map fun p=>(p.1,a.eval p.2):=by simp
 simp only[Instr.build,Sem.run_bind,zeroValue,typeInfo,run_program,Result.andThen_ok,hi,b,Sem.run_pure,run_underlying k,lQ l]
 have g:Instr.fill (fun j=>some (j*sz,sz)) d.cells (ps.map fun(x:Nat×Operand)=>(x.1,a.eval x.2)).toList=some c':=by rw[m]; exact r
 erw [g]
 rfl
def aac {t:TypeId} {agg:Bool} {n o:Nat} {cs f:w9 AV} {v:AV} {us:Array Value} (H:HR ν h w) (m:ldP P t=some (agg,n)) (p:HU cs o n=some f) (k:mkv agg f=some v) (q:ñ (VRc ν h w) cs us.toList) :
 ň P ν h w (part t us o) v h:=by
 obtain⟨d,hd,rfl,i⟩:=PH m;obtain⟨x,h2⟩:=ng p
 have b:ñ (VRc ν h w) f ((us.toList.drop o).take n):=by rw[x]; exact(q.drop o).take n
 obtain⟨s,r⟩:=afb k b;refine ň.still H ?_ s;unfold part;simp only[Sem.run_bind,vR hd,Result.andThen_ok]
 cases e:LO d with
 |true =>
  simp only[if_true,Sem.run_bind,lQ i,Result.andThen_ok,Sem.run_pure,TL];congr 2;apply eW;rw[Array.toList_extract,List.extract_eq_take_drop];congr 1; omega
 |false =>
  have j:n=1:=by rw[<-h2]; exact r e
  subst j;simp only[TL]
  cases g:us.toList.drop o with
  |nil=>rw[g] at b; have:=b.length; rw[h2] at this; simp at this
  |cons u rest =>
   have c:us[o]?=some u:=by
    have:=congrArg (fun l=>l[0]?) g;simpa using this
   simp[c]
def aem {t:TypeId} {f:Nat} {fs:Array Field} {b:Field} {agg:Bool} {n:Nat} {cs d:w9 AV} {v:AV} {c:Value} (H:HR ν h w) (g:P.underlying t=some (.struct fs)) (l:fs[f]?=some b)
 (j:ldP P b.type=some (agg,n)) (k:HU cs b.offset n=some d) (i:mkv agg d=some v) (e:VR ν h w (.agg cs) c):ň P ν h w (Instr.field t c f) v h:=by
 obtain⟨us,rfl,m⟩:=e;obtain⟨ν',w',u,o,h2⟩:=aac (P:=P) H j k i m;refine⟨ν',w',u,?_,h2⟩;simp only[Instr.field,Sem.run_bind,run_underlying g,Result.andThen_ok,l,asAgg,Sem.run_pure];exact o
def UR {t e:TypeId} {n m:Nat} {k:IntKind} {j:Int} {agg:Bool} {cs f:w9 AV} {v:AV} {b:Value} (H:HR ν h w) (i:P.underlying t=some (.array n e))
 (p:0<=j/\j<n) (c:ldP P e=some (agg,m)) (q:HU cs (j.toNat*m) m=some f) (o:mkv agg f=some v) (g:VR ν h w (.agg cs) b):ň P ν h w (Instr.index t b (.int k j)) v h:=by
 obtain⟨us,rfl,r⟩:=g;obtain⟨ν',w',u,s,h2⟩:=aac (P:=P) H c q o r;obtain⟨d,hd,_,l⟩:=PH c;refine⟨ν',w',u,?_,h2⟩;simp only[Instr.index,asIntOf,Sem.run_bind,Sem.run_pure,run_underlying i,Result.andThen_ok,p,and_self,if_true,lQ l];exact s
def shift_ok {x v:AV} {j:Value} {o:Nat} (e:vO h x o some=some v) (d:VR ν h w x j):∃a,j=.pointer (some a)/\VR ν h w v (.pointer (some (a.add o))):=by
 unfold vO at e
 split at e<;>try (cases e; done)
 ·cases e;obtain⟨cs,b,c,h2,rfl⟩:=d;exact⟨_,rfl,cs,b,c,h2,by rw[Ļ]⟩
 ·cases e;obtain⟨b,o',us,rfl,c,h2,i,g⟩:=d;exact⟨_,rfl,b,o',us,by rw[Ļ,Nat.add_assoc],c,h2,i,g⟩
 ·split at e<;>try (cases e; done)
  rename_i t g' fz xs k
  split at e<;>try (cases e; done)
  rename_i f;cases e;obtain⟨q,t2,r,p,l,c,h2,i⟩:=d;rw[k] at c; cases c;have m:=eq_of_beq f;subst m;obtain⟨hi,b,o',cap,g,rfl⟩:=i rfl;exact⟨_,rfl,by rw[Ļ]; rfl,_,_,_,_,k,cJ _,fun _=>⟨hi,b,o',cap,g,by rw[Ļ,Nat.add_assoc]⟩⟩
def SZ {t:TypeId} {f:Nat} {fs:Array Field} {b:Field} {n:Nat} {x v:AV} {c:Value} (H:HR ν h w) (g:P.underlying t=some (.struct fs)) (j:fs[f]?=some b)
 (i:szP P b.type=some (n+1)) (e:vO h x b.offset some=some v) (d:VR ν h w x c):ň P ν h w (Instr.fieldAt t c f) v h:=by
 obtain⟨a,rfl,k⟩:=shift_ok e d;refine ň.still H ?_ k;simp[Instr.fieldAt,Instr.sureAddr,run_underlying g,j,fieldPlace,lQ i]
def KD {t e:TypeId} {n sz id off:Nat} {k:IntKind} {j:Int} {c:Value} (H:HR ν h w) (f:P.underlying t=some (.array n e)) (i:0<=j/\j<n) (g:szP P e=some sz) (d:VR ν h w (.box id off) c) :
 ň P ν h w (Instr.indexAt t c (.int k j)) (.box id (off+j.toNat*sz)) h:=by
 obtain⟨cs,b,l,h2,rfl⟩:=d;refine ň.still H (u:=.pointer (some ⟨b,off+j.toNat*sz,none⟩)) ?_ ⟨cs,b,l,h2,rfl⟩;simp[Instr.indexAt,Instr.sureAddr,asIntOf,run_underlying f,lQ g,i,Ļ]
def Qh {k:IntKind} {n:Int} {v:AV} (e:arK k n some=some v):v=.int k (k.wrap n):=by
 unfold arK at e;cases e
 cases k<;>rfl
def IK {gt:Bool} {f:Value->Value->Sem Value} (j:∀(k:IntKind) (a b:Int),(f (.int k a) (.int k b)).run P w=.ok (.int k (match gt with|true=>US a b|false=>WN a b)) w) :
 ∀(l:w9 AV) (us:w9 Value) (x v:AV) (c:Value),jy gt x l some=some v->VR ν h w x c->ñ (VR ν h w) l us->∃u,(us.foldlM f c).run P w=.ok u w/\VR ν h w v u
 |[],[],x,v,c,e,i,_=>by cases e; exact⟨c,rfl,i⟩
 |[],_::_,_,_,_,_,_,d=>d.elim
 |_::_,[],_,_,_,_,_,d=>d.elim
 |y::l,uy::us,x,v,c,e,i,d=>by
  cases x<;>try (simp[jy] at e; done)
  cases y<;>try (simp[jy] at e; done)
  rename_i k a r b;simp only[jy] at e
  split at e<;>try (cases e; done)
  rename_i m _;subst m
  have key:∀g:Bool,(match g with|true=>jy true (.int k (US a b)) l some|false=>jy false (.int k (WN a b)) l some)=some v->jy g (.int k (match g with|true=>US a b|false=>WN a b)) l some=some v:=fun g h=>by cases g<;>exact h
  have e:=key gt e;have q:c=.int k a:=i;have h2:uy=.int k b:=d.1;subst q h2;obtain⟨u,p,o⟩:=IK j l us _ v _ e (show VR ν h w (.int k _) (.int k _) from rfl) d.2;refine⟨u,?_,o⟩;simp only[gE,Sem.run_bind,j,Result.andThen_ok];exact p
end
end Go.Am
end

noncomputable section
namespace Go.Am
variable [Globs] [Ghost]
section
variable {ν ν':Nat->Value} {h h':w9 Blk} {w w':World} {P:Program}
def mb {t:TypeId} {k:Ty} (b:Fg P t k=true) :
 (P.underlying t=some .bool/\k=.bool)\/(∃i,P.underlying t=some (.int i)/\k=.int i):=by
 unfold Fg at b
 split at b<;>try (cases b; done)
 ·split at b<;>try (cases b; done)
  exact .inl ⟨‹_›,rfl⟩
 ·split at b<;>try (cases b; done)
  have:=eq_of_beq b;subst this;exact .inr ⟨_,‹_›,rfl⟩
def keyVal:(k:Ty)->Val k->Value
 |.bool,b=>.bool b
 |.int i,n=>.int i n
 |.str,s=>.string s
 |_,_=>undef
def CR.keyVal {av:Nat->Prop} {t:TypeId} {k:Ty} {x:Val k} {v:Value} (b:Fg P t k=true) (c:CR w av k x [v]):v=keyVal k x:=by
 rcases mb b with⟨_,rfl⟩|⟨i,_,rfl⟩
 all_goals
  have:[v]=[_]:=c;simpa[Am.keyVal] using this
def abp {av:Nat->Prop} {t:TypeId} {k:Ty} {x:Val k} (b:Fg P t k=true):CR w av k x [keyVal k x]:=by
 rcases mb b with⟨_,rfl⟩|⟨i,_,rfl⟩<;>exact(rfl:[_]=[_])
def FU {t:TypeId} {k:Ty} {x:Val k} {empty:Bool} (c:Fg P t k=true) (m:Nat):(Instr.checkKey empty (m+1) t (keyVal k x)).run P w=.ok () w:=by
 rcases mb c with⟨b,rfl⟩|⟨i,b,rfl⟩<;>simp[Instr.checkKey,run_underlying b,keyVal]
def AX {t:TypeId} {k:Ty} (c:Fg P t k=true):∃d,P.underlying t=some d/\∀x y:Val k,Instr.sameNow d (keyVal k x) (keyVal k y)=some (jh k x y):=by
 rcases mb c with⟨b,rfl⟩|⟨i,b,rfl⟩
 ·exact⟨_,b,fun _ _=>rfl⟩
 ·refine⟨_,b,fun x y=>?_⟩;simp only[Instr.sameNow,keyVal,jh,if_true];congr 1
def Ents (w:World) (av:Nat->Prop) (k v:Ty) (es:w9 (Val k×Val v)) (b:w9 MapEntry):Prop :=
 ñ (fun(e:Val k×Val v) (m:MapEntry)=>m.key=keyVal k e.1/\∃us,CR w av v e.2 us/\m.val=vI v us) es b
def Fs {d:TypeDesc} {av:Nat->Prop} {k v:Ty} {x:Val k} (hd:∀y,Instr.sameNow d (keyVal k x) (keyVal k y)=some (jh k x y)):∀(es:w9 (Val k×Val v)) (ms:w9 MapEntry) (i:Nat),Ents w av k v es ms ->
 (vd x es=none/\Instr.findNow d (keyVal k x) ms i=some none) \/
 ∃y j us,vd x es=some y/\Instr.findNow d (keyVal k x) ms i=some (some (i+j,vI v us))/\CR w av v y us/\j<es.length/\(∀b,Pb x b es=es.set j (x,b))/\∃e,es[j]?=some e/\jh k x e.1=true
 |[],[],i,_=>.inl ⟨rfl,rfl⟩
 |[],_::_,_,f=>f.elim
 |_::_,[],_,f=>f.elim
 |e::es,m::ms,i,f=>by
  obtain⟨⟨z,us,h2,u⟩,f⟩:=f;have g:=hd e.1;rw[<-z] at g
  cases c:jh k x e.1 with
  |true =>
   rw[c] at g;exact .inr ⟨e.2,0,us,by simp[vd,c],by simp[Instr.findNow,g,u],h2,by simp,fun b=>by simp[Pb,c],e,rfl,c⟩
  |false =>
   rw[c] at g;rcases Fs hd es ms (i+1) f with⟨p,o⟩|⟨y,j,l,p,o,t,B,s,A,r,q⟩
   ·exact .inl ⟨by simp[vd,c,p],by simp[Instr.findNow,g,o]⟩
   ·refine .inr ⟨y,j+1,l,by simp[vd,c,p],by simp[Instr.findNow,g,o]; omega,t,by simp; omega,fun b=>by simp[Pb,c,s],A,by simpa using r,q⟩
def Rz {k v:Ty} {x:Val k} {b:Val v}:∀{es:w9 (Val k×Val v)},vd x es=none->Pb x b es=es++[(x,b)]
 |[],_=>rfl
 |e::es,c=>by
  cases d:jh k x e.1 with
  |true=>simp[vd,d] at c
  |false=>simp only[vd,d] at c; simp[Pb,d,Rz c]
def ents (H:HR ν h w) {t:TypeId} {m:AV} {um:Value} {k v:Ty} {es:w9 (Val k×Val v)} (A:Fg P t k=true) (p:VR ν h w m um) (e:ò h m=.mp k v es) :
 ∃r,um=.map r/\((r=none/\es=[])\/∃b c d,r=some b/\w.heap[b]?=some (.map c d)/\Ents w (Av ν h) k v es c.toList):=by
 have fin:∀(c:Array MapEntry),c.size=es.length->(∀(i:Nat) (e:Val k×Val v),es[i]?=some e->∃(m:MapEntry) (us:w9 Value),c[i]?=some m/\CR w (Av ν h) k e.1 [m.key]/\CR w (Av ν h) v e.2 us/\m.val=vI v us) ->
  Ents w (Av ν h) k v es c.toList:=fun c z B=>by
  refine ñ.of_get (by simpa using z.symm) fun i a b ha hb=>?_;obtain⟨m,us,l,h2,j,f⟩:=B i a ha
  have:b=m:=by simp at hb; rw[l] at hb; exact(Option.some.inj hb).symm
  subst this;exact⟨CR.keyVal A h2,us,j,f⟩
 cases m with
 |mp x u o =>
  simp only[ò] at e;cases e;obtain⟨r,l,h2⟩:=p;refine⟨r,by simpa using l,?_⟩;rcases h2 with h2|⟨b,c,d,h2,_,j,f,C⟩
  ·exact .inl h2
  ·exact .inr ⟨b,c,d,h2,j,fin c f C⟩
 |omp id =>
  obtain⟨D,x,u,o,q,y⟩:=p;simp only[ò,q] at e;cases e;have s:=H.blk id;rw[q] at s;obtain⟨b,c,d,l,h2,j,f⟩:=s;exact⟨some b,by rw[y,l],.inr ⟨b,c,d,rfl,h2,fin c j f⟩⟩
 |own id g=>simp only[ò] at e; (repeat' split at e)<;>cases e
 |sub id g lo n=>simp only[ò] at e; (repeat' split at e)<;>cases e
 |_=>simp[ò] at e
def Es {t:TypeId} {k:Ty} {i:AV} {c:Value} {x:Val k} (d:Fg P t k=true) (hi:VR ν h w i c) (e:Ò k [i]=some x):c=keyVal k x:=by
 rcases mb d with⟨_,rfl⟩|⟨j,_,rfl⟩
 ·cases i<;>simp[Ò,ū] at e; subst e; exact hi
 ·cases i<;>try (simp[Ò,ū] at e; done)
  rename_i g n;simp only[Ò,ū] at e
  split at e<;>try (cases e; done)
  rename_i y b
  split at b<;>try (cases b; done)
  rename_i f _;subst f; cases b; cases e; exact hi
def abf (ok:Bool) (y:AV) (b:Bool):w8 AV:=match ok with|true=>some (.tup [y,.bool b])|false=>some y
def aba {t:TypeId} {m i v:AV} {um L:Value} {ok:Bool} (H:HR ν h w) (e:pv P h t m i ok some=some v) (hm:VR ν h w m um) (hi:VR ν h w i L):∃u,(Instr.lookup t um L ok).run P w=.ok u w/\VR ν h w v u:=by
 unfold pv at e
 split at e<;>try (cases e; done)
 rename_i M et E
 split at e<;>try (cases e; done)
 rename_i k D z hkt het O
 cases s:P.info? et with
 |none=>simp[s] at O
 |some N =>
 cases C:N.zero with
 |none=>simp[s,C] at O
 |some o =>
 simp only[s,C,ee,dQ,Option.some.injEq] at O;subst O
 -- what the run does, once the search is known
 have run:∀(x:Val k) (r:w8 Nat) (ms:w9 MapEntry),Fg P M k=true->L=keyVal k x->um=.map r->(r=none/\ms=[]\/∃b c f,r=some b/\w.heap[b]?=some (.map c f)/\c.toList=ms) ->
  ∀d,P.underlying M=some d ->
  (∀y j,Instr.findNow d (keyVal k x) ms 0=some (some (j,y))->(Instr.lookup t um L ok).run P w=.ok (if ok then .tuple #[y,.bool true] else y) w) /\
  (Instr.findNow d (keyVal k x) ms 0=some none->(Instr.lookup t um L ok).run P w=.ok (if ok then .tuple #[o,.bool false] else o) w):=by
  intro x r ms B T p W d hd;subst T p;have A:=fun em=>FU (P:=P) (w:=w) (x:=x) (empty:=em) B 9999;have A:∀em,(Instr.checkKey em 10000 M (keyVal k x)).run P w=.ok () w:=A;rcases W with⟨rfl,rfl⟩|⟨b,c,f,rfl,hb,rfl⟩
  ·constructor
   ·intro y j I; simp[Instr.findNow] at I
   ·intro I;simp only[Instr.lookup,Sem.run_bind,run_underlying E,Result.andThen_ok,Sem.run_pure,A];simp[Instr.findKey,run_underlying hd,Instr.findNow,zeroValue,typeInfo,s,C]
  ·constructor
   ·intro y j I;simp only[Instr.lookup,Sem.run_bind,run_underlying E,Result.andThen_ok,Sem.run_pure,jb hb,A];simp[Instr.findKey,run_underlying hd,I]
   ·intro I;simp only[Instr.lookup,Sem.run_bind,run_underlying E,Result.andThen_ok,Sem.run_pure,jb hb,A];simp[Instr.findKey,run_underlying hd,I,zeroValue,typeInfo,s,C]
 have K:∀{V:AV},abf ok (cv o) false=some V->VR ν h w V (if ok then .tuple #[o,.bool false] else o):=fun {V} hV=>by
  cases ok with
  |false=>cases hV; exact Tg o
  |true =>
   cases hV;refine⟨#[o,.bool false],rfl,?_,rfl,trivial⟩;have:=Tg (ν:=ν) (h:=h) (w:=w) o
   cases E:(cv o).isTup with
   |true=>exact absurd E (by rw[Tf]; simp)
   |false=>rwa [uV E] at this
 split at e<;>try (cases e; done)
 ·rename_i k' v' es B l
  split at e<;>try (cases e; done)
  rename_i Y _;cases Y
  split at e<;>try (cases e; done)
  rename_i x S;have G:=Es B hi S;obtain⟨d,hd,q⟩:=AX (P:=P) (t:=M) (k:=k) B;obtain⟨r,p,W⟩:=ents H B hm l
  have U:∃ms,Ents w (Av ν h) k D es ms/\(r=none/\ms=[]\/∃b c f,r=some b/\w.heap[b]?=some (.map c f)/\c.toList=ms):=by
   rcases W with⟨rfl,rfl⟩|⟨b,c,f,rfl,hb,Z⟩
   ·exact⟨[],trivial,.inl ⟨rfl,rfl⟩⟩
   ·exact⟨_,Z,.inr ⟨b,c,f,rfl,hb,rfl⟩⟩
  obtain⟨ms,Z,X⟩:=U;obtain⟨r1,R⟩:=run x r ms B G p X d hd;rcases Fs (q x) es ms 0 Z with⟨h4,h5⟩|⟨y,j,us,h4,h5,h6,_⟩
  ·have J:(match (vd x es:w8 (Val D)) with|some y=>abf ok (enc D y) true|none=>abf ok (cv o) false)=some v:=e;rw[h4] at J;exact⟨_,R h5,K J⟩
  ·have J:(match (vd x es:w8 (Val D)) with|some y=>abf ok (enc D y) true|none=>abf ok (cv o) false)=some v:=e;rw[h4] at J;refine⟨_,r1 _ _ h5,?_⟩;have hv:=GC h6
   cases ok with
   |false=>cases J; exact hv
   |true =>
    cases J;refine⟨#[vI D us,.bool true],rfl,?_,rfl,trivial⟩
    have E:(enc D y).isTup=false:=by cases D<;>rfl
    rwa [uV E] at hv
 ·rename_i B l
  split at e<;>try (cases e; done)
  rename_i x S;have G:=Es B hi S;obtain⟨d,hd,q⟩:=AX (P:=P) (t:=M) (k:=k) B
  have p:um=.map none:=by
   cases m with
   |nilm=>exact hm
   |own id g=>simp only[ò] at l; (repeat' split at l)<;>cases l
   |sub id g lo n=>simp only[ò] at l; (repeat' split at l)<;>cases l
   |omp id=>simp only[ò] at l; (repeat' split at l)<;>cases l
   |_=>simp[ò] at l
  obtain⟨r1,R⟩:=run x none [] B G p (.inl ⟨rfl,rfl⟩) d hd;exact⟨_,R rfl,K e⟩
def aa9 {t:TypeId} {m i v:AV} {um b:Value} {ok:Bool} (H:HR ν h w) (e:pv P h t m i ok some=some v) (c:VR ν h w m um) (hi:VR ν h w i b):ň P ν h w (Instr.lookup t um b ok) v h:=by
 obtain⟨u,d,h2⟩:=aba H e c hi;exact ň.still H d h2
def Ez {x:AV} {cs:w9 AV} (e:į (VF h x)=some cs):∃vs,į x=some vs/\cs=vs.map (ò h):=by
 cases x with
 |agg l=>simp only[VF,į,Option.some.injEq] at e; exact⟨l,rfl,e.symm⟩
 |any=>cases e
 |und=>cases e
 |tup=>cases e
 |own id g =>
  refine⟨_,rfl,?_⟩;simp only[VF] at e
  have:ò h (.own id g)=.any\/∃t xs,ò h (.own id g)=.slc t xs:=by
   simp only[ò]; (repeat' split)<;>first|exact .inl rfl|exact .inr ⟨_,_,rfl⟩
  rcases this with b|⟨t,xs,b⟩<;>rw[b] at e<;>cases e
  simp[b]
 |sub id g lo n =>
  refine⟨_,rfl,?_⟩;simp only[VF] at e
  have:ò h (.sub id g lo n)=.any\/∃t xs,ò h (.sub id g lo n)=.slc t xs:=by
   simp only[ò]; (repeat' split)<;>first|exact .inl rfl|exact .inr ⟨_,_,rfl⟩
  rcases this with b|⟨t,xs,b⟩<;>rw[b] at e<;>cases e
  simp[b]
 |omp id =>
  refine⟨_,rfl,?_⟩;simp only[VF] at e
  have:ò h (.omp id)=.any\/∃k v xs,ò h (.omp id)=.mp k v xs:=by
   simp only[ò]; (repeat' split)<;>first|exact .inl rfl|exact .inr ⟨_,_,_,rfl⟩
  rcases this with b|⟨k,v,xs,b⟩<;>rw[b] at e<;>cases e
  simp[b]
 |_=>cases e; exact⟨_,rfl,rfl⟩
def WU {a:AV} {id:Nat} {k v:Ty} {es:w9 (Val k×Val v)} (b:lkB h id=.map k v es):lkB (pO h a) id=.map k v es:=by
 have key:∀(j g:Nat) (t:Ty) (fz:Bool) (xs:w9 (Val t)),lkB h j=.row t g fz xs->lkB (è h j (.row t g true xs)) id=.map k v es:=fun j g t fz xs c=>by
  by_cases d:id=j
  ·subst d; rw[b] at c; cases c
  ·rw[Í _ d]; exact b
 cases a<;>try exact b
 all_goals
  simp only[pO]
  split
  ·exact key _ _ _ _ _ ‹_›
  ·exact b
def PP {id:Nat} {k v:Ty} {es:w9 (Val k×Val v)}:∀(as:w9 AV) {h:w9 Blk},lkB h id=.map k v es->lkB (yV h as) id=.map k v es
 |[],_,b=>b
 |a::as,_,b=>PP as (WU b)
def aea {t:TypeId} {k:Ty} (b:Fg P t k=true) {x y:Val k} (e:jh k x y=true):x=y:=by
 rcases mb b with⟨_,rfl⟩|⟨j,_,rfl⟩
 ·simpa[jh] using e
 ·simpa[jh] using e
def QT {t:TypeId} {k:Ty} (b:Fg P t k=true) (x:Val k) (m:Nat):Instr.sameBits m (keyVal k x) (keyVal k x)=true:=by
 rcases mb b with⟨_,rfl⟩|⟨j,_,rfl⟩<;>simp[Instr.sameBits,keyVal]
def ñ.set {α β:Type} {R:α->β->Prop}:∀{l:w9 α} {m:w9 β} (i:Nat) {a:α} {b:β},ñ R l m->R a b->ñ R (l.set i a) (m.set i b)
 |[],[],_,_,_,_,_=>trivial
 |_::_,_::_,0,_,_,h,c=>⟨c,h.2⟩
 |_::_,_::_,i+1,_,_,h,c=>⟨h.1,ñ.set i h.2 c⟩
 |[],_::_,_,_,_,h,_=>h.elim
 |_::_,[],_,_,_,h,_=>h.elim
def F4 {t:TypeId} {m i x:AV} {um ui C:Value} (H:HR ν h w) (e:ŭ P h t m i x some=some h') (hm:VR ν h w m um) (hi:VR ν h w i ui) (hx:VR ν h w x C) :
 ∃w',(Instr.mapUpdate t um ui C).run P w=.ok () w'/\HR ν h' w'/\Ev h.length ν h w ν h' w'/\h'.length=h.length:=by
 unfold ŭ at e
 split at e<;>try (cases e; done)
 rename_i kt et ht
 split at e<;>try (cases e; done)
 rename_i id
 split at e<;>try (cases e; done)
 rename_i k v es hl
 split at e<;>try (cases e; done)
 rename_i hc;simp only[cM,beq_iff_eq] at hc;obtain⟨J,hnm,W⟩:=hc
 split at e<;>try (cases e; done)
 rename_i a cs ha hcs
 split at e<;>try (cases e; done)
 rename_i b hb;cases e;obtain⟨vs,u,rfl⟩:=Ez hcs;obtain⟨hfe,hfm⟩:=abE u h;have hcx:=hx.cells u;have hsn:=DU H (hcx.mono fun _ _ q=>q.1) (hfm hnm);obtain⟨e1,H1,hlv⟩:=BA vs H;rw[hfe];have o:=PP vs hl;have U:=ē hb hsn
 have D:C=vI v C.cells.toList:=by
  unfold vI;rw[<-W]
  cases x with
  |agg l=>obtain⟨us,rfl,_⟩:=hx; rfl
  |any=>cases u
  |und=>cases u
  |tup=>cases u
  |_ =>
   rw[pM ((hx.one rfl rfl).oneCell u)]; rfl
 obtain⟨ho,k2,v2,es2,O,hmv⟩:=hm;rw[hl] at O; cases O;have hB:=H1.blk id;rw[o] at hB;obtain⟨K,f,s,h1,h2,h3,h4⟩:=hB;rw[hmv,h1];have hui:=Es J hi ha;subst hui
 have Z:Ents w (Av ν (yV h vs)) k v es f.toList:=by
  obtain⟨r,E,A⟩:=ents H1 (m:=.omp id) (um:=.map (some K)) (k:=k) (v:=v) (es:=es) J ⟨rfl,k,v,es,o,h1.symm⟩ (by simp only[ò,o]);cases E;rcases A with⟨A,_⟩|⟨b',en',cl',A,N,Y⟩
  ·cases A
  ·cases A;rw[h2] at N;cases N;exact Y
 obtain⟨d,hd,G⟩:=AX (P:=P) (t:=kt) (k:=k) J;have S:id<(yV h vs).length:=Ł o (by simp)
 -- the map with other f
 have fin:∀(c:Array MapEntry) (g:Nat) (p:w9 (Val k×Val v)),Ents w (Av ν (yV h vs)) k v p c.toList ->
  HR ν (è (yV h vs) id (.map k v p)) {w with heap:=w.heap.setIfInBounds K (.map c g)} /\
  Ev (yV h vs).length ν (yV h vs) w ν (è (yV h vs) id (.map k v p)) {w with heap:=w.heap.setIfInBounds K (.map c g)}:=by
  intro c g p X;have I:=ß h2
  have z:∀q,q<w.heap.size->((lkB (yV h vs) id).live=true->¬ģ (ν id) q)->({w with heap:=w.heap.setIfInBounds K (.map c g)}:World).heap[q]?=w.heap[q]?:=fun q _ M=>by
   have:K≠q:=fun he=>M (by rw[o]; rfl) (by rw[h1,he]; rfl);simp[dL,this]
  have hV:(Blk.map k v p).live=true->∀q,ģ (ν id) q->((lkB (yV h vs) id).live=true/\ģ (ν id) q)\/w.heap.size<=q:=fun _ q M=>.inl ⟨by rw[o]; rfl,M⟩;have ev:=Ev.upd H1 (B:=.map k v p) (V:=ν id) (w':={w with heap:=w.heap.setIfInBounds K (.map c g)}) S rfl rfl rfl (by simp) z hV (by rw[o]; exact⟨⟨p,rfl⟩,Ê _ _ _⟩)
  have L:=HR.upd H1 S ev z hV ⟨K,c,g,(Ê _ _ _).trans h1,by simp[I],by simpa using X.length.symm,fun j q hj=>by
   obtain⟨m,E,A,us,N,Y⟩:=X.get hj;refine⟨m,us,by simpa using E,?_,CR.keep ev.keepA N,Y⟩
   rw[A]; exact abp J⟩
  rw[ja] at ev L;exact⟨L,ev⟩
 have T:∀em,(Instr.checkKey em 10000 kt (keyVal k a)).run P w=.ok () w:=fun em=>FU (P:=P) (w:=w) (x:=a) (empty:=em) J 9999;rcases Fs (G a) es f.toList 0 Z with⟨h5,h6⟩|⟨y,j,us,h5,h6,h7,h8,h9,e',h10,h11⟩
 ·rw[Rz h5]
  obtain⟨L,ev⟩:=fin (f.push {key:=keyVal k a,val:=C,born:=s}) (s+1) (es++[(a,b)]) (by
   rw[Array.toList_push]
   exact ñ.append Z ⟨⟨rfl,_,U,D⟩,trivial⟩)
  refine⟨_,?_,L,e1.trans ev (by rw[ż]; exact cJ _),by rw[Ì,ż]⟩;simp only[Instr.mapUpdate,Sem.run_bind,run_underlying ht,Result.andThen_ok,jb h2,T];simp[Instr.findKey,run_underlying hd,h6,setObj,Sem.run,h2]
 ·rw[h9];obtain⟨m,E,A,us',N,Y⟩:=Z.get h10
  have q1':f[j]?=some m:=by simpa using E
  obtain⟨L,ev⟩:=fin (f.modify j fun e=>{e with key:=keyVal k a,val:=C}) s (es.set j (a,b)) (by
   rw[Array.toList_modify]
   have:(f.toList.modify j fun e=>{e with key:=keyVal k a,val:=C})=f.toList.set j {m with key:=keyVal k a,val:=C}:=by
    apply List.ext_getElem?
    intro q;rw[List.getElem?_modify,fN]
    by_cases M:j=q
    ·subst M;have I:=(cQ.1 E).1;simp only[if_true,E,I];rfl
    ·simp[M]
   rw[this]
   exact ñ.set j Z ⟨rfl,_,U,D⟩)
  refine⟨_,?_,L,e1.trans ev (by rw[ż]; exact cJ _),by rw[Ì,ż]⟩
  have R:m.key=keyVal k a:=by rw[A,<-aea J h11]
  simp only[Instr.mapUpdate,Sem.run_bind,run_underlying ht,Result.andThen_ok,jb h2,T];simp only[dB] at h6;have hsb:Instr.sameBits 10000 (keyVal k a) (keyVal k a)=true:=QT J a 10000;simp[Instr.findKey,run_underlying hd,h6,q1',R,Instr.keyThatStays,hsb,setObj,Sem.run,h2]
end
end Go.Am
end

noncomputable section
namespace Go.Am
variable [Globs] [Ghost]
section
variable {ν ν':Nat->Value} {h h':w9 Blk} {w w':World} {P:Program}
def VH {t:TypeId} {n o:Nat} {d:TypeDesc} (hd:P.underlying t=some d) (g:szP P t=some n) (us:Array Value) (j:LO d=false->n=1) (k:o+n<=us.size) :
 (part t us o).run P w=.ok (TL (LO d) ((us.toList.drop o).take n)) w:=by
 unfold part;simp only[Sem.run_bind,vR hd,Result.andThen_ok]
 cases e:LO d with
 |true =>
  simp only[if_true,Sem.run_bind,lQ g,Result.andThen_ok,Sem.run_pure,TL];congr 2;apply eW;rw[Array.toList_extract,List.extract_eq_take_drop];congr 1; omega
 |false =>
  have i:=j e;subst i
  have b:o<us.size:=by omega
  have c:us[o]?=some us[o]:=by simp[b]
  have f:us.toList.drop o=us[o]::us.toList.drop (o+1):=by
   rw[du (by simpa using b)]; simp
  simp[c,TL,f]
def agO:∀(n d:Nat) (t:TypeId) (cs M:w9 AV) (rest:w8 Bool) (r:Bool),n<=d->agP P n t cs M rest=some r ->
 ∃e c,rest=some c/\r=(e&&c)/\∃D,P.underlying t=some D/\(LO D=false->cs.length=1)/\∀us ws,ñ (VRc ν h w) cs us->ñ (VRc ν h w) M ws->(Op.equalIn d t (TL (LO D) us) (TL (LO D) ws)).run P w=.ok e w:=by
 intro n
 induction n with
 |zero=>intro d t cs M rest r _ e; cases e
 |succ n ih =>
  intro d t cs M rest r hnd e;obtain⟨d,rfl⟩:∃d',d=d'+1:=⟨d-1,by omega⟩;unfold agP at e
  split at e<;>try (cases e; done)
  ·rename_i B
   split at e<;>try (cases e; done)
   rename_i a b
   split at e<;>try (cases e; done)
   rename_i c;cases e;refine⟨_,c,rfl,rfl,_,B,fun _=>rfl,fun us ws A h2=>?_⟩;obtain⟨u,rfl,K⟩:=A.one;obtain⟨v,rfl,J⟩:=h2.one;have o:u=.bool a:=K.1;have j:v=.bool b:=J.1;subst o j;exact run_equalIn_bool' w d t a b B
  ·rename_i i B
   split at e<;>try (cases e; done)
   rename_i k a k' b
   split at e<;>try (cases e; done)
   rename_i hk _;subst hk
   split at e<;>try (cases e; done)
   rename_i c;cases e;refine⟨_,c,rfl,rfl,_,B,fun _=>rfl,fun us ws A h2=>?_⟩;obtain⟨u,rfl,K⟩:=A.one;obtain⟨v,rfl,J⟩:=h2.one;have o:u=.int k a:=K.1;have j:v=.int k b:=J.1;subst o j;have:=run_equalIn_int w d t k i a b B
   rw[show(a==b)=decide (a=b) from by by_cases hab:a=b<;>simp[hab]] at this
   exact this
  ·rename_i fs B
   split at e<;>try (cases e; done)
   rename_i hst
   have key:∀(l:w9 Field) (r:Bool),eqFs P (agP P n) cs M l rest=some r->∃e c,rest=some c/\r=(e&&c)/\∀us ws:Array Value,ñ (VRc ν h w) cs us.toList->ñ (VRc ν h w) M ws.toList->(Op.eqFields d us ws l).run P w=.ok e w:=by
    intro l
    induction l with
    |nil=>intro r e; exact⟨true,r,e,by simp,fun us ws _ _=>rfl⟩
    |cons f l G =>
     intro r e;unfold eqFs at e
     split at e
     ·rename_i O;obtain⟨Z,c,A,h2,I⟩:=G r e;refine⟨Z,c,A,h2,fun us ws s p=>?_⟩
      have : ¬ (f.name ≠ "_") := by simpa using O
      simp only[Op.eqFields,if_neg this];exact I us ws s p
     ·rename_i O
      split at e<;>try (cases e; done)
      rename_i m H
      split at e<;>try (cases e; done)
      rename_i x y hx hy;obtain⟨o,r1,A,h2,D,X,R,I⟩:=ih d f.type x y _ r (by omega) e;obtain⟨j,r2,h4,h5,h6⟩:=G r1 A;refine⟨o&&j,r2,h4,by rw[h2,h5,Bool.and_assoc],fun us ws s p=>?_⟩;obtain⟨K,J⟩:=ng hx;obtain⟨Y,g4⟩:=ng hy
      have hnn : f.name ≠ "_" := by simpa using O
      have U:∀{l:w9 AV} {us:Array Value} {z:w9 AV},ñ (VRc ν h w) l us.toList->z=(l.drop f.offset).take m->z.length=m->f.offset+m<=us.size\/m=0:=fun {l us z} q o j=>by
       have:=q.length;rw[o] at j;simp at j this;omega
      have C:LO D=false->m=1:=fun g=>by rw[<-J]; exact R g
      have W:∀{l:w9 AV} {us:Array Value} {z:w9 AV},ñ (VRc ν h w) l us.toList->z=(l.drop f.offset).take m->z.length=m->(part f.type us f.offset).run P w=.ok (TL (LO D) ((us.toList.drop f.offset).take m)) w:=fun {l us z} q o j=>by
       rcases U q o j with g|g
       ·exact VH X H us C g
       ·subst g
        have E:LO D=true:=by cases hq:LO D with
         |true=>rfl
         |false=>exact absurd (C hq) (by simp)
        unfold part;simp only[Sem.run_bind,vR X,Result.andThen_ok,E,if_true,lQ H,Sem.run_pure,TL];congr 2;apply Array.ext';simp
      have p1:=W s K J;have p2:=W p Y g4;have T:=I ((us.toList.drop f.offset).take m) ((ws.toList.drop f.offset).take m) (by rw[K]; exact(s.drop _).take _) (by rw[Y]; exact(p.drop _).take _);have S:=h6 us ws s p;simp only[Op.eqFields,if_pos hnn,Sem.run_bind,p1,p2,Result.andThen_ok,T]
      cases o with
      |true=>simp[S]
      |false=>simp
   obtain⟨Z,c,A,h2,I⟩:=key _ r e;refine⟨Z,c,A,h2,_,B,fun g=>by simp[LO] at g,fun us ws s p=>?_⟩
   have g:P.fieldsOf t=fs:=by simp[Program.fieldsOf,B]
   show(Op.equalIn (d+1) t (.agg us.toArray) (.agg ws.toArray)).run P w=_;rw[run_equalIn_struct w d t _ _ (by rw[g]; exact B) hst,g];exact I us.toArray ws.toArray (by simpa using s) (by simpa using p)
  ·rename_i len V B
   split at e<;>try (cases e; done)
   rename_i m H
   have key:∀(l:w9 Nat) (r:Bool),eqIs P (agP P n) V m cs M l rest=some r->∃e c,rest=some c/\r=(e&&c)/\∀us ws:Array Value,ñ (VRc ν h w) cs us.toList->ñ (VRc ν h w) M ws.toList->(Op.eqItems d V m us ws l).run P w=.ok e w:=by
    intro l
    induction l with
    |nil=>intro r e; exact⟨true,r,e,by simp,fun us ws _ _=>rfl⟩
    |cons i l G =>
     intro r e;unfold eqIs at e
     split at e<;>try (cases e; done)
     rename_i x y hx hy;obtain⟨o,r1,A,h2,D,X,R,I⟩:=ih d V x y _ r (by omega) e;obtain⟨j,r2,h4,h5,h6⟩:=G r1 A;refine⟨o&&j,r2,h4,by rw[h2,h5,Bool.and_assoc],fun us ws s p=>?_⟩;obtain⟨K,J⟩:=ng hx;obtain⟨Y,g4⟩:=ng hy
     have U:∀{l:w9 AV} {us:Array Value} {z:w9 AV},ñ (VRc ν h w) l us.toList->z=(l.drop (i*m)).take m->z.length=m->(i*m)+m<=us.size\/m=0:=fun {l us z} q o j=>by
      have:=q.length;rw[o] at j;simp at j this;omega
     have C:LO D=false->m=1:=fun g=>by rw[<-J]; exact R g
     have W:∀{l:w9 AV} {us:Array Value} {z:w9 AV},ñ (VRc ν h w) l us.toList->z=(l.drop (i*m)).take m->z.length=m->(part V us (i*m)).run P w=.ok (TL (LO D) ((us.toList.drop (i*m)).take m)) w:=fun {l us z} q o j=>by
      rcases U q o j with g|g
      ·exact VH X H us C g
      ·subst g
       have E:LO D=true:=by cases hq:LO D with
        |true=>rfl
        |false=>exact absurd (C hq) (by simp)
       unfold part;simp only[Sem.run_bind,vR X,Result.andThen_ok,E,if_true,lQ H,Sem.run_pure,TL];congr 2;apply Array.ext';simp
     have p1:=W s K J;have p2:=W p Y g4;have T:=I ((us.toList.drop (i*m)).take m) ((ws.toList.drop (i*m)).take m) (by rw[K]; exact(s.drop _).take _) (by rw[Y]; exact(p.drop _).take _);have S:=h6 us ws s p;simp only[Op.eqItems,Sem.run_bind,p1,p2,Result.andThen_ok,T]
     cases o with
     |true=>simp[S]
     |false=>simp
   obtain⟨Z,c,A,h2,I⟩:=key _ r e;refine⟨Z,c,A,h2,_,B,fun g=>by simp[LO] at g,fun us ws s p=>?_⟩
   obtain⟨N,L,hsz⟩:∃N,P.info? V=some N/\N.size=m:=by
    unfold szP at H
    split at H
    ·cases H; exact⟨_,‹_›,rfl⟩
    ·cases H
   have hco:P.cellsOf V=m:=by simp[Program.cellsOf,L,hsz]
   show(Op.equalIn (d+1) t (.agg us.toArray) (.agg ws.toArray)).run P w=_;rw[run_equalIn_array w d us.toArray ws.toArray B L,hco];exact I us.toArray ws.toArray (by simpa using s) (by simpa using p)
def aeP {op:BinOp} {t:TypeId} {x y v:AV} {i g:Value} (X Y:Operand) (H:HR ν h w) (e:ag7 P op t x y some=some v) (z:VR ν h w x i) (s:VR ν h w y g) :
 ň P ν h w (do eqGuard op t X Y i g; binOp op t i g) v h:=by
 unfold ag7 at e
 split at e
 ·rename_i k a A b;have f:i=.int k a:=z;have h2:g=.int A b:=s;subst f h2
  split at e
  ·rename_i l B
   have c:(eqGuard op t X Y (.int k a) (.int A b)).run P w=.ok () w:=by cases op<;>simp[eqGuard]
   unfold shK at e
   split at e<;>try (cases e; done)
   rename_i hb
   have hb:¬b<0:=by have:=of_decide_eq_true hb; omega
   split at e
   ·cases e;refine ň.still H (u:=.int k (shlI k a b)) ?_ rfl;rw[Sem.run_bind,c,Result.andThen_ok]
    cases op<;>simp only[UN,Option.some.injEq,reduceCtorEq] at B
    simp[binOp,Op.shift,hb,shlI]
   ·cases e;refine ň.still H (u:=.int k (ir k a b)) ?_ rfl;rw[Sem.run_bind,c,Result.andThen_ok]
    cases op<;>simp only[UN,Option.some.injEq,reduceCtorEq] at B
    simp[binOp,Op.shift,hb,ir]
  rename_i I
  split at e<;>try (cases e; done)
  rename_i K _;subst K
  have c:(eqGuard op t X Y (.int k a) (.int k b)).run P w=.ok () w:=by cases op<;>simp[eqGuard]
  split at e
  ·rename_i r d;cases e;refine ň.still H (u:=.bool r) ?_ rfl;rw[Sem.run_bind,c,Result.andThen_ok]
   cases op<;>simp only[cmpI,reduceCtorEq,Option.some.injEq] at d<;>subst d<;>simp[binOp,Op.intCmp]
  ·split at e
   ·rename_i r d;rw[Qh e];refine ň.still H (u:=.int k (k.wrap r)) ?_ rfl;rw[Sem.run_bind,c,Result.andThen_ok]
    cases op<;>simp only[arI,reduceCtorEq,Option.some.injEq] at d<;>subst d<;>simp[binOp,Op.intArith]
   ·split at e<;>try (cases e; done)
    ·split at e<;>try (cases e; done)
     rename_i hb
     have hb:¬b=0:=by simpa using hb
     rw[Qh e];refine ň.still H (u:=.int k (k.wrap (a.tdiv b))) ?_ rfl;rw[Sem.run_bind,c,Result.andThen_ok];simp[binOp,Op.intDiv,hb]
    ·split at e<;>try (cases e; done)
     rename_i hb
     have hb:¬b=0:=by simpa using hb
     cases e;refine ň.still H (u:=.int k (a.tmod b)) ?_ rfl;rw[Sem.run_bind,c,Result.andThen_ok];simp[binOp,Op.intDiv,hb]
    ·cases e;refine ň.still H (u:=.int k (andI k a b)) ?_ rfl;rw[Sem.run_bind,c,Result.andThen_ok];simp[binOp,Op.intBits,andI,afz]
    ·cases e;refine ň.still H (u:=.int k (orI k a b)) ?_ rfl;rw[Sem.run_bind,c,Result.andThen_ok];simp[binOp,Op.intBits,orI,afz]
    ·cases e;refine ň.still H (u:=.int k (xorI k a b)) ?_ rfl;rw[Sem.run_bind,c,Result.andThen_ok];simp[binOp,Op.intBits,xorI,afz]
    ·cases e;refine ň.still H (u:=.int k (Qj k a b)) ?_ rfl;rw[Sem.run_bind,c,Result.andThen_ok];simp[binOp,Op.intBits,Qj,afz]
 ·rename_i a b;have f:i=.bool a:=z;have h2:g=.bool b:=s;subst f h2
  split at e<;>try (cases e; done)
  rename_i G
  have c:(eqGuard op t X Y (.bool a) (.bool b)).run P w=.ok () w:=by cases op<;>simp[eqGuard]
  have C:(Op.equalIn 10000 t (.bool a) (.bool b)).run P w=.ok (a==b) w:=run_equalIn_bool' w 9999 t a b G
  split at e<;>try (cases e; done)
  ·cases e;refine ň.still H (u:=.bool (a==b)) ?_ rfl;rw[Sem.run_bind,c,Result.andThen_ok];simp[binOp,Op.equal,Op.maxDepth,C]
  ·cases e;refine ň.still H (u:=.bool (!(a==b))) ?_ rfl;rw[Sem.run_bind,c,Result.andThen_ok];simp[binOp,Op.equal,Op.maxDepth,C]
 ·rename_i a b;have f:i=.string a:=z;have h2:g=.string b:=s;subst f h2
  have c:(eqGuard op t X Y (.string a) (.string b)).run P w=.ok () w:=by cases op<;>simp[eqGuard]
  split at e<;>try (cases e; done)
  ·cases e;refine ň.still H (u:=.bool (a.toList==b.toList)) ?_ rfl;rw[Sem.run_bind,c,Result.andThen_ok];simp[binOp,Op.stringOp]
  ·cases e;refine ň.still H (u:=.bool (!(a.toList==b.toList))) ?_ rfl;rw[Sem.run_bind,c,Result.andThen_ok];simp[binOp,Op.stringOp]
  ·split at e<;>try (cases e; done)
   rename_i m;cases e;have m:=of_decide_eq_true m;refine ň.still H (u:=.string (a++b)) ?_ rfl
   have J:¬(((a.size+b.size:Nat):Int)>IntKind.i64.max):=by
    have:IntKind.i64.max=9223372036854775807:=by decide
    omega
   rw[Sem.run_bind,c,Result.andThen_ok];show(Op.stringOp .add a b).run P w=_;unfold Op.stringOp;dsimp only;rw[if_neg J];rfl
 ·rename_i cs R;obtain⟨us,rfl,f⟩:=z;obtain⟨ws,rfl,h2⟩:=s
  split at e<;>try (cases e; done)
  rename_i j
  split at e<;>try (cases e; done)
  rename_i o
  split at e<;>try (cases e; done)
  rename_i r d;obtain⟨T,S,O,E,D,M,L,N⟩:=agO (ν:=ν) (h:=h) (w:=w) 8 10000 t cs R _ r (by omega) d;cases O;rw[Bool.and_true] at E;subst E;have q:=N us.toList ws.toList f h2
  have p:LO D=true:=by rw[M] at j; cases D<;>first|rfl|(simp[aggT] at j; done)
  rw[p] at q
  have q:(Op.equalIn 10000 t (.agg us) (.agg ws)).run P w=.ok r w:=by simpa[TL] using q
  split at e<;>try (cases e; done)
  ·cases e;refine ň.still H (u:=.bool r) ?_ rfl;rw[Sem.run_bind,run_eqGuard_agg w _ t X Y us ws o,Result.andThen_ok,run_eql_struct,q]; rfl
  ·cases e;refine ň.still H (u:=.bool (!r)) ?_ rfl;rw[Sem.run_bind,run_eqGuard_agg w _ t X Y us ws o,Result.andThen_ok,run_neq_struct,q]; rfl
 ·cases e
def ifc_ok {op:BinOp} {t:TypeId} {x v:AV} {c:Value} (X:Operand) (H:HR ν h w) (e:agz P op t x some=some v) (j:VR ν h w x c) :
 ň P ν h w (do eqGuard op t X (.const .nilIface) c .nilIface; binOp op t c .nilIface) v h:=by
 unfold agz at e
 split at e<;>try (cases e; done)
 rename_i ms i
 split at e<;>try (cases e; done)
 rename_i a;obtain⟨l,h0,k⟩:=j
 have key:∀b:Bool,a=b->(Op.equal t c .nilIface).run P w=.ok (!b) w/\(eqGuard op t X (.const .nilIface) c .nilIface).run P w=.ok () w:=by
  intro b hb
  cases b with
  |false =>
   rw[h0 hb];refine⟨?_,?_⟩
   ·show(Op.equalIn (9999+1) t .nilIface .nilIface).run P w=_;generalize 9999=n;rw[Op.equalIn,Sem.run_bind,run_underlying i]; rfl
   ·cases op<;>first|rfl|(cases X<;>rfl)
  |true =>
   obtain⟨tx,u,rfl⟩:=k hb;refine⟨?_,?_⟩
   ·show(Op.equalIn (9999+1) t (.iface tx u) .nilIface).run P w=_;generalize 9999=n;rw[Op.equalIn,Sem.run_bind,run_underlying i]; rfl
   ·cases op<;>rfl
 obtain⟨g,f⟩:=key a rfl
 have d:∀op:BinOp,(op=.eql->binOp op t c .nilIface=(do pure (.bool (<-Op.equal t c .nilIface))))/\(op=.neq->binOp op t c .nilIface=(do pure (.bool !(<-Op.equal t c .nilIface)))):=fun op=>by
  constructor
  ·rintro rfl; cases c<;>rfl
  ·rintro rfl; cases c<;>rfl
 split at e<;>try (cases e; done)
 ·cases e;refine ň.still H (u:=.bool (!a)) ?_ rfl;rw[Sem.run_bind,f,Result.andThen_ok,(d _).1 rfl,Sem.run_bind,g];rfl
 ·cases e;refine ň.still H (u:=.bool a) ?_ rfl;rw[Sem.run_bind,f,Result.andThen_ok,(d _).2 rfl,Sem.run_bind,g];simp
def Zx {op:UnOp} {x v:AV} {c:Value} (H:HR ν h w) (d:VR ν h w x c)
 (e:(match op,x with|.not,.bool b=>some (AV.bool (!b))|.neg,.int k n=>arK k (0-n) some|_,_=>none)=some v):ň P ν h w (Op.unary op c) v h:=by
 split at e<;>try (cases e; done)
 ·cases e;rename_i b d;have:c=.bool b:=d;subst this;exact ň.still H rfl rfl
 ·rename_i k n d;have:c=.int k n:=d;subst this;rw[Qh e];exact ň.still H (u:=.int k (k.wrap (0-n))) rfl rfl
end
end Go.Am
end

noncomputable section
namespace Go.Am
variable [Globs] [Ghost]
section
variable {ν ν':Nat->Value} {h h':w9 Blk} {w w':World} {P:Program}
def Nh (b:AV):∀(as:w9 AV) (h:w9 Blk),ò (yV h as) b=ò h b
 |[],_=>rfl
 |a::as,h=>by rw[yV,Nh b as,EA]
def xN.mono {av c:Nat->Prop} (e:∀b,c b->av b) {t:Ty} {xs:w9 (Val t)} {news:w9 Value} (d:xN w av t xs news):xN w c t xs news :=
 ⟨d.1,fun i x hi=>CR.mono e (d.2 i x hi)⟩
def KN {a:AV} {id:Nat} {h:w9 Blk} (b:lkB h id=.dead):lkB (pO h a) id=.dead:=by
 have key:∀(j g:Nat) (t:Ty) (fz:Bool) (xs:w9 (Val t)),lkB h j=.row t g fz xs->lkB (è h j (.row t g true xs)) id=.dead:=fun j g t fz xs c=>by
  by_cases d:id=j
  ·subst d; rw[b] at c; cases c
  ·rw[Í _ d]; exact b
 cases a<;>try exact b
 all_goals
  simp only[pO]
  split
  ·exact key _ _ _ _ _ ‹_›
  ·exact b
def KJ {id:Nat}:∀(as:w9 AV) {h:w9 Blk},lkB h id=.dead->lkB (yV h as) id=.dead
 |[],_,b=>b
 |_::as,_,b=>KJ as (KN b)
def WR {v:AV} {id:Nat} {h:w9 Blk} (b:lkB h id=.dead):lkB (frz h v) id=.dead:=by
 unfold frz; split
 ·exact KJ _ b
 ·exact KN b
def KK {id:Nat}:∀(ps:w9 (Nat×AV)) {h:w9 Blk},lkB h id=.dead->lkB (frzA h ps) id=.dead
 |[],_,b=>b
 |(_,_)::ps,_,b=>KK ps (WR b)
def VK {h0:w9 Blk} {ty:Ty}:∀(ps:w9 (Nat×AV)) (us:w9 (Nat×Value)) (k:Nat) (c:Array Value) (xs:w9 (Val ty)) (h:w9 Blk),(∀b,ò h b=ò h0 b)->HR ν h w->Im h0 ty k ps=some xs ->
 ñ (fun(a:Nat×AV) (b:Nat×Value)=>a.1=b.1/\VR ν h w a.2 b.2) ps us->(k+ps.length)*ty.size<=c.size ->
 ∃c' news,Instr.fill (fun i=>some (i*ty.size,ty.size)) c us=some c'/\c'.toList=c.toList.take (k*ty.size)++news++c.toList.drop ((k+ps.length)*ty.size)/\xN w (Av ν (frzA h ps)) ty xs news/\xs.length=ps.length /\
  Ev h.length ν h w ν (frzA h ps) w/\HR ν (frzA h ps) w/\(∀b,Av ν (frzA h ps) b->Av ν h b)/\(frzA h ps).length=h.length
 |[],[],k,c,xs,h,g,H,e,_,_=>by
  cases e;exact⟨c,[],rfl,by simp,⟨by simp,fun i x hi=>by simp at hi⟩,rfl,Ev.refl _ _ _ _,H,fun _ hb=>hb,rfl⟩
 |[],_::_,_,_,_,_,_,_,_,d,_=>d.elim
 |_::_,[],_,_,_,_,_,_,_,d,_=>d.elim
 |(i,v)::ps,(j,u)::us,k,c,xs,h,g,H,e,d,T=>by
  obtain⟨⟨B,p⟩,d⟩:=d;simp only at B p; subst B;simp only[Im] at e
  split at e<;>try (cases e; done)
  rename_i A;simp only[cM,beq_iff_eq] at A;obtain⟨rfl,G⟩:=A
  split at e<;>try (cases e; done)
  rename_i cs M
  split at e<;>try (cases e; done)
  rename_i x S
  split at e<;>try (cases e; done)
  rename_i xs' D;cases e;obtain⟨vs,r,rfl⟩:=Ez M;obtain⟨K,J⟩:=abE r h;have L:=p.cells r;have N:=DU H (L.mono fun _ _ q=>q.1) (J G);have t:vs.map (ò h)=vs.map (ò h0):=eG fun b _=>g b;rw[t] at N;have o:=ē S N;obtain⟨R,H1,I⟩:=BA vs H;simp only[frzA,K]
  have f:u.cells.size=ty.size:=by have:=o.length; simpa using this
  have z:(i+1+ps.length)*ty.size<=c.size:=by rw[show i+1+ps.length=i+(ps.length+1) by omega]; simpa using T
  have hi:i*ty.size+ty.size<=c.size:=by
   have:=dv ty.size (show i+1<=i+1+ps.length by omega);rw[dm i 1,fj] at this;omega
  have m:u.cells.toList.length=ty.size:=by simpa using f
  have C:(c.toList.take (i*ty.size)++u.cells.toList++c.toList.drop (i*ty.size+ty.size)).toArray.size=c.size:=by
   simp only[eT,cN,dh,fD,fi,m]; omega
  obtain⟨c',news,Z,h2,Y,X,W,V,O,U⟩:=VK ps us (i+1) (c.toList.take (i*ty.size)++u.cells.toList++c.toList.drop (i*ty.size+ty.size)).toArray xs' (yV h vs)
   (fun b=>(Nh b vs h).trans (g b)) H1 D (d.mono fun _ _ q=>⟨q.1,q.2.ev R⟩) (by rw[C]; exact z)
  refine⟨c',u.cells.toList++news,?_,?_,?_,by simp[X],R.trans W (by rw[ż]; exact cJ _),V,fun b hb=>I b (O b hb),by rw[U,ż]⟩
  ·rw[xz rfl f hi]; exact Z
  ·rw[h2]
   have a1:(c.toList.take (i*ty.size)++u.cells.toList++c.toList.drop (i*ty.size+ty.size)).take ((i+1)*ty.size)=c.toList.take (i*ty.size)++u.cells.toList:=by
    have l:(c.toList.take (i*ty.size)++u.cells.toList).length=(i+1)*ty.size:=by
     rw[cN,dh,fi,m,dm,fj]; omega
    rw[<-l,List.take_left]
   have a2:(c.toList.take (i*ty.size)++u.cells.toList++c.toList.drop (i*ty.size+ty.size)).drop ((i+1+ps.length)*ty.size)=c.toList.drop ((i+(ps.length+1))*ty.size):=by
    have l:(c.toList.take (i*ty.size)++u.cells.toList).length=i*ty.size+ty.size:=by
     rw[cN,dh,fi,m]; omega
    rw[show(i+1+ps.length)*ty.size=(c.toList.take (i*ty.size)++u.cells.toList).length+ps.length*ty.size by rw[l,dm,dm,fj],<-fR,gw,fR];congr 1;rw[dm,dm,fj]; omega
   show(List.take ((i+1)*ty.size) _++news++List.drop ((i+1+ps.length)*ty.size) _)=_;rw[a1,a2];simp
  ·have s:xN w (Av ν (frzA (yV h vs) ps)) ty [x] u.cells.toList:=⟨by simp[f],fun q y E=>by
    cases q with
    |zero =>
     simp at E; subst E;simp only[Nat.zero_mul,f6];rw[dN (by omega)];exact CR.mono O o
    |succ q=>simp at E⟩
   exact s.append Y
def Qb {S:St} {a:Act} {nid n:Nat} {t e:TypeId} {ty:Ty} {ps:Array (Nat×Operand)} {xs:w9 (Val ty)} (H:Sim ν S a w) (s:nid<S.h.length) (hd:lkB S.h nid=.dead) (J:BF P t=some e)
 (d:B5 P e ty.size=true) (f:ps.toList.length=n) (u:n*ty.size<=65536) (D:Im S.h ty 0 (ps.toList.map fun p=>(p.1,ev S.t p.2))=some xs) :
 ň P ν S.h w (Instr.buildSlice t n (ps.map fun(i,x)=>(i,a.eval x))) (.own nid 0) (è (frzA S.h (ps.toList.map fun p=>(p.1,ev S.t p.2))) nid (.row ty 0 false xs)):=by
 obtain⟨i,z,hi,l,r,K,C,B⟩:=ki d;have E:=jl J
 have o:((Array.range (n*ty.size)).map (fun j=>(if n*ty.size=0 then(#[]:Array Value) else z.cells)[j % (if n*ty.size=0 then(#[]:Array Value) else z.cells).size]!)).size=n*ty.size:=by simp
 obtain⟨c',news,N,h2,A,q,M,L,O,k⟩:=VK (ν:=ν) (w:=w) (h0:=S.h) _ (ps.toList.map fun p=>(p.1,a.eval p.2)) 0 ((Array.range (n*ty.size)).map (fun j=>(if n*ty.size=0 then(#[]:Array Value) else z.cells)[j % (if n*ty.size=0 then(#[]:Array Value) else z.cells).size]!)) xs S.h (fun _=>rfl) H.heap D (B8 H ps.toList)
  (by rw[o]; simp only[dP]; rw[f,dB]; exact cJ _)
 rw[dP,f] at h2 q
 have g:c'.toList=news:=by
  rw[h2];simp
 have m:lkB (frzA S.h (ps.toList.map fun p=>(p.1,ev S.t p.2))) nid=.dead:=KK _ hd
 have b:=AY (w':=w.alloc (.cells c' e)) L (id:=nid) (g':=0) (xs':=xs) (cap':=n) (by rw[k]; exact s) (fun V=>by rw[m]; trivial) rfl rfl rfl rfl (by omega) (by
  have:c'.size=news.length:=by rw[<-g]; simp
  rw[this,A.1,q]; exact cJ _) A (fun j v y=>by rw[<-g] at y; simpa using y)
 rw[q] at b;refine⟨_,_,_,?_,vc (by rw[k]; exact s) rfl,b.2,(M.trans b.1 (by rw[k]; exact cJ _)),by rw[Ì,k]⟩
 have G:(ps.map fun(x:Nat×Operand)=>(x.1,a.eval x.2)).toList=ps.toList.map fun p=>(p.1,a.eval p.2):=by simp
 have I:¬(16777216<n*ty.size):=by omega
 have c:Instr.fill (fun i=>some (i*ty.size,ty.size)) ((Array.range (n*ty.size)).map (fun j=>(if n*ty.size=0 then(#[]:Array Value) else z.cells)[j % (if n*ty.size=0 then(#[]:Array Value) else z.cells).size]!)) (ps.map fun(x:Nat×Operand)=>(x.1,a.eval x.2)).toList=some c':=by rw[G]; exact N
 simp only[Instr.buildSlice,Sem.run_bind,run_underlying E,Result.andThen_ok,sizeOf,typeInfo,run_program,hi,Sem.run_pure,l];rw[show(2:Nat) ^ 24=16777216 from rfl,if_neg (by omega:¬n*ty.size>16777216)]
 by_cases h0:n*ty.size=0
 ·simp only[h0,if_true,Sem.run_bind,Sem.run_pure,Result.andThen_ok] at c ⊢
  erw [c]
  simp[newRow]
 ·simp only[h0,if_false,Sem.run_bind,zeroValue,typeInfo,run_program,hi,C,Sem.run_pure,Result.andThen_ok] at c ⊢
  erw [c]
  simp[newRow]
end
end Go.Am
end

noncomputable section
namespace Go.Am
variable [Globs] [Ghost]
section
variable {ν ν':Nat->Value} {h h':w9 Blk} {w w':World} {P:Program}
def upd2 (H:HR ν h w) {i j:Nat} {A B:Blk} {U V:Value} (L:i≠j) (hi:i<h.length) (hj:j<h.length) (X:w'.os=w.os) (C:w'.tape=w.tape) (K:w'.output=w.output)
 (o:w.heap.size<=w'.heap.size)
 (u:∀b,b<w.heap.size->((lkB h i).live=true->¬ģ (ν i) b)->((lkB h j).live=true->¬ģ (ν j) b)->w'.heap[b]?=w.heap[b]?)
 (hU:A.live=true->∀b,ģ U b->((lkB h i).live=true/\ģ (ν i) b)\/((lkB h j).live=true/\ģ (ν j) b)\/w.heap.size<=b)
 (hV:B.live=true->∀b,ģ V b->((lkB h i).live=true/\ģ (ν i) b)\/((lkB h j).live=true/\ģ (ν j) b)\/w.heap.size<=b)
 (z:A.live=true->B.live=true->∀b,ģ U b->ģ V b->False)
 (Z:(lkB h i).next ν (í (í ν i U) j V) i A) (Y:(lkB h j).next ν (í (í ν i U) j V) j B)
 (hbi:Ev h.length ν h w (í (í ν i U) j V) (è (è h i A) j B) w'->BR (í (í ν i U) j V) (è (è h i A) j B) w' i A)
 (hbj:Ev h.length ν h w (í (í ν i U) j V) (è (è h i A) j B) w'->BR (í (í ν i U) j V) (è (è h i A) j B) w' j B) :
 Ev h.length ν h w (í (í ν i U) j V) (è (è h i A) j B) w'/\HR (í (í ν i U) j V) (è (è h i A) j B) w':=by
 have J:lkB (è (è h i A) j B) i=A:=by rw[Í _ L,Ø _ hi]
 have I:lkB (è (è h i A) j B) j=B:=Ø _ (by rw[Ì]; exact hj)
 have lo:∀{m},m≠i->m≠j->lkB (è (è h i A) j B) m=lkB h m:=fun c h2=>by rw[Í _ h2,Í _ c]
 have T:í (í ν i U) j V i=U:=by rw[ú _ _ L,Ê]
 have S:í (í ν i U) j V j=V:=Ê _ _ _
 have y:∀{m},m≠i->m≠j->í (í ν i U) j V m=ν m:=fun c h2=>by rw[ú _ _ h2,ú _ _ c]
 -- who owns a block now owned it, or it is new
 have own:∀m b,(lkB (è (è h i A) j B) m).live=true->ģ (í (í ν i U) j V m) b ->
  (∃q,(lkB h q).live=true/\ģ (ν q) b/\(q=m\/((q=i\/q=j)/\(m=i\/m=j))))\/(w.heap.size<=b/\(m=i\/m=j)):=by
  intro m b f hb
  by_cases c:m=i
  ·subst c;rw[J] at f; rw[T] at hb;rcases hU f b hb with h2|h2|h2
   ·exact .inl ⟨m,h2.1,h2.2,.inl rfl⟩
   ·exact .inl ⟨j,h2.1,h2.2,.inr ⟨.inr rfl,.inl rfl⟩⟩
   ·exact .inr ⟨h2,.inl rfl⟩
  ·by_cases h2:m=j
   ·subst h2;rw[I] at f; rw[S] at hb;rcases hV f b hb with h2|h2|h2
    ·exact .inl ⟨i,h2.1,h2.2,.inr ⟨.inl rfl,.inr rfl⟩⟩
    ·exact .inl ⟨m,h2.1,h2.2,.inl rfl⟩
    ·exact .inr ⟨h2,.inr rfl⟩
   ·rw[lo c h2] at f; rw[y c h2] at hb;exact .inl ⟨m,f,hb,.inl rfl⟩
 have ev:Ev h.length ν h w (í (í ν i U) j V) (è (è h i A) j B) w':=by
  refine⟨X,C,K,o,fun b hb l=>⟨u b hb (fun f M=>l ⟨i,f,M⟩) (fun f M=>l ⟨j,f,M⟩),?_⟩,fun m p=>?_⟩
  ·rintro⟨m,f,M⟩;rcases own m b f M with⟨q,c,h2,_⟩|⟨c,_⟩
   ·exact l ⟨q,c,h2⟩
   ·omega
  ·by_cases c:m=i
   ·subst c; rw[J]; exact Z
   ·by_cases h2:m=j
    ·subst h2; rw[I]; exact Y
    ·rw[lo c h2]
     cases hB:lkB h m with
     |dead=>trivial
     |cells cs=>exact⟨⟨cs,rfl⟩,y c h2⟩
     |row t g fz xs=>exact⟨g,fz,xs,rfl,cJ _,fun _=>⟨y c h2,rfl⟩⟩
     |map k v es=>exact⟨⟨es,rfl⟩,y c h2⟩
     |deep k g xss=>exact⟨g,xss,rfl,cJ _,fun _=>⟨y c h2,rfl⟩⟩
     |acc t xs=>exact⟨xs,rfl⟩
     |fns es=>exact⟨⟨es,rfl⟩,y c h2⟩
     |iter s q=>exact⟨⟨q,rfl⟩,y c h2⟩
 refine⟨ev,fun m=>?_,fun m n b p l e d=>?_,fun b hb=>cX (H.ghlt b hb) o,fun m b f hb hg=>?_,H.globE ev,H.globLE ev⟩
 ·by_cases c:m=i
  ·subst c; rw[J]; exact hbi ev
  ·by_cases h2:m=j
   ·subst h2; rw[I]; exact hbj ev
   ·rw[lo c h2];refine BR.ev ev (H.nd ev) (H.gl ev) (y c h2) (fun b f hb hlt=>u b hlt (fun D E=>c (H.inj m i b f D hb E)) (fun D E=>h2 (H.inj m j b f D hb E))) (H.blk m)
 ·-- one owner alone
  have hd:∀{m n b},(m=i\/m=j)->(n=i\/n=j)->(lkB (è (è h i A) j B) m).live=true->(lkB (è (è h i A) j B) n).live=true->ģ (í (í ν i U) j V m) b->ģ (í (í ν i U) j V n) b->m=n:=by
   intro m n b c h2 p l e d
   rcases c with rfl|rfl<;>rcases h2 with rfl|rfl
   ·rfl
   ·rw[J] at p; rw[I] at l; rw[T] at e; rw[S] at d;exact(z p l b e d).elim
   ·rw[I] at p; rw[J] at l; rw[S] at e; rw[T] at d;exact(z l p b d e).elim
   ·rfl
  rcases own m b p e with⟨q,c,h2,R⟩|⟨c,R⟩
  ·rcases own n b l d with⟨r,N,h5,x⟩|⟨N,x⟩
   ·have W:=H.inj q r b c N h2 h5;subst W;rcases R with rfl|⟨R,O⟩
    ·rcases x with rfl|⟨x,G⟩
     ·rfl
     ·exact hd x G p l e d
    ·rcases x with rfl|⟨x,G⟩
     ·exact hd O R p l e d
     ·exact hd O G p l e d
   ·have:=H.lt ⟨q,c,h2⟩; omega
  ·rcases own n b l d with⟨r,N,h5,x⟩|⟨N,x⟩
   ·have:=H.lt ⟨r,N,h5⟩; omega
   ·exact hd R x p l e d
 ·rcases own m b f hb with⟨q,c,h2,_⟩|⟨c,_⟩
  ·exact H.ghne q b c h2 hg
  ·have:=H.ghlt b hg; omega
def rH {l:w9 Value} {b:Nat}:ģ (.agg l.toArray) b↔∃u∈l,jQ u=some b:=by
 show(∃u∈l.toArray.toList,jQ u=some b)↔_;simp
def adB {k:IntKind} {xss:w9 (w9 Int)} {us:w9 Value} (h:ñ (Vo w k) xss us):∀u∈us,u.oneCell'=true:=by
 intro u b;obtain⟨i,hi,rfl⟩:=dg.1 b;obtain⟨xs,_,base,cap,e,_⟩:=h.get' (cI hi);rw[e]; rfl
def ZZ {k:IntKind} {xss:w9 (w9 Int)} {us:w9 Value} (h:ñ (Vo w k) xss us):∀u∈us,∀b,jQ u=some b->b<w.heap.size:=by
 intro u f b hb;obtain⟨i,hi,rfl⟩:=dg.1 f;obtain⟨xs,_,base,cap,e,_,d⟩:=h.get' (cI hi);rw[e] at hb;rcases d with⟨rfl,_⟩|⟨j,off,c,g,rfl,d,_⟩
 ·cases hb
 ·cases hb; exact ß d
def aet (H:HR ν h w) {nid id g n:Nat} {t e:TypeId} {k:IntKind} {xs:w9 Int} {i:TypeInfo} {z:Value} (r:nid<h.length) (hd:lkB h nid=.dead) (ht:P.underlying t=some (.slice e)) (hi:P.info? e=some i) (K:i.size=1) (hz:i.zero=some z) (hzs:z.cells.size=1)
 (s:lkB h id=.row (.int k) g false xs) (hn:n=1) {R:Value} (J:R=ν id) :
 ň P ν h w (Instr.buildSlice t n #[(0,R)]) (.dp nid 0) (è (è h id (.row (.int k) (g+1) false [])) nid (.deep k 0 [xs])):=by
 subst hn
 have D:id≠nid:=fun e=>by rw[e,hd] at s; cases s
 have L:id<h.length:=Ł s (by simp);have X:=H.blk id;rw[s] at X;obtain⟨base,cap,G,h2,p⟩:=X
 have l:(lkB h id).live=true:=by rw[s]; rfl
 have N:(base=none/\cap=0)\/∃b off c e,base=some ⟨b,off,none⟩/\w.heap[b]?=some (.cells c e (0,0))/\off+cap<=c.size/\∀(j:Nat) (x:Int),xs[j]?=some x->c[off+j]?=some (.int k x):=by
  rcases p with p|⟨b,off,c,O,p,E,M,h6⟩
  ·exact .inl p
  ·refine .inr ⟨b,off,c,O,p,E,by simpa[Ty.size] using M,fun j x hx=>?_⟩;obtain⟨us,Z,Y⟩:=h6 j x hx;have I:us=[.int k x]:=Z;subst I;have:=Y 0 _ rfl;simp only[World.cell?,E] at this;simpa[Ty.size] using this
 have q:(ν id).oneCell'=true:=by rw[G]; rfl
 have d:(w.alloc (.cells #[ν id] e)).heap=w.heap.push (.cells #[ν id] e (0,0)):=rfl
 have f:∀b,b<w.heap.size->(w.alloc (.cells #[ν id] e)).heap[b]?=w.heap[b]?:=fun b hb=>by rw[d,eF]; simp[fq hb]
 obtain⟨ev,hr⟩:=upd2 (w':=w.alloc (.cells #[ν id] e)) (A:=.row (.int k) (g+1) false []) (B:=.deep k 0 [xs]) (U:=.slice none 0 0) (V:=.agg [Value.slice (some ⟨w.heap.size,0,none⟩) 1 1,ν id].toArray) H D L r rfl rfl rfl (by rw[d]; simp)
  (fun b hb _ _=>f b hb) (fun _ b hb=>by cases hb)
  (fun _ b hb=>by
   obtain⟨u,T,hb⟩:=rH.1 hb;simp only[cP,ff,or_false] at T;rcases T with rfl|rfl
   ·cases hb; exact .inr (.inr (cJ _))
   ·exact .inl ⟨l,by rw[G] at hb ⊢; exact hb⟩)
  (fun _ _ b hb _=>by cases hb)
  (by rw[s]; exact⟨g+1,false,[],rfl,fY _,fun hf=>by omega⟩) (by rw[hd]; trivial)
  (fun ev=>⟨none,0,by rw[ú _ _ D,Ê]; rfl,cJ _,.inl ⟨rfl,rfl⟩⟩)
  (fun ev=>by
   have C:(w.alloc (.cells #[ν id] e)).heap[w.heap.size]?=some (.cells #[ν id] e (0,0)):=by rw[d]; simp
   refine⟨some ⟨w.heap.size,0,none⟩,1,[ν id],by rw[Ê]; rfl,by simp,?_,.inr ⟨w.heap.size,0,#[ν id],e,rfl,C,by simp,fun m u W=>?_⟩,⟨base,cap,G,h2,?_⟩,trivial⟩
   ·refine List.Pairwise.cons (fun v S b hb y=>?_) (fB _ _);simp at S;subst S
    obtain rfl:w.heap.size=b:=by simpa[jQ] using hb
    have:=H.lt ⟨id,l,by rw[G] at y ⊢; exact y⟩;omega
   ·cases m with
    |zero=>simpa using W
    |succ m=>simp at W
   ·rcases N with p|⟨b,off,c,O,p,E,M⟩
    ·exact .inl p
    ·exact .inr ⟨b,off,c,O,p,by
      rw[f b (ß E),E],M⟩)
 refine⟨_,w.alloc (.cells #[ν id] e),.slice (some ⟨w.heap.size,0,none⟩) 1 1,?_,⟨rfl,k,0,[xs],?_,cJ _,fun _=>⟨[ν id],Ê _ _ _⟩⟩,hr,ev,by rw[Ì,Ì]⟩
 ·subst J;simp only[Instr.buildSlice,Sem.run_bind,run_underlying ht,Result.andThen_ok,sizeOf,typeInfo,run_program,hi,Sem.run_pure,K];rw[show(2:Nat) ^ 24=16777216 from rfl,if_neg (by omega:¬1*1>16777216)];simp only[fI,Nat.one_ne_zero,if_false,Sem.run_bind,zeroValue,typeInfo,run_program,hi,hz,Sem.run_pure,Result.andThen_ok]
  have o:Instr.fill (fun i=>some (i*1,1)) ((Array.range 1).map (fun j=>z.cells[j % z.cells.size]!)) [(0,ν id)]=some #[ν id]:=by
   have:=xz (place:=fun i=>some (i*1,1)) (cells:=(Array.range 1).map (fun j=>z.cells[j % z.cells.size]!)) (i:=0) (v:=ν id) (rest:=[]) (off:=0) (size:=1) rfl (by have:=pM q; simpa using congrArg List.length this) (by simp);rw[this];have hc:=pM q;simp[Instr.fill,hc]
  simp only[fI] at o
  erw [o]
  simp[newRow]
 ·exact Ø _ (by rw[Ì]; exact r)
def QI (H:HR ν h w) {G:Nat->Prop} {id g:Nat} {k:IntKind} {xss:w9 (w9 Int)} (N:lkB h id=.deep k g xss) {v:Value} (K:∃us,ν id=.agg (v::us).toArray) (O:∀b,ģ (ν id) b->¬G b) :
 CR w G (.slice (.slice (.int k))) xss [v]:=by
 obtain⟨us,s⟩:=K;obtain⟨base,cap,D,A,h2,_,V,U⟩:=H.table N;have z:=A;rw[s] at A;have q:=lF A
 injection q with I E
 subst I E;have own:∀u∈Value.slice base xss.length cap::us,∀b,jQ u=some b->¬G b:=fun u r b hb=>O b (by rw[z]; exact⟨u,by simpa using r,hb⟩);refine⟨base,cap,rfl,h2,?_⟩;rcases V with⟨rfl,rfl⟩|⟨b,off,c,e,rfl,B,X,T⟩
 ·exact .inl (cZ.1 (by omega))
 ·refine .inr ⟨b,off,rfl,own _ (.head _) b rfl,ß B,fun i xs J=>?_⟩;obtain⟨u,r,L⟩:=U.get J;refine⟨[u],?_,fun j y d=>?_⟩
  ·obtain⟨f,p,rfl,S,R⟩:=L;refine⟨f,p,rfl,S,?_⟩;rcases R with⟨rfl,rfl⟩|⟨C,l,Z,Y,rfl,o,W,t⟩
   ·exact .inl (cZ.1 (by omega))
   ·refine .inr ⟨C,l,rfl,own _ (.tail _ (cY r)) C rfl,ß o,fun m x M=>⟨[.int k x],rfl,fun j y d=>?_⟩⟩
    cases j with
    |zero =>
     simp at d;subst d;simp only[World.cell?,o];have:=t m x M;simpa[Ty.size] using this
    |succ j=>simp at d
  ·cases j with
   |zero =>
    simp at d;subst d;simp only[World.cell?,B];have:=T i _ r;simpa[Ty.size] using this
   |succ j=>simp at d
def aes (H:HR ν h w) {nid id g n:Nat} {t e:TypeId} {k:IntKind} {xss:w9 (w9 Int)} {i:TypeInfo} {z:Value} (D:nid<h.length) (hd:lkB h nid=.dead) (ht:P.underlying t=some (.slice e)) (hi:P.info? e=some i) (O:i.size=1) (hz:i.zero=some z) (hzs:z.cells.size=1)
 (I:lkB h id=.deep k g xss) (R:n=1) {d:Value} (s:∃us,ν id=.agg (d::us).toArray) :
 ň P ν h w (Instr.buildSlice t n #[(0,d)]) (.own nid 0) (è (è h id (.deep k (g+1) [])) nid (.row (.slice (.slice (.int k))) 0 false [xss])):=by
 subst R;have K:=s;obtain⟨us,s⟩:=s
 have L:id≠nid:=fun e=>by rw[e,hd] at I; cases I
 have S:id<h.length:=Ł I (by simp)
 have f:(lkB h id).live=true:=by rw[I]; rfl
 have C:d.oneCell'=true:=by
  obtain⟨base,cap,Y,X,_⟩:=H.table I;rw[s] at X;have q:=lF X
  injection q with Z q2
  rw[Z]; rfl
 have l:(w.alloc (.cells #[d] e)).heap=w.heap.push (.cells #[d] e (0,0)):=rfl
 have p:∀b,b<w.heap.size->(w.alloc (.cells #[d] e)).heap[b]?=w.heap[b]?:=fun b hb=>by rw[l,eF]; simp[fq hb]
 have E:(w.alloc (.cells #[d] e)).heap[w.heap.size]?=some (.cells #[d] e (0,0)):=by rw[l]; simp
 obtain⟨ν',o⟩:∃ν',ν'=í (í ν id (.agg [Value.slice none 0 0].toArray)) nid (.slice (some ⟨w.heap.size,0,none⟩) 1 1):=⟨_,rfl⟩;obtain⟨h',M⟩:∃h',h'=è (è h id (.deep k (g+1) [])) nid (.row (.slice (.slice (.int k))) 0 false [xss]):=⟨_,rfl⟩
 have J:∀b,ģ (ν id) b->¬Av ν' h' b:=by
  intro b hb;rintro(⟨m,G,c⟩|hg)
  ·by_cases W:m=nid
   ·subst W;rw[o,Ê] at c;obtain rfl:w.heap.size=b:=Option.some.inj c;have:=H.lt ⟨id,f,hb⟩;omega
   ·rw[o,ú _ _ W] at c;rw[M,Í _ W] at G
    by_cases N:m=id
    ·subst N;rw[Ê] at c;obtain⟨u,y,c⟩:=rH.1 c;simp at y;subst y;cases c
    ·rw[ú _ _ N] at c;rw[Í _ N] at G;exact N (H.inj m id b G f c hb)
  ·exact H.ghne id b f hb hg
 have T:CR (w.alloc (.cells #[d] e)) (Av ν' h') (.slice (.slice (.int k))) xss [d]:=CR.keep (fun b hb R=>⟨p b hb,R⟩) (QI H I K J)
 obtain⟨ev,hr⟩:=upd2 (w':=w.alloc (.cells #[d] e)) (A:=.deep k (g+1) []) (B:=.row (.slice (.slice (.int k))) 0 false [xss]) (U:=.agg [Value.slice none 0 0].toArray) (V:=.slice (some ⟨w.heap.size,0,none⟩) 1 1) H L S D rfl rfl rfl (by rw[l]; simp)
  (fun b hb _ _=>p b hb)
  (fun _ b hb=>by
   obtain⟨u,y,hb⟩:=rH.1 hb;simp at y;subst y
   cases hb)
  (fun _ b hb=>by
   obtain rfl:w.heap.size=b:=Option.some.inj hb
   exact .inr (.inr (cJ _)))
  (fun _ _ b hb _=>by
   obtain⟨u,y,hb⟩:=rH.1 hb;simp at y;subst y
   cases hb)
  (by rw[I]; exact⟨g+1,[],rfl,fY _,fun hf=>by omega⟩) (by rw[hd]; trivial)
  (fun ev=>⟨none,0,[],by rw[ú _ _ L,Ê]; rfl,cJ _,fB _ _,.inl ⟨rfl,rfl⟩,trivial⟩)
  (fun ev=>by
   rw[<-o,<-M];refine⟨some ⟨w.heap.size,0,none⟩,1,by rw[o,Ê]; rfl,by simp,.inr ⟨w.heap.size,0,#[d],e,rfl,E,by simp[Ty.size],fun m x G=>?_⟩⟩
   cases m with
   |zero =>
    simp at G;subst G;refine⟨[d],T,?_⟩;have:=CellsAt.of_cells E;simpa using this
   |succ m=>simp at G)
 refine⟨_,w.alloc (.cells #[d] e),.slice (some ⟨w.heap.size,0,none⟩) 1 1,?_,⟨rfl,.slice (.slice (.int k)),0,false,[xss],?_,cJ _,fun _=>(Ê _ _ _).symm⟩,hr,ev,by rw[Ì,Ì]⟩
 ·simp only[Instr.buildSlice,Sem.run_bind,run_underlying ht,Result.andThen_ok,sizeOf,typeInfo,run_program,hi,Sem.run_pure,O];rw[show(2:Nat) ^ 24=16777216 from rfl,if_neg (by omega:¬1*1>16777216)];simp only[fI,Nat.one_ne_zero,if_false,Sem.run_bind,zeroValue,typeInfo,run_program,hi,hz,Sem.run_pure,Result.andThen_ok]
  have r:Instr.fill (fun i=>some (i*1,1)) ((Array.range 1).map (fun j=>z.cells[j % z.cells.size]!)) [(0,d)]=some #[d]:=by
   have:=xz (place:=fun i=>some (i*1,1)) (cells:=(Array.range 1).map (fun j=>z.cells[j % z.cells.size]!)) (i:=0) (v:=d) (rest:=[]) (off:=0) (size:=1) rfl (by have:=pM C; simpa using congrArg List.length this) (by simp);rw[this];have hc:=pM C;simp[Instr.fill,hc]
  simp only[fI] at r
  erw [r]
  simp[newRow]
 ·exact Ø _ (by rw[Ì]; exact D)
def TW {k:IntKind} {base:w8 Addr} {cap:Nat} {xss:w9 (w9 Int)} {us:w9 Value} (l:ñ (Vo w k) xss us)
 (d:(base=none/\cap=0)\/∃b off c e,base=some ⟨b,off,none⟩/\w.heap[b]?=some (.cells c e (0,0))/\off+cap<=c.size/\∀(i:Nat) (u:Value),us[i]?=some u->c[off+i]?=some u) (o:xss.length<=cap) :
 (∀a,base=some a->∀j u,us[j]?=some u->w.cell? (a.add j)=some u)/\(base=none->us=[]):=by
 constructor
 ·intro a ha j u m;rcases d with⟨d,_⟩|⟨b,off,c,e,d,g,_,f⟩
  ·rw[d] at ha; cases ha
  ·rw[d] at ha; cases ha;rw[Ļ];simp only[World.cell?,g];exact f j u m
 ·intro hb;rcases d with⟨_,d⟩|⟨b,off,c,e,d,_⟩
  ·have:=l.length;exact cZ.1 (by omega)
  ·rw[hb] at d; cases d
def PZ (H:HR ν h w) {j f:Nat} (y:f≠j) (hj:j<h.length) {k:IntKind} {U g':Nat} {xss g:w9 (w9 Int)} (z:lkB h f=.deep k U g) {L:w8 Addr} {T:Nat} {us i:w9 Value} (B:ν f=.agg (Value.slice L g.length T::i).toArray)
 (J:∀W,(lkB h j).next ν W j (.deep k g' (xss++g)))
 (p:ñ (Vo w k) xss us) (D:∀u∈us,∀b,jQ u=some b->(lkB h j).live=true/\ģ (ν j) b) (hap:TJ us)
 {base':w8 Addr} {cap':Nat} {w':World} (O:xss.length+g.length<=cap') (Y:w'.os=w.os) (E:w'.tape=w.tape) (M:w'.output=w.output) (G:w.heap.size<=w'.heap.size)
 (s:∀b,jQ (.slice base' (xss.length+g.length) cap')=some b->((lkB h j).live=true/\ģ (ν j) b/\∀u∈us,jQ u≠some b)\/w.heap.size<=b)
 (r:∀b,b<w.heap.size->jQ (.slice base' (xss.length+g.length) cap')≠some b->w'.heap[b]?=w.heap[b]?)
 (A:(base'=none/\cap'=0)\/∃b off c e,base'=some ⟨b,off,none⟩/\w'.heap[b]?=some (.cells c e (0,0))/\off+cap'<=c.size/\∀(m:Nat) (u:Value),(us++i)[m]?=some u->c[off+m]?=some u) :
 Ev h.length ν h w (í (í ν f (.agg [Value.slice none 0 0].toArray)) j (.agg (Value.slice base' (xss.length+g.length) cap'::(us++i)).toArray)) (è (è h f (.deep k (U+1) [])) j (.deep k g' (xss++g))) w' /\
  HR (í (í ν f (.agg [Value.slice none 0 0].toArray)) j (.agg (Value.slice base' (xss.length+g.length) cap'::(us++i)).toArray)) (è (è h f (.deep k (U+1) [])) j (.deep k g' (xss++g))) w':=by
 have N:f<h.length:=Ł z (by simp);obtain⟨V,cap2',us2',q1,q2,q3,q4,q5⟩:=H.table z;rw[B] at q1;have q:=lF q1
 injection q with e1 e2
 subst e2
 have l:(lkB h f).live=true:=by rw[z]; rfl
 have o:∀u∈i,∀b,jQ u=some b->ģ (ν f) b:=fun u d b hb=>by rw[B]; exact rH.2 ⟨u,by simp[d],hb⟩
 have R:TJ i:=q3.sublist (List.sublist_cons_self _ _)
 have K:∀u∈us,∀v∈i,∀b,jQ u=some b->jQ v≠some b:=fun u d v t b hb X =>
  y (H.inj f j b l (D u d b hb).1 (o v t b X) (D u d b hb).2)
 have S:∀u∈us++i,∀b,jQ (.slice base' (xss.length+g.length) cap')=some b->jQ u≠some b:=fun u d b hb x=>by
  rcases s b hb with⟨h1,h2,C⟩|h1
  ·rcases cO.1 d with d|d
   ·exact C u d x
   ·exact y (H.inj f j b l h1 (o u d b x) h2)
  ·rcases cO.1 d with d|d
   ·have:=ZZ p u d b x; omega
   ·have:=ZZ q5 u d b x; omega
 have I:∀u∈us++i,∀b,jQ u=some b->b<w.heap.size->w'.heap[b]?=w.heap[b]?:=fun u d b hb Z=>r b Z fun t=>S u d b t hb;refine upd2 H y N hj Y E M G (fun b hb h1 h2=>r b hb fun t=>?_) (fun _ b hb=>?_) (fun _ b hb=>?_) (fun _ _ b hb _=>?_) ?_ (J _) (fun ev=>?_) (fun ev=>?_)
 ·rcases s b t with⟨C,h4,_⟩|C
  ·exact h2 C h4
  ·omega
 ·obtain⟨u,d,hb⟩:=rH.1 hb;simp at d;subst d;cases hb
 ·obtain⟨u,d,hb⟩:=rH.1 hb;rcases cP.1 d with rfl|d
  ·rcases s b hb with⟨C,h4,_⟩|C
   ·exact .inr (.inl ⟨C,h4⟩)
   ·exact .inr (.inr C)
  ·rcases cO.1 d with d|d
   ·exact .inr (.inl (D u d b hb))
   ·exact .inl ⟨l,o u d b hb⟩
 ·obtain⟨u,d,hb⟩:=rH.1 hb;simp at d;subst d;cases hb
 ·rw[z]; exact⟨U+1,[],rfl,fY _,fun hf=>by omega⟩
 ·exact⟨none,0,[],by rw[ú _ _ y,Ê]; rfl,cJ _,fB _ _,.inl ⟨rfl,rfl⟩,trivial⟩
 ·refine⟨base',cap',us++i,by rw[Ê,cN],by rw[cN]; exact O,?_,A,?_⟩
  ·rw[cN];exact List.Pairwise.cons (fun v t b hb=>S v t b hb) (gb.2 ⟨hap,R,fun u d v t b hb=>K u d v t b hb⟩)
  ·exact(p.append q5).keepRows I
def Xn {n b:Nat} (c:n<=4294967296) (h2:b<=32768):n*b<=140737488355328:=by
 have:=fQ c h2;omega
def Te (H:HR ν h w) (t ty:TypeId) {e:TypeId} {i:TypeInfo} {z:Value} (ht:P.underlying t=some (.slice e)) (hi:P.info? e=some i) (hz:i.zero=some z) (C:i.size=1) (hby:i.bytes<=32768) (hzs:z.cells.size=1)
 {j r:Nat} (S:r≠j) (hj:j<h.length) {k:IntKind} {g2 g':Nat} {xss d:w9 (w9 Int)} (K:lkB h r=.deep k g2 d) {base p:w8 Addr} {cap s:Nat} {us f:w9 Value} (B:ν r=.agg (Value.slice p d.length s::f).toArray)
 (x:∀W,(lkB h j).next ν W j (.deep k g' (xss++d)))
 (hx:(base=none/\cap=0/\xss=[]/\us=[])\/∃g,lkB h j=.deep k g xss/\ν j=.agg (Value.slice base xss.length cap::us).toArray)
 (I:xss.length+d.length<=4294967296) :
 ∃V w',(Builtin.append_ #[t,t] ty #[.slice base xss.length cap,.slice p d.length s]).run P w=.ok V w'/\V.oneCell'=true /\
  Ev h.length ν h w (í (í ν r (.agg [Value.slice none 0 0].toArray)) j (.agg (V::(us++f)).toArray)) (è (è h r (.deep k (g2+1) [])) j (.deep k g' (xss++d))) w' /\
  HR (í (í ν r (.agg [Value.slice none 0 0].toArray)) j (.agg (V::(us++f)).toArray)) (è (è h r (.deep k (g2+1) [])) j (.deep k g' (xss++d))) w':=by
 obtain⟨base2',cap2',us2',q1,q2,q3,q4,q5⟩:=H.table K;rw[B] at q1;have q:=lF q1
 injection q with U e2
 injection U with U e3 e4
 subst U e2 e4;obtain⟨c2,n2⟩:=TW q5 q4 q2;have l2:=q5.length;have R:=adB q5
 -- the table that grows
 have hX:ñ (Vo w k) xss us/\(∀u∈us,∀b,jQ u=some b->(lkB h j).live=true/\ģ (ν j) b)/\TJ us /\
  ((base=none/\cap=0/\us=[]/\xss=[])\/∃b off c e,base=some ⟨b,off,none⟩/\w.heap[b]?=some (.cells c e (0,0))/\off+cap<=c.size/\xss.length<=cap/\(∀(i:Nat) (u:Value),us[i]?=some u->c[off+i]?=some u)/\((lkB h j).live=true/\ģ (ν j) b/\∀u∈us,jQ u≠some b)):=by
  rcases hx with⟨rfl,rfl,rfl,rfl⟩|⟨g,hl,N⟩
  ·exact⟨trivial,fun u Y=>(by cases Y),List.Pairwise.nil,.inl ⟨rfl,rfl,rfl,rfl⟩⟩
  ·obtain⟨b',c',us',p1,p2,p3,p4,p5⟩:=H.table hl;rw[N] at p1;have q:=lF p1
   injection q with U e2
   injection U with U e3 e4
   subst U e2 e4
   have G:(lkB h j).live=true:=by rw[hl]; rfl
   refine⟨p5,fun u Y b hb=>⟨G,by rw[N]; exact rH.2 ⟨u,by simp[Y],hb⟩⟩,p3.sublist (List.sublist_cons_self _ _),?_⟩;rcases p4 with⟨rfl,rfl⟩|⟨b,off,c,e',rfl,X,p7,p8⟩
   ·have h0:xss=[]:=cZ.1 (by omega);subst h0;exact .inl ⟨rfl,rfl,cZ.1 p5.length.symm,rfl⟩
   ·exact .inr ⟨b,off,c,e',rfl,X,p7,p2,p8,G,by rw[N]; exact rH.2 ⟨_,.head _,rfl⟩,fun u Y hub=>(dD.1 p3).1 u Y b rfl hub⟩
 obtain⟨x1,x2,x3,x4⟩:=hX;have l1:=x1.length
 have hU2:d≠[]->∃a,p=some a:=fun L=>by
  cases hb:p with
  |none=>exact absurd (cZ.1 (by rw[l2,n2 hb]; rfl)) L
  |some a=>exact⟨a,rfl⟩
 -- a new array
 have M:∀E:Nat,∃V w',(Result.ok (Value.slice (some ⟨w.heap.size,0,none⟩) (xss.length+d.length) (grownCap w (xss.length+d.length) E e))
  (w.drew.alloc (.cells (us.toArray++f.toArray++Builtin.zeroCells z.cells (grownCap w (xss.length+d.length) E e-(xss.length+d.length))) e)):Result Value)=.ok V w'/\V.oneCell'=true /\
  Ev h.length ν h w (í (í ν r (.agg [Value.slice none 0 0].toArray)) j (.agg (V::(us++f)).toArray)) (è (è h r (.deep k (g2+1) [])) j (.deep k g' (xss++d))) w' /\
  HR (í (í ν r (.agg [Value.slice none 0 0].toArray)) j (.agg (V::(us++f)).toArray)) (è (è h r (.deep k (g2+1) [])) j (.deep k g' (xss++d))) w':=by
  intro E;have hge:=grownCap_ge w (xss.length+d.length) E e;obtain⟨q,hq⟩:∃q,q=grownCap w (xss.length+d.length) E e:=⟨_,rfl⟩;rw[<-hq] at hge ⊢;obtain⟨cs,A⟩:∃cs,cs=us.toArray++f.toArray++Builtin.zeroCells z.cells (q-(xss.length+d.length)):=⟨_,rfl⟩
  have O:cs.size=q:=by
   rw[A];simp only[gC,eT,size_zeroCells,hzs];omega
  have J:∀(m:Nat) (u:Value),(us++f)[m]?=some u->cs[m]?=some u:=fun m u D=>by
   rw[<-eh] at D;rw[A,eY,if_pos]
   ·simpa using D
   ·have:=(eS.1 D).1;simpa using this
  rw[<-A];have y:(w.drew.alloc (.cells cs e)).heap=w.heap.push (.cells cs e (0,0)):=rfl
  have T:(w.drew.alloc (.cells cs e)).heap[w.heap.size]?=some (.cells cs e (0,0)):=by rw[y]; exact Array.getElem?_push_size
  exact⟨_,_,rfl,rfl,PZ (w':=w.drew.alloc (.cells cs e)) H S hj K B x x1 x2 x3 (base':=some ⟨w.heap.size,0,none⟩) (cap':=q) hge rfl rfl rfl (by rw[y]; simp)
   (fun b hb=>.inr (by cases hb; exact cJ _)) (fun b hb _=>by rw[y,eF]; simp[fq hb]) (.inr ⟨w.heap.size,0,cs,e,rfl,T,by omega,fun m u D=>by rw[dB]; exact J m u D⟩)⟩
 rcases x4 with⟨rfl,rfl,rfl,rfl⟩|⟨b,off,c,e',rfl,X,p7,p8,p9,p10⟩
 ·by_cases L:d=[]
  ·subst L;have hu2:f=[]:=cZ.1 l2.symm;subst hu2;have l:=oQ (P:=P) (w:=w) t ty e i ht hi p s;exact⟨_,w,l,rfl,PZ H S hj K B x x1 x2 x3 (base':=none) (cap':=0) (cJ _) rfl rfl rfl (cJ _) (fun b hb=>by cases hb) (fun b _ _=>rfl) (.inl ⟨rfl,rfl⟩)⟩
  ·have h0:0<d.length:=dX.2 L;obtain⟨a,rfl⟩:=hU2 L;rw[dk,dB] at I;have hb48:=Xn I hby;have l:=run_append_nil (P:=P) w t ty e i z ht hi hz a d.length s f (by rw[C]; omega) (c2 a rfl) h0 (by omega) (by omega);obtain⟨V,w',h1,h2,h3⟩:=M 0;refine⟨V,w',?_,h2,h3⟩;rw[<-h1];simpa using l
 ·by_cases v:xss.length+d.length<=cap
  ·have l:=nr (P:=P) (o:=off) (sLen:=xss.length) (sCap:=cap) t ty e i ht hi X p d.length s f (by rw[C]; omega) c2 n2 R v (by rw[C]; omega);rw[C,fI] at l;obtain⟨cs,A⟩:∃cs,cs=(c.toList.take (off+xss.length)++f++c.toList.drop (off+xss.length+f.length)).toArray:=⟨_,rfl⟩
   have O:cs.size=c.size:=by
    rw[A];simp only[eT,cN,dh,fD,fi];omega
   have J:∀(m:Nat) (u:Value),(us++f)[m]?=some u->cs[off+m]?=some u:=fun m u D=>by
    have hs:=oy c.toList f (off+xss.length) (off+m) (by rw[show c.toList.length=c.size from fi]; omega);rw[A,eh,hs];rw[eR] at D
    split at D
    ·rw[if_pos (by omega)];simpa using p9 m u D
    ·have hml:=(cQ.1 D).1;rw[if_neg (by omega),if_pos (by omega),show off+m-(off+xss.length)=m-us.length by omega];exact D
   rw[<-A] at l;have hh:(w.setRow b cs).heap[b]?=some (.cells cs e' (0,0)):=setRow_heap w b c _ e' _ X
   exact⟨_,_,l,rfl,PZ (w':=w.setRow b cs) H S hj K B x x1 x2 x3 (base':=some ⟨b,off,none⟩) (cap':=cap) v rfl rfl rfl (by rw[tQ]; exact cJ _)
    (fun b' hb=>.inl (by cases hb; exact p10)) (fun b' hb Z=>setRow_other w b b' _ fun he=>Z (by rw[he]; rfl)) (.inr ⟨b,off,cs,e',rfl,hh,by omega,J⟩)⟩
  ·have L:d≠[]:=fun e=>by rw[e,dk] at v; omega
   have h0:0<d.length:=dX.2 L;obtain⟨a,rfl⟩:=hU2 L;have l:=run_append_grow (P:=P) w t ty e i z ht hi hz ⟨b,off,none⟩ xss.length cap us (by rw[C]; omega) (fun m u D=>by rw[Ļ]; simp only[World.cell?,X]; exact p9 m u D) a d.length s f (by rw[C]; omega) (c2 a rfl) (by omega) (by omega) (growslice_fits (by omega) (Xn I hby));obtain⟨V,w',h1,h2,h3⟩:=M cap;exact⟨V,w',l.trans h1,h2,h3⟩
def agV {S:St} {a:Act} {nid n:Nat} {t:TypeId} {ps:Array (Nat×Operand)} {v:AV} (H:Sim ν S a w) (J:nid<S.h.length) (hd:lkB S.h nid=.dead)
 (e:Tc P S.h nid n t (ps.toList.map fun p=>(p.1,ev S.t p.2)) (fun v h=>some (v,h))=some (v,h')):ň P ν S.h w (Instr.buildSlice t n (ps.map fun(i,x)=>(i,a.eval x))) v h':=by
 cases c:ps.toList with
 |nil=>rw[c] at e; cases e
 |cons p l =>
 cases l with
 |cons q l=>rw[c] at e; cases e
 |nil =>
 obtain⟨O,x⟩:=p;rw[c] at e;simp only[dY,fp,Tc] at e;have B:=Đ H x
 cases s:ev S.t x<;>rw[s] at e<;>simp only at e<;>try (cases e; done)
 ·rename_i id g;rw[s] at B
  split at e<;>try (cases e; done)
  rename_i N u
  split at e<;>try (cases e; done)
  rename_i A
  split at e<;>try (cases e; done)
  rename_i k g' xs y
  split at e<;>try (cases e; done)
  rename_i r;cases e;simp only[cM] at A;obtain⟨b,h0,G⟩:=A;obtain rfl:=cR h0;obtain rfl:=cR G
  obtain rfl:g=g':=by simpa using r
  obtain⟨ti,z,hi,m,_,E,C,f⟩:=ki b;have o:ps=#[(0,x)]:=dw.1 (by rw[c]);subst o;obtain⟨_,t2,L,M,K,d,_,j⟩:=B;rw[y] at d;cases d
  have D:((#[(0,x)]:Array (Nat×Operand)).map fun(i,x)=>(i,a.eval x))=#[(0,a.eval x)]:=by simp
  rw[D];exact aet H.heap J hd (jl u) hi m C f y rfl (j rfl)
 ·rename_i id g;rw[s] at B
  split at e<;>try (cases e; done)
  rename_i N u
  split at e<;>try (cases e; done)
  rename_i A
  split at e<;>try (cases e; done)
  rename_i k g' xss y
  split at e<;>try (cases e; done)
  rename_i r;cases e;simp only[cM] at A;obtain⟨b,h0,G⟩:=A;obtain rfl:=cR h0;obtain rfl:=cR G
  obtain rfl:g=g':=by simpa using r
  obtain⟨ti,z,hi,m,_,E,C,f⟩:=ki b;have o:ps=#[(0,x)]:=dw.1 (by rw[c]);subst o;obtain⟨_,R,L,I,d,_,j⟩:=B;rw[y] at d;cases d
  have D:((#[(0,x)]:Array (Nat×Operand)).map fun(i,x)=>(i,a.eval x))=#[(0,a.eval x)]:=by simp
  rw[D];exact aes H.heap J hd (jl u) hi m C f y rfl (j rfl)
def agW {nid:Nat} {t ty:TypeId} {s v:AV} {c R:Nat} {us Z:Value} (H:HR ν h w) (hn:nid<h.length) (hd:lkB h nid=.dead)
 (e:P0 P h nid t s c R (fun v h=>some (v,h))=some (v,h')) (hs:VR ν h w s us) (hx:VR ν h w (.dp c R) Z):ň P ν h w (Builtin.append_ #[t,t] ty #[us,Z]) v h':=by
 unfold P0 at e
 split at e<;>try (cases e; done)
 rename_i el K
 split at e<;>try (cases e; done)
 rename_i r
 split at e<;>try (cases e; done)
 rename_i k O l b
 split at e<;>try (cases e; done)
 rename_i J
 obtain rfl:R=O:=by simpa using J
 obtain⟨ti,z,hi,p,_,B,hz,o⟩:=ki r;have ht:=jl K;have hid2:c<h.length:=Ł b (by simp);obtain⟨_,k2,g3,X,x,_,G⟩:=hx;rw[b] at x; cases x;obtain⟨us2,d⟩:=G rfl;obtain⟨U,cap2,us2',D,_⟩:=H.table b;have q1':=D;rw[d] at D;have q:=lF D
 injection q with T S
 subst T S
 split at e
 ·-- nil
  split at e<;>try (cases e; done)
  rename_i f;cases e;have I:us=.slice none 0 0:=hs;subst I
  have m:c≠nid:=fun e=>by rw[e,hd] at b; cases b
  obtain⟨V,w',N,h2,M,L⟩:=Te H t ty ht hi hz p B o m hn (g':=0) (xss:=[]) (us:=[]) b d (fun W=>by rw[hd]; trivial) (.inl ⟨rfl,rfl,rfl,rfl⟩) (by simp[Ý] at f; simpa using f);refine⟨_,w',V,N,⟨h2,k,0,l,Ø _ (by rw[Ì]; exact hn),cJ _,fun _=>⟨_,Ê _ _ _⟩⟩,L,M,by rw[Ì,Ì]⟩
 ·rename_i id g
  split at e<;>try (cases e; done)
  rename_i A
  split at e<;>try (cases e; done)
  rename_i k' g' xss y
  split at e<;>try (cases e; done)
  rename_i hg
  split at e<;>try (cases e; done)
  rename_i hk _;subst hk
  split at e<;>try (cases e; done)
  rename_i f
  obtain rfl:g=g':=by simpa using hg
  cases e
  have m:c≠id:=fun e=>by rw[e] at A; simp at A
  have j:id<h.length:=Ł y (by simp);obtain⟨_,k3,g4,Y,u,_,E⟩:=hs;rw[y] at u; cases u;obtain⟨C,i⟩:=E rfl;obtain⟨base,cap,us1',p1,_⟩:=H.table y;rw[i] at p1;have q:=lF p1
  injection q with T S
  subst T S;obtain⟨V,w',N,h2,M,L⟩:=Te H t ty ht hi hz p B o m j (g':=g+1) (xss:=xss) (us:=C) b d (fun W=>by rw[y]; exact⟨g+1,xss++l,rfl,fY _,fun hf=>by omega⟩) (.inr ⟨g,y,i⟩) (by simpa[Ý] using f);refine⟨_,w',V,N,⟨h2,_,g+1,xss++l,Ø _ (by rw[Ì]; exact j),cJ _,fun _=>⟨_,Ê _ _ _⟩⟩,L,M,by rw[Ì,Ì]⟩
 ·cases e
end
end Go.Am
end

noncomputable section
namespace Go.Am
variable {ρ:Type}
def BM (k:IntKind) (n:Int) (K:AV->w8 ρ):arK k n K=(arK k n some).bind K:=rfl
def yE (P:Program) (op:BinOp) (t:TypeId) (x y:AV) (K:AV->w8 ρ):ag7 P op t x y K=(ag7 P op t x y some).bind K:=by
 unfold ag7; (repeat' split)<;>first|rfl|exact BM _ _ _|(unfold shK; (repeat' split)<;>rfl)
def ye (d:w8 TypeDesc) (h:w9 Blk) (x:AV) (K:AV->w8 ρ):ac9 d h x K=(ac9 d h x some).bind K:=by
 unfold ac9; (repeat' split)<;>rfl
def oE (sz:Nat) (h:w9 Blk) (x i:AV) (K:AV->w8 ρ):AE sz h x i K=(AE sz h x i some).bind K:=by
 unfold AE; (repeat' split)<;>rfl
def oA (h:w9 Blk) (x:AV) (o:Nat) (K:AV->w8 ρ):vO h x o K=(vO h x o some).bind K:=by
 unfold vO; (repeat' split)<;>rfl
def tq (P:Program) (h:w9 Blk) (t:TypeId) (a:AV) (K:AV->w8 ρ):Kr P h t a K=(Kr P h t a some).bind K:=by
 unfold Kr; (repeat' split)<;>rfl
def ox (P:Program) (h:w9 Blk) (t:TypeId) (a v:AV) (K:w9 Blk->w8 ρ):qf P h t a v K=(qf P h t a v some).bind K:=by
 unfold qf; (repeat' split)<;>rfl
def xT (sz:Nat) (h:w9 Blk) (x:AV) (lo hi:w8 AV) (eat:Bool) (K:AV->w9 Blk->w8 ρ) :
 oO sz h x lo hi eat K=(oO sz h x lo hi eat fun v h=>some (v,h)).bind fun r=>K r.1 r.2:=by
 unfold oO; (repeat' split)<;>rfl
def uT (P:Program) (h:w9 Blk) (nid:Nat) (t:TypeId) (s x:AV) (K:AV->w9 Blk->w8 ρ) :
 uU P h nid t s x K=(uU P h nid t s x fun v h=>some (v,h)).bind fun r=>K r.1 r.2:=by
 unfold uU; (repeat' split)<;>rfl
def Ec (P:Program) (h:w9 Blk) (nid:Nat) (t:TypeId) (s:AV) (id g:Nat) (K:AV->w9 Blk->w8 ρ) :
 P0 P h nid t s id g K=(P0 P h nid t s id g fun v h=>some (v,h)).bind fun r=>K r.1 r.2:=by
 unfold P0; (repeat' split)<;>rfl
def Ea (P:Program) (h:w9 Blk) (nid n:Nat) (t:TypeId) (ps:w9 (Nat×AV)) (K:AV->w9 Blk->w8 ρ) :
 Tc P h nid n t ps K=(Tc P h nid n t ps fun v h=>some (v,h)).bind fun r=>K r.1 r.2:=by
 unfold Tc; (repeat' split)<;>rfl
def xQ (P:Program) (h:w9 Blk) (nid:Nat) (t:TypeId) (s x:AV) (K:AV->w9 Blk->w8 ρ) :
 BO P h nid t s x K=(BO P h nid t s x fun v h=>some (v,h)).bind fun r=>K r.1 r.2:=by
 unfold BO; (repeat' split)<;>rfl
def yB (P:Program) (h:w9 Blk) (t:TypeId) (x:AV) (K:w9 Blk->w8 ρ):Ee P h t x K=(Ee P h t x some).bind K:=by
 unfold Ee; (repeat' split)<;>rfl
def l5 (P:Program) (h:w9 Blk) (t:TypeId) (m i:AV) (ok:Bool) (K:AV->w8 ρ):pv P h t m i ok K=(pv P h t m i ok some).bind K:=by
 unfold pv; (repeat' split)<;>rfl
def jG (P:Program) (h:w9 Blk) (t:TypeId) (m i x:AV) (K:w9 Blk->w8 ρ):ŭ P h t m i x K=(ŭ P h t m i x some).bind K:=by
 unfold ŭ; (repeat' split)<;>rfl
def ς (gt:Bool) (l:w9 AV) (K:AV->w8 ρ):∀x,jy gt x l K=(jy gt x l some).bind K:=by
 induction l with
 |nil=>intro x; rfl
 |cons y l b =>
  intro x
  cases x<;>cases y<;>try rfl
  unfold jy; (repeat' split)<;>first|rfl|exact b _
def acC {α β γ:Type} {x:w8 α} {y:w8 β} {f:α->w8 β} {g:β->w8 γ} {k:α->w8 γ} {z:w8 γ}
 (b:z=x.bind k) (h2:y=x.bind f) (h:∀a,k a=(f a).bind g):z=y.bind g:=by
 subst b h2; cases x with
 |none=>rfl
 |some a=>exact h a
def yl (P:Program) (op:BinOp) (t:TypeId) (x:AV) (K:AV->w8 ρ):agz P op t x K=(agz P op t x some).bind K:=by
 unfold agz; (repeat' split)<;>rfl
def i7 (s:ByteArray) (j:Int) (K:AV->w8 ρ):oK s j K=(oK s j some).bind K:=by
 unfold oK; (repeat' split)<;>rfl
def i6 (s:ByteArray) (lo hi:w8 AV) (K:AV->w8 ρ):oJ s lo hi K=(oJ s lo hi some).bind K:=by
 unfold oJ; (repeat' split)<;>rfl
def oI (h:w9 Blk) (x:AV) (K:AV->w8 ρ):AQ h x K=(AQ h x some).bind K:=by
 unfold AQ; (repeat' split)<;>rfl
def ym (s:ByteArray) (K:w8 AV->w8 ρ):∀es:w9 (ByteArray×AV),AG s es K=(AG s es some).bind K
 |[]=>rfl
 |e::es=>by
  unfold AG
  split
  ·rfl
  ·exact ym s K es
def l6 (P:Program) (h:w9 Blk) (t:TypeId) (id:Nat) (i:AV) (ok:Bool) (K:AV->w8 ρ):rP P h t id i ok K=(rP P h t id i ok some).bind K:=by
 unfold rP; (repeat' split)<;>first|rfl|exact acC (ym _ _ _) (ym _ _ _) fun _=>by(repeat' split)<;>rfl
def jH (P:Program) (h:w9 Blk) (t:TypeId) (id:Nat) (i x:AV) (K:w9 Blk->w8 ρ):Ů P h t id i x K=(Ů P h t id i x some).bind K:=by
 unfold Ů; (repeat' split)<;>rfl
def Cm (h:w9 Blk) (x:AV) (K:AV->w9 Blk->w8 ρ):O9 h x K=(O9 h x fun v h'=>some (v,h')).bind fun r=>K r.1 r.2:=by
 unfold O9; (repeat' split)<;>rfl
def opR (P:Program) (S:St) (nid:Nat) (eat:Bool) (o:Op):w8 (AV×St):=opK P S nid eat o fun v S=>some (v,S)
def Ģ {α β γ:Type} {x:w8 α} {y:w8 β} {f:α->w8 β} {g:β->w8 γ} {k:α->w8 γ} {z:w8 γ}
 (b:z=x.bind k) (h2:y=x.bind f) (h:∀a,k a=(f a).bind g):z=y.bind g:=by
 subst b h2; cases x with
 |none=>rfl
 |some a=>exact h a
def hZ (j:Int) (K:Nat->w8 ρ):∀(n q:Nat),LU n q j K=(LU n q j some).bind K
 |0,_=>rfl
 |n+1,q=>by
  unfold LU
  split
  ·rfl
  ·exact hZ j K n (q+1)
def EG {j:Int} {v:Nat}:∀{n q:Nat},LU n q j some=some v->j=(v:Int)/\q<=v/\v<q+n
 |0,_,h=>by cases h
 |n+1,q,h=>by
  unfold LU at h
  split at h
  ·rename_i hd;cases h;exact⟨of_decide_eq_true hd,cJ _,by omega⟩
  ·obtain⟨b,h2,c⟩:=EG h;exact⟨b,by omega,by omega⟩
def O6 (P:Program) (S:St) (nid:Nat) (eat:Bool) (o:Op) (K:AV->St->w8 ρ) :
 opK P S nid eat o K=(opR P S nid eat o).bind fun r=>K r.1 r.2:=by
 unfold opR;unfold opK;dsimp only
 (repeat' split)<;>first
  |rfl
  |exact Ģ (ye ..) (ye ..) fun _=>rfl
  |exact Ģ (tq ..) (tq ..) fun _=>rfl
  |exact Ģ (ox ..) (ox ..) fun _=>rfl
  |exact Ģ (yE ..) (yE ..) fun _=>rfl
  |exact Ģ (jG ..) (jG ..) fun _=>rfl
  |exact Ģ (l5 ..) (l5 ..) fun _=>rfl
  |exact Ģ (uT ..) (uT ..) fun _=>rfl
  |exact Ģ (Ec ..) (Ec ..) fun _=>rfl
  |exact Ģ (Ea ..) (Ea ..) fun _=>rfl
  |exact Ģ (xQ ..) (xQ ..) fun _=>rfl
  |exact Ģ (yB ..) (yB ..) fun _=>rfl
  |exact Ģ (ς _ _ _ _) (ς _ _ _ _) fun _=>rfl
  |exact Ģ (BM ..) (BM ..) fun _=>rfl
  |exact Ģ (xT ..) (xT ..) fun _=>rfl
  |exact Ģ (oA ..) (oA ..) fun _=>rfl
  |exact Ģ (oE ..) (oE ..) fun _=>rfl
  |exact Ģ (yl ..) (yl ..) fun _=>rfl
  |exact Ģ (i7 ..) (i7 ..) fun _=>rfl
  |exact Ģ (i6 ..) (i6 ..) fun _=>rfl
  |exact Ģ (oI ..) (oI ..) fun _=>rfl
  |exact Ģ (l6 ..) (l6 ..) fun _=>rfl
  |exact Ģ (jH ..) (jH ..) fun _=>rfl
  |exact Ģ (Cm ..) (Cm ..) fun _=>rfl
  |exact Ģ (hZ ..) (hZ ..) fun _=>rfl
  |exact Ģ (hZ ..) (hZ ..) fun _=>by(repeat' split)<;>rfl
end Go.Am
end

noncomputable section
namespace Go.Am
variable [Globs] [Ghost]
section
variable {ν ν':Nat->Value} {h h':w9 Blk} {w w':World} {P:Program}
def TZ {t:TypeId} {s:ByteArray} {k:IntKind} {j:Int} {v:AV} (H:HR ν h w) (c:P.underlying t=some .string) (e:oK s j some=some v):ň P ν h w (Instr.index t (.string s) (.int k j)) v h:=by
 unfold oK at e
 split at e<;>try (cases e; done)
 rename_i h0;have h0:=of_decide_eq_true h0
 split at e<;>try (cases e; done)
 rename_i b hb;cases e;refine ň.still H (u:=.int .u8 b.toNat) ?_ rfl;simp only[Instr.index,asIntOf,Sem.run_bind,Sem.run_pure,Result.andThen_ok,run_underlying c];rw[if_pos h0,hb];rfl
def oP {t:TypeId} {s:ByteArray} {lo hi:w8 Value} (b:P.underlying t=some .string):(Instr.sliceAt t (.string s) lo hi none).run P w=(Instr.slice t (.string s) lo hi none).run P w:=by
 simp only[Instr.sliceAt,Sem.run_bind,run_underlying b,Result.andThen_ok]
def TY {t:TypeId} {s:ByteArray} {lo hi:w8 AV} {b c:w8 Value} {v:AV} (H:HR ν h w) (g:P.underlying t=some .string) (e:oJ s lo hi some=some v)
 (o:∀y,lo=some y->∃u,b=some u/\VR ν h w y u) (h2:lo=none->b=none) (j:∀y,hi=some y->∃u,c=some u/\VR ν h w y u) (p:hi=none->c=none):ň P ν h w (Instr.sliceAt t (.string s) b c none) v h:=by
 unfold oJ at e
 split at e
 ·rename_i k l i m;obtain⟨_,rfl,f⟩:=o _ rfl;obtain⟨_,rfl,d⟩:=j _ rfl;have f:_=Value.int k l:=f;have d:_=Value.int i m:=d;subst f d
  split at e<;>try (cases e; done)
  rename_i hb;simp only[cM,decide_eq_true_eq] at hb;cases e;refine ň.still H (u:=.string (s.extract l.toNat m.toNat)) ?_ rfl;rw[oP g,run_slice_string w t s k i l m g hb.1 hb.2.1 hb.2.2]
 ·rename_i k l;obtain⟨_,rfl,f⟩:=o _ rfl;have f:_=Value.int k l:=f;subst f;obtain rfl:=p rfl
  split at e<;>try (cases e; done)
  rename_i hb;simp only[cM,decide_eq_true_eq] at hb;cases e;refine ň.still H (u:=.string (s.extract l.toNat s.size)) ?_ rfl;rw[oP g,run_slice_string_from_if w t s k l g,if_pos hb]
 ·rename_i k m;obtain⟨_,rfl,d⟩:=j _ rfl;have d:_=Value.int k m:=d;subst d;obtain rfl:=h2 rfl
  split at e<;>try (cases e; done)
  rename_i hb;simp only[cM,decide_eq_true_eq] at hb;cases e;refine ň.still H (u:=.string (s.extract 0 m.toNat)) ?_ rfl;rw[oP g,run_slice_string_to_if w t s k m g,if_pos hb]
 ·cases e
def adk {t:TypeId} (h:u8T P t=true):P.underlying t=some (.int .u8):=by
 unfold u8T at h
 split at h
 ·assumption
 ·cases h
def aeO {d f e:TypeId} {x v:AV} {o:Value} (H:HR ν h w) (p:P.underlying d=some (.slice e)) (hd:P.underlying f=some .string) (s:P.underlying e=some (.int .u8)) (B:VR ν h w x o) (j:AQ h x some=some v):ň P ν h w (convert d f o) v h:=by
 unfold AQ at j
 split at j<;>try (cases j; done)
 rename_i id g
 split at j<;>try (cases j; done)
 rename_i g' xs r
 split at j<;>try (cases j; done)
 rename_i E;cases j;obtain⟨K,t,O,fz,z,k,D,C⟩:=B;rw[r] at k; cases k;have m:=C (eq_of_beq E);have y:=H.blk id;rw[r] at y;obtain⟨base,cap,J,h2,I⟩:=y;refine ň.still H (u:=.string (acB xs)) ?_ rfl;rw[m,J];rcases I with⟨rfl,L⟩|⟨b,off,c,q,rfl,N,M,G⟩
 ·have:xs=[]:=cZ.1 (by omega);subst this;exact run_convert_bytes_nil w d e p s _ _ f hd
 ·refine run_convert_bytes_arg w d e p s b off xs.length cap xs rfl (fun i hi=>?_) f hd;obtain⟨us,l,A⟩:=G i xs[i] (cI hi);have l:us=[Value.int .u8 xs[i]]:=l;subst l;have:=A 0 _ rfl;rw[dZ,cI hi];simpa[Ty.size] using this
def VG {a b:ByteArray}:T5 a b=true↔a=b:=by
 unfold T5;rw[decide_eq_true_eq];constructor
 ·intro h;exact ByteArray.ext (eW h)
 ·rintro rfl; rfl
def adx (a b:ByteArray):(a==b)=T5 a b:=by
 have h:(a==b)=(a.data==b.data):=rfl;rw[h,fX,beq_iff_eq,VG];exact⟨fun h=>ByteArray.ext h,fun h=>by rw[h]⟩
def QJ {t:TypeId} (h:strT P t=true):P.underlying t=some .string:=by
 unfold strT at h
 split at h
 ·assumption
 ·cases h
def B4 {t:TypeId} {s:ByteArray} {empty:Bool} (b:P.underlying t=some .string) (m:Nat):(Instr.checkKey empty (m+1) t (.string s)).run P w=.ok () w:=by
 simp[Instr.checkKey,run_underlying b]
abbrev Qn (ν:Nat->Value) (h:w9 Blk) (w:World) (es:w9 (ByteArray×AV)) (ms:w9 MapEntry):Prop :=
 ñ (fun(e:ByteArray×AV) (m:MapEntry)=>m.key=.string e.1/\e.2.isFn=true/\VR1 ν h w e.2 m.val) es ms
def KR {s:ByteArray}:∀(es:w9 (ByteArray×AV)) (ms:w9 MapEntry) (i:Nat),Qn ν h w es ms ->
 (AG s es some=some none/\Instr.findNow .string (.string s) ms i=some none/\Og s es=true) \/
 ∃v u j,AG s es some=some (some v)/\Instr.findNow .string (.string s) ms i=some (some (j,u))/\v.isFn=true/\VR1 ν h w v u/\Og s es=false
 |[],[],i,_=>.inl ⟨rfl,rfl,rfl⟩
 |[],_::_,_,c=>c.elim
 |_::_,[],_,c=>c.elim
 |e::es,m::ms,i,c=>by
  obtain⟨⟨q,h2,p⟩,c⟩:=c
  have d:Instr.sameNow .string (.string s) m.key=some (T5 s e.1):=by rw[q,<-adx]; rfl
  cases b:T5 s e.1 with
  |true =>
   rw[b] at d;exact .inr ⟨e.2,m.val,i,by simp[AG,b],by simp[Instr.findNow,d],h2,p,by simp[Og,b]⟩
  |false =>
   rw[b] at d;rcases KR (s:=s) es ms (i+1) c with⟨k,g,f⟩|⟨v,u,j,k,g,f,o,l⟩
   ·exact .inl ⟨by simp[AG,b,k],by simp[Instr.findNow,d,g],by unfold Og at f ⊢; rw[List.all_cons,f,b]; rfl⟩
   ·exact .inr ⟨v,u,j,by simp[AG,b,k],by simp[Instr.findNow,d,g],f,o,by unfold Og at l ⊢; rw[List.all_cons,l]; simp⟩
def abL (H:HR ν h w) {id:Nat} {es:w9 (ByteArray×AV)} {um:Value} (k:lkB h id=.fns es) (i:VR ν h w (.ofn id) um) :
 ∃(b:Nat) (c:Array MapEntry) (d:Nat),um=.map (some b)/\ν id=.map (some b)/\w.heap[b]?=some (.map c d)/\Qn ν h w es c.toList:=by
 obtain⟨_,m,j,g⟩:=i;have e:=H.blk id;rw[k] at e;obtain⟨b,c,d,f,h2,l⟩:=e;exact⟨b,c,d,by rw[g,f],f,h2,l⟩
def Yw {t:TypeId} {id:Nat} {i v:AV} {um x:Value} {ok:Bool} (H:HR ν h w) (e:rP P h t id i ok some=some v) (L:VR ν h w (.ofn id) um) (hi:VR ν h w i x):ň P ν h w (Instr.lookup t um x ok) v h:=by
 unfold rP at e
 split at e<;>try (cases e; done)
 rename_i K et I
 split at e<;>try (cases e; done)
 rename_i z g
 split at e<;>try (cases e; done)
 rename_i s es A M;have C:=QJ A;have hi:x=.string s:=hi;subst hi;obtain⟨b,c,G,rfl,_,hb,R⟩:=abL H M L
 cases d:P.info? et with
 |none=>simp[d] at g
 |some l =>
 cases f:l.zero with
 |none=>simp[d,f] at g
 |some p =>
 simp only[d,f,ee,dQ,Option.some.injEq] at g;subst g;have m:∀em,(Instr.checkKey em 10000 K (.string s)).run P w=.ok () w:=fun em=>B4 C 9999
 have run:(∀y j,Instr.findNow .string (.string s) c.toList 0=some (some (j,y))->(Instr.lookup t (.map (some b)) (.string s) ok).run P w=.ok (if ok then .tuple #[y,.bool true] else y) w) /\
  (Instr.findNow .string (.string s) c.toList 0=some none->(Instr.lookup t (.map (some b)) (.string s) ok).run P w=.ok (if ok then .tuple #[p,.bool false] else p) w):=by
  constructor
  ·intro y j D;simp only[Instr.lookup,Sem.run_bind,run_underlying I,Result.andThen_ok,Sem.run_pure,jb hb,m];simp[Instr.findKey,run_underlying C,D]
  ·intro D;simp only[Instr.lookup,Sem.run_bind,run_underlying I,Result.andThen_ok,Sem.run_pure,jb hb,m];simp[Instr.findKey,run_underlying C,D,zeroValue,typeInfo,d,f]
 have k:∀{V:AV} {U:Value} {B:Bool},V.isTup=false->VR ν h w V U->VR ν h w (.tup [V,.bool B]) (.tuple #[U,.bool B]):=fun {V U B} r N=>by
  refine⟨#[U,.bool B],rfl,?_,rfl,trivial⟩
  rwa [uV r] at N
 rw[ym] at e;rcases KR (s:=s) es c.toList 0 R with⟨E,o,_⟩|⟨q,u,j,E,o,J,S,_⟩
 ·rw[E] at e;dsimp only[Option.bind_some] at e;have g:=Tg (ν:=ν) (h:=h) (w:=w) p
  cases ok with
  |false=>cases e; exact ň.still H (run.2 o) g
  |true=>cases e; exact ň.still H (run.2 o) (k (Tf p) g)
 ·rw[E] at e;dsimp only[Option.bind_some] at e
  have r:VR ν h w q u:=by
   cases q<;>try cases J
   exact S
  have O:q.isTup=false:=by cases q<;>first|rfl|cases J
  cases ok with
  |false=>cases e; exact ň.still H (run.1 _ _ o) r
  |true=>cases e; exact ň.still H (run.1 _ _ o) (k O r)
def Yi {nid:Nat} {t:TypeId} (H:HR ν h w) (c:nid<h.length) (hd:lkB h nid=.dead):ň P ν h w (Instr.makeMap t none) (.ofn nid) (è h nid (.fns [])):=by
 obtain⟨ev,d⟩:=Ev.new (w':=w.alloc (.map #[] 0)) (o:=.map #[] 0) H (id:=nid) (B:=.fns []) (V:=.map (some w.heap.size)) c hd rfl rfl rfl rfl (fun b hb=>by cases hb; rfl) fun ev =>
  ⟨w.heap.size,#[],0,Ê _ _ _,heap_alloc_new w _,trivial⟩
 refine⟨_,_,.map (some w.heap.size),?_,⟨rfl,[],Ø _ c,(Ê _ _ _).symm⟩,d,ev,Ì _ _ _⟩;simp[Instr.makeMap]
def Z9 {nid:Nat} {t:TypeId} {s:ByteArray} (H:HR ν h w) (c:nid<h.length) (hd:lkB h nid=.dead) (d:P.underlying t=some .string):ň P ν h w (Instr.range t (.string s)) (.oit nid) (è h nid (.iter s 0)):=by
 obtain⟨ev,e⟩:=Ev.new (w':=w.alloc (.stringIter s 0)) (o:=.stringIter s 0) H (id:=nid) (B:=.iter s 0) (V:=.pointer (some ⟨w.heap.size,0,none⟩)) c hd rfl rfl rfl rfl (fun b hb=>by cases hb; rfl) fun ev =>
  ⟨w.heap.size,Ê _ _ _,heap_alloc_new w _,eN 0⟩
 refine⟨_,_,.pointer (some ⟨w.heap.size,0,none⟩),?_,⟨rfl,s,0,Ø _ c,(Ê _ _ _).symm⟩,e,ev,Ì _ _ _⟩;simp[Instr.range,Sem.run_bind,run_underlying d]
def ago (w:World) (k:Nat) (s:ByteArray) (b:Nat) (ty:TypeId) (c:w.heap[k]?=some (.stringIter s b)) (h:b<s.size) :
 (Instr.next (.pointer (some ⟨k,0,none⟩)) true ty).run P w =
  .ok (.tuple #[.bool true,.int .i64 b,.int .i32 (Utf8.decode s b).1]) {w with heap:=w.heap.setIfInBounds k (.stringIter s (b+(Utf8.decode s b).2))}:=by
 simp only[Instr.next,getObj,setObj,Sem.run_bind,Sem.run,c,Result.andThen,h,if_true];simp[goInt]
def adO (w:World) (k:Nat) (s:ByteArray) (b:Nat) (ty:TypeId) (c:w.heap[k]?=some (.stringIter s b)) (h:¬b<s.size) :
 (Instr.next (.pointer (some ⟨k,0,none⟩)) true ty).run P w=.ok (.tuple #[.bool false]) w:=by
 simp[Instr.next,getObj,Sem.run,c,h]
def agn {x v:AV} {u:Value} {ty:TypeId} (H:HR ν h w) (e:(O9 h x fun v h'=>some (v,h'))=some (v,h')) (o:VR ν h w x u):ň P ν h w (Instr.next u true ty) v h':=by
 unfold O9 at e
 split at e<;>try (cases e; done)
 rename_i id
 split at e<;>try (cases e; done)
 rename_i s p d;obtain⟨G,s',E,A,t⟩:=o;subst t;have m:=H.blk id;rw[d] at m;obtain⟨b,g,h2,D⟩:=m;have f:id<h.length:=Ł d (by simp);have j:=ß h2;have z:(p.toNat:Int)=p:=gi D
 split at e
 ·rename_i hd;cases e;have hd:=of_decide_eq_true hd;rw[lT] at hd
  have y:p.toNat<s.size:=by omega
  have r:(p+widI s p).toNat=p.toNat+(Utf8.decode s p.toNat).2:=by unfold widI; omega
  have c:∀q,q<w.heap.size->((lkB h id).live=true->¬ģ (ν id) q)->({w with heap:=w.heap.setIfInBounds b (.stringIter s (p.toNat+(Utf8.decode s p.toNat).2))}:World).heap[q]?=w.heap[q]?:=fun q _ i=>by
   have:b≠q:=fun C=>i (by rw[d]; rfl) (by rw[g,C]; rfl);simp[dL,this]
  have l:(Blk.iter s (p+widI s p)).live=true->∀q,ģ (ν id) q->((lkB h id).live=true/\ģ (ν id) q)\/w.heap.size<=q:=fun _ q i=>.inl ⟨by rw[d]; rfl,i⟩;have ev:=Ev.upd H (B:=.iter s (p+widI s p)) (V:=ν id) (w':={w with heap:=w.heap.setIfInBounds b (.stringIter s (p.toNat+(Utf8.decode s p.toNat).2))}) f rfl rfl rfl (by simp) c l (by rw[d]; exact⟨⟨_,rfl⟩,Ê _ _ _⟩);have k:=HR.upd H f ev c l ⟨b,(Ê _ _ _).trans g,by rw[r]; simp[j],by unfold widI; omega⟩;rw[ja] at ev k;refine⟨ν,_,_,by rw[g]; exact ago w b s p.toNat ty h2 y,⟨#[.bool true,.int .i64 p.toNat,.int .i32 (Utf8.decode s p.toNat).1],rfl,rfl,congrArg (Value.int .i64) z,rfl,trivial⟩,k,ev,Ì _ _ _⟩
 ·rename_i hd;cases e;have hd:=of_decide_eq_false hd;rw[lT] at hd;exact ň.still H (by rw[g]; exact adO w b s p.toNat ty h2 (by omega)) ⟨#[.bool false],rfl,rfl,trivial⟩
def Co {t:TypeId} {id:Nat} {i x:AV} {um o f:Value} (H:HR ν h w) (e:Ů P h t id i x some=some h') (N:VR ν h w (.ofn id) um) (hi:VR ν h w i o) (L:VR ν h w x f) :
 ∃w',(Instr.mapUpdate t um o f).run P w=.ok () w'/\HR ν h' w'/\Ev h.length ν h w ν h' w'/\h'.length=h.length:=by
 unfold Ů at e
 split at e<;>try (cases e; done)
 rename_i K et M
 split at e<;>try (cases e; done)
 rename_i s es r j
 split at e<;>try (cases e; done)
 rename_i z;simp only[cM] at z;cases e;have D:=QJ r;have hi:o=.string s:=hi;subst hi;obtain⟨m,b,c,rfl,J,h2,G⟩:=abL H j N;have k:id<h.length:=Ł j (by simp);have v:=ß h2
 have l:x.isFn=true:=by cases x<;>first|rfl|cases z.2
 have p:VR1 ν h w x f:=by
  cases x<;>try cases l
  exact L
 have y:∀em,(Instr.checkKey em 10000 K (.string s)).run P w=.ok () w:=fun em=>B4 D 9999
 have g:Instr.findNow .string (.string s) b.toList 0=some none:=by
  rcases KR (s:=s) es b.toList 0 G with⟨_,R,_⟩|⟨_,_,_,_,_,_,_,I⟩
  ·exact R
  ·rw[z.1] at I; cases I
 have d:∀q,q<w.heap.size->((lkB h id).live=true->¬ģ (ν id) q)->({w with heap:=w.heap.setIfInBounds m (.map (b.push {key:=.string s,val:=f,born:=c}) (c+1))}:World).heap[q]?=w.heap[q]?:=fun q _ u=>by
  have:m≠q:=fun O=>u (by rw[j]; rfl) (by rw[J,O]; rfl);simp[dL,this]
 have E:(Blk.fns (es++[(s,x)])).live=true->∀q,ģ (ν id) q->((lkB h id).live=true/\ģ (ν id) q)\/w.heap.size<=q:=fun _ q u=>.inl ⟨by rw[j]; rfl,u⟩;have ev:=Ev.upd H (B:=.fns (es++[(s,x)])) (V:=ν id) (w':={w with heap:=w.heap.setIfInBounds m (.map (b.push {key:=.string s,val:=f,born:=c}) (c+1))}) k rfl rfl rfl (by simp) d E (by rw[j]; exact⟨⟨_,rfl⟩,Ê _ _ _⟩)
 have A:Qn ν h w (es++[(s,x)]) (b.push {key:=.string s,val:=f,born:=c}).toList:=by
  rw[Array.toList_push];exact ñ.append G ⟨⟨rfl,l,p⟩,trivial⟩
 have C:=HR.upd H k ev d E ⟨m,b.push {key:=.string s,val:=f,born:=c},c+1,(Ê _ _ _).trans J,by simp[v],A.mono fun _ _ q=>⟨q.1,q.2.1,q.2.2.ev ev⟩⟩;rw[ja] at ev C;refine⟨_,?_,C,ev,Ì _ _ _⟩;simp only[Instr.mapUpdate,Sem.run_bind,run_underlying M,Result.andThen_ok,jb h2,y];simp[Instr.findKey,run_underlying D,g,setObj,Sem.run,h2]
end
end Go.Am
end

noncomputable section
namespace Go.Am
variable [Globs] [Ghost]
section
variable {ν ν':Nat->Value} {w w':World} {P:Program}
def Zc (ν:Nat->Value) (S:St) (w:World) (r:Result Next) (v:AV) (b:St):Prop :=
 ∃ν' w' u,(r=.ok (.value u) w'\/(r=.ok .skip w'/\u=undef))/\VR ν' b.h w' v u/\HR ν' b.h w'/\Ev S.h.length ν S.h w ν' b.h w'/\b.h.length=S.h.length/\b.t=S.t
def ň.step {S:St} {x:Sem Value} {v:AV} {h':w9 Blk} (hd:ň P ν S.h w x v h') :
 Zc ν S w ((do let u <-x; pure (.value u):Sem Next).run P w) v {t:=S.t,h:=h'}:=by
 obtain⟨ν',w',u,e,h2,d,c,b⟩:=hd;refine⟨ν',w',u,.inl ?_,h2,d,c,b,rfl⟩;simp[e]
def Zc.still {S:St} {r:Result Next} {v:AV} {u:Value} (H:HR ν S.h w) (c:r=.ok (.value u) w) (b:VR ν S.h w v u):Zc ν S w r v S :=
 ⟨ν,w,u,.inl c,b,H,Ev.refl _ _ _ _,rfl,rfl⟩
def vK {S:St} {x:Sem Unit} {h':w9 Blk} (hd:∃w',x.run P w=.ok () w'/\HR ν h' w'/\Ev S.h.length ν S.h w ν h' w'/\h'.length=S.h.length) :
 Zc ν S w ((do x; pure .skip:Sem Next).run P w) .any {t:=S.t,h:=h'}:=by
 obtain⟨w',e,d,c,b⟩:=hd;refine⟨ν,w',undef,.inr ⟨?_,rfl⟩,trivial,d,c,b,rfl⟩;simp[e]
def abv {a:AV} {v:Value} {h:w9 Blk} (hi:isV0 a=true) (b:VR ν h w a v):VR0 ν h w a v:=by
 have d:a.isFn=false:=by cases a<;>first|rfl|cases hi
 have h2:a.isAgg=false:=by cases a<;>first|rfl|cases hi
 have c:a.isTup=false:=by cases a<;>first|rfl|cases hi
 rwa [uV c,xM h2,vx d] at b
def ñ.of_map {α β γ:Type} {R:β->γ->Prop} {f:α->β} {g:α->γ}:∀{l:w9 α},(∀x∈l,R (f x) (g x))->ñ R (l.map f) (l.map g)
 |[],_=>trivial
 |x::l,h=>⟨h x (by simp),ñ.of_map fun y b=>h y (by simp[b])⟩
def adA (k:IntKind) (a b:Int):(Builtin.max2 (.int k a) (.int k b)).run P w=.ok (.int k (US a b)) w:=rfl
def adz (k:IntKind) (a b:Int):(Builtin.min2 (.int k a) (.int k b)).run P w=.ok (.int k (WN a b)) w:=rfl
def ZV {S:St} {a:Act} {x y:Operand} (h:tR x y=true):a.eval x=a.eval y:=by
 unfold tR at h
 split at h
 ·have:=eq_of_beq h; subst this; rfl
 ·have:=of_decide_eq_true h; subst this; rfl
 ·cases h
def Ĭ {α β:Type} {x:w8 α} {f:α->w8 β} {r:β} (h:x.bind f=some r):∃a,x=some a/\f a=some r:=by
 cases x with
 |none=>cases h
 |some a=>exact⟨a,rfl,h⟩
def arr1 {α:Type} {a:Array α} {x:α} (h:a.toList=[x]):a=#[x]:=eW (by simpa using h)
def arr2 {α:Type} {a:Array α} {x y:α} (h:a.toList=[x,y]):a=#[x,y]:=eW (by simpa using h)
def j6 {S:St} {a:Act} {o:Oper} {b:Builtin} {d:Array Operand} {tys:Array TypeId} {f:Array TypeId->TypeId->Array Value->Sem Value} (e:o.op=.call ⟨.builtin b,d,tys⟩)
 (hb:∀c vs,builtin b tys o.type c vs=(do pure (.value (<-f tys o.type vs)):Sem Next)) :
 execOp a.eval o=(do let u <-f tys o.type (d.map a.eval); pure (.value u)):=by
 unfold execOp;rw[e];simp only[resolve,pure_bind,invoke,hb]
def adJ {S S':St} {a:Act} {o:Oper} {nid:Nat} {eat:Bool} {v:AV} {clone:Nat->Bool} (H:Sim ν S a w) (hn:ć clone o.op=true->nid<S.h.length/\lkB S.h nid=.dead)
 (e:opR P S nid eat o.op=some (v,S')):Zc ν S w ((execOp a.eval o).run P w) v S':=by
 have E:=H.heap
 cases A:o.op with
 |move x =>
  rw[A] at e; cases e;exact Zc.still E (by unfold execOp; rw[A]; rfl) (Đ H x)
 |assign x =>
  rw[A] at e; cases e;exact Zc.still E (by unfold execOp; rw[A]; rfl) (Đ H x)
 |pick c x y =>
  rw[A] at e;simp only[opR,opK] at e
  split at e<;>try (cases e; done)
  rename_i b hb;have O:=Đ H c;rw[hb] at O;have O:a.eval c=.bool b:=O
  have D:(execOp a.eval o).run P w=.ok (.value (if b then a.eval x else a.eval y)) w:=by unfold execOp; rw[A]; simp[asBool,O]
  split at e
  ·cases e; exact Zc.still E D (Đ H x)
  ·cases e; exact Zc.still E D (Đ H y)
 |box W x =>
  rw[A] at e;simp only[opR,opK] at e
  split at e<;>try (cases e; done)
  rename_i cs R
  have D:execOp a.eval o=(do let u <-Instr.box W (a.eval x); pure (.value u)):=by unfold execOp; rw[A]
  rw[D]
  split at e
  ·split at e<;>try (cases e; done)
   split at e<;>try (cases e; done)
   rename_i y J;cases e;exact(ag5 E R J (Đ H x)).step
  ·cases e;obtain⟨B,h2⟩:=hn (by rw[A]; rfl);exact(box_ok E B h2 R (Đ H x)).step
 |alloc W =>
  rw[A] at e;simp only[opR,opK] at e
  split at e<;>try (cases e; done)
  rename_i z hz
  split at e<;>try (cases e; done)
  rename_i cs R;cases e;obtain⟨B,h2⟩:=hn (by rw[A]; rfl)
  have D:execOp a.eval o=(do let u <-Instr.alloc W true (.tuple #[]); pure (.value u)):=by unfold execOp; rw[A]
  rw[D];exact(aeU E B h2 hz R).step
 |build t ps =>
  rw[A] at e;simp only[opR,opK] at e
  have D:execOp a.eval o=(do let u <-Instr.build t (ps.map fun(i,x)=>(i,a.eval x)); pure (.value u)):=by unfold execOp; rw[A]
  rw[D]
  split at e<;>try (cases e; done)
  ·rename_i fs I
   split at e<;>try (cases e; done)
   rename_i hfs
   split at e<;>try (cases e; done)
   rename_i z hz
   split at e<;>try (cases e; done)
   rename_i zs X
   split at e<;>try (cases e; done)
   rename_i cs R;cases e;exact(M4 H I hfs hz X R).step
  ·rename_i n W I
   split at e<;>try (cases e; done)
   rename_i sz z U hz
   split at e<;>try (cases e; done)
   rename_i zs X
   split at e<;>try (cases e; done)
   rename_i cs R;cases e;exact(Ve H I U hz X R).step
 |buildSlice t n ps =>
  rw[A] at e
  have D:execOp a.eval o=(do let u <-Instr.buildSlice t n (ps.map fun(i,x)=>(i,a.eval x)); pure (.value u)):=by unfold execOp; rw[A]
  rw[D];obtain⟨B,h2⟩:=hn (by rw[A]; rfl);simp only[opR,opK] at e
  split at e
  ·rw[Ea] at e;obtain⟨⟨M,h'⟩,L,T⟩:=Ĭ e;cases T;exact(agV H B h2 L).step
  split at e<;>try (cases e; done)
  rename_i W hel
  split at e<;>try (cases e; done)
  rename_i ty hty
  split at e<;>try (cases e; done)
  rename_i O;simp only[cM,beq_iff_eq,decide_eq_true_eq] at O
  split at e<;>try (cases e; done)
  rename_i xs hxs;cases e;exact(Qb H B h2 hel O.1 O.2.1 O.2.2 hxs).step
 |load t x =>
  rw[A] at e;simp only[opR,opK] at e;rw[tq] at e;obtain⟨M,B,h2⟩:=Ĭ e;cases h2
  have D:execOp a.eval o=(do let u <-Instr.loadAt t (a.eval x); pure (.value u)):=by unfold execOp; rw[A]
  rw[D];obtain⟨u,L,T⟩:=abc E B (Đ H x);exact(ň.still E L T).step
 |store t x y =>
  rw[A] at e;simp only[opR,opK] at e
  have D:execOp a.eval o=(do Instr.storeAt t (a.eval x) (a.eval y); pure .skip):=by unfold execOp; rw[A]
  rw[D]
  split at e
  ·split at e<;>try (cases e; done)
   rename_i id g lo n hsub
   split at e<;>try (cases e; done)
   rename_i ty g' xs hl
   split at e<;>try (cases e; done)
   rename_i O;simp only[cM,beq_iff_eq,decide_eq_true_eq] at O;obtain⟨rfl,hln⟩:=O;rw[ox] at e;obtain⟨h',B,h2⟩:=Ĭ e;cases h2;have J:=Đ H y;rw[hsub] at J;obtain⟨ν1,v1,H1,ev1⟩:=agS E hl hln J;obtain⟨w',k1,k2,k3,k4⟩:=VD H1 B ((Đ H x).ev ev1) v1;refine⟨ν1,w',undef,.inr ⟨?_,rfl⟩,trivial,k2,ev1.trans k3 (fu (Ì _ _ _).symm),k4.trans (Ì _ _ _),rfl⟩;simp[k1]
  ·rw[ox] at e;obtain⟨h',B,h2⟩:=Ĭ e;cases h2;exact vK (VD E B (Đ H x) (Đ H y))
 |nilCheck x =>
  rw[A] at e;simp only[opR,opK] at e;have C:=Đ H x
  split at e<;>try (cases e; done)
  ·rename_i id off he;cases e;rw[he] at C;have K:=C;obtain⟨cs,b,B,h2,L⟩:=K;exact Zc.still E (by unfold execOp; rw[A]; simp only[L]; rfl) (L▸C)
  ·rename_i t x' off he;cases e;rw[he] at C;have K:=C;obtain⟨b,o',us,L,T⟩:=K;exact Zc.still E (by unfold execOp; rw[A]; simp only[L]; rfl) (L▸C)
  ·rename_i id g i off he
   split at e<;>try (cases e; done)
   rename_i t g' fz xs hl
   split at e<;>try (cases e; done)
   rename_i hgg;cases e;rw[he] at C;have K:=C;obtain⟨ho,t2,g2,fz2,xs2,hl2,hle,hf⟩:=K;rw[hl] at hl2; cases hl2;obtain⟨_,b,o',cap,_,L⟩:=hf (eq_of_beq hgg);exact Zc.still E (by unfold execOp; rw[A]; simp only[L]; rfl) (L▸C)
 |binOp op t x y yt =>
  rw[A] at e;simp only[opR,opK] at e
  have D:execOp a.eval o=(do let u <-(do eqGuard op t x y (a.eval x) (a.eval y); binOp op t (a.eval x) (a.eval y)); pure (.value u)):=by unfold execOp; rw[A]
  rw[D]
  split at e
  ·rename_i hnil
   have J:y=.const .nilIface:=by
    unfold abw at hnil
    split at hnil
    ·rfl
    ·cases hnil
   subst J;rw[yl] at e;obtain⟨M,B,h2⟩:=Ĭ e;cases h2;exact(ifc_ok x E B (Đ H x)).step
  ·rw[yE] at e;obtain⟨M,B,h2⟩:=Ĭ e;cases h2;exact(aeP x y E B (Đ H x) (Đ H y)).step
 |unOp op t x =>
  rw[A] at e;simp only[opR,opK] at e
  have D:execOp a.eval o=(do let u <-Op.unary op (a.eval x); pure (.value u)):=by unfold execOp; rw[A]
  rw[D];have C:=Đ H x
  split at e<;>try (cases e; done)
  ·rename_i b he;cases e;rw[he] at C;exact(Zx (op:=.not) E C rfl).step
  ·rename_i k n he;rw[BM] at e;obtain⟨M,B,h2⟩:=Ĭ e;cases h2;rw[he] at C;exact(Zx (op:=.neg) E C B).step
 |convert src dst x =>
  rw[A] at e;simp only[opR,opK] at e
  have D:execOp a.eval o=(do let u <-convert src dst (a.eval x); pure (.value u)):=by unfold execOp; rw[A]
  rw[D];have C:=Đ H x
  split at e<;>try (cases e; done)
  ·rename_i d k k' n U hd he;cases e;rw[he] at C;have C:a.eval x=.int k' n:=C;refine(ň.still (v:=.int k (k.wrap n)) (u:=.int k (k.wrap n)) E ?_ rfl).step;rw[C];simp only[convert,Sem.run_bind,run_underlying U,run_underlying hd,Result.andThen_ok];simp[Conv.intToInt]
  ·rename_i W U hd
   split at e<;>try (cases e; done)
   rename_i hu8;rw[oI] at e;obtain⟨M,B,h2⟩:=Ĭ e;cases h2;exact(aeO E U hd (adk hu8) C B).step
 |makeFunc fn first caps =>
  rw[A] at e;simp only[opR,opK] at e
  split at e<;>try (cases e; done)
  rename_i O;simp only[cM,di] at O;cases e
  have D:execOp a.eval o=(do let u <-Instr.makeFunc fn (first.map a.eval) (caps.map a.eval); pure (.value u)):=by unfold execOp; rw[A]
  rw[D];refine(ň.still (v:=.fn fn (first.toList.map (ev S.t)) (caps.toList.map (ev S.t))) (u:=.func fn (first.map a.eval) (caps.map a.eval)) E rfl ⟨_,_,rfl,?_,?_⟩).step
  ·rw[fT];exact ñ.of_map fun x D=>abv (O.1 _ (List.mem_map_of_mem D)) (Đ H x)
  ·rw[fT];exact ñ.of_map fun x D=>abv (O.2 _ (List.mem_map_of_mem D)) (Đ H x)
 |makeMap t r =>
  rw[A] at e;simp only[opR,opK] at e
  split at e<;>try (cases e; done)
  rename_i kt et I;obtain⟨B,h2⟩:=hn (by rw[A]; rfl)
  have D:execOp a.eval o=(do let u <-Instr.makeMap t none; pure (.value u)):=by unfold execOp; rw[A]; rfl
  rw[D]
  split at e<;>try (cases e; done)
  ·rename_i k M hk C
   split at e<;>try (cases e; done)
   cases e;exact(Yh k M E B h2).step
  ·split at e<;>try (cases e; done)
   cases e;exact(Yi E B h2).step
 |makeSlice t l c =>
  rw[A] at e;simp only[opR,opK] at e
  split at e<;>try (cases e; done)
  rename_i k n W hsame hl hel
  split at e<;>try (cases e; done)
  rename_i ty hty
  split at e<;>try (cases e; done)
  rename_i hrow
  split at e<;>try (cases e; done)
  rename_i zs X
  split at e<;>try (cases e; done)
  rename_i z hz
  split at e<;>try (cases e; done)
  rename_i hb;simp only[cM,decide_eq_true_eq,Ý] at hb;cases e;obtain⟨B,h2⟩:=hn (by rw[A]; rfl);have C:=Đ H l;rw[hl] at C;have C:a.eval l=.int k n:=C
  have O:a.eval c=.int k n:=by rw[<-ZV (S:=S) hsame,C]
  have D:execOp a.eval o=(do let u <-Instr.makeSlice t (.int k n) (.int k n); pure (.value u)):=by unfold execOp; rw[A]; simp only[C,O]
  rw[D];exact(RH E B h2 hel hrow X hz hb.1 hb.2).step
 |slice t x lo hi mx =>
  rw[A] at e;simp only[opR,opK] at e
  split at e<;>try (cases e; done)
  all_goals
   have D:execOp a.eval o=(do let u <-Instr.sliceAt t (a.eval x) (lo.map a.eval) (hi.map a.eval) none; pure (.value u)):=by unfold execOp; rw[A]; rfl
   rw[D]
  ·rename_i W I
   split at e<;>try (cases e; done)
   rename_i sz U;rw[xT] at e;obtain⟨⟨M,h'⟩,B,h2⟩:=Ĭ e;cases h2;refine(adu E I U B (Đ H x) (fun y J=>?_) (fun J=>?_) (fun y J=>?_) (fun J=>?_)).step
   ·cases lo with
    |none=>cases J
    |some l=>cases J; exact⟨_,rfl,Đ H l⟩
   ·cases lo with
    |none=>rfl
    |some l=>cases J
   ·cases hi with
    |none=>cases J
    |some l=>cases J; exact⟨_,rfl,Đ H l⟩
   ·cases hi with
    |none=>rfl
    |some l=>cases J
  ·rename_i I;have C:=Đ H x
   split at e<;>try (cases e; done)
   rename_i s U;rw[U] at C;have C:a.eval x=.string s:=C;rw[i6] at e;obtain⟨M,B,h2⟩:=Ĭ e;cases h2;rw[C];refine(TY E I B (fun y J=>?_) (fun J=>?_) (fun y J=>?_) (fun J=>?_)).step
   ·cases lo with
    |none=>cases J
    |some l=>cases J; exact⟨_,rfl,Đ H l⟩
   ·cases lo with
    |none=>rfl
    |some l=>cases J
   ·cases hi with
    |none=>cases J
    |some l=>cases J; exact⟨_,rfl,Đ H l⟩
   ·cases hi with
    |none=>rfl
    |some l=>cases J
 |fieldAddr t x f =>
  rw[A] at e;simp only[opR,opK] at e
  split at e<;>try (cases e; done)
  rename_i fs I
  split at e<;>try (cases e; done)
  rename_i fd hf
  split at e<;>try (cases e; done)
  rename_i n U;rw[oA] at e;obtain⟨M,B,h2⟩:=Ĭ e;cases h2
  have D:execOp a.eval o=(do let u <-Instr.fieldAt t (a.eval x) f; pure (.value u)):=by unfold execOp; rw[A]
  rw[D];exact(SZ E I hf U B (Đ H x)).step
 |field t x f =>
  rw[A] at e;simp only[opR,opK] at e;have C:=Đ H x
  split at e<;>try (cases e; done)
  rename_i fs cs I O
  split at e<;>try (cases e; done)
  rename_i fd hf
  split at e<;>try (cases e; done)
  rename_i agg n hl
  split at e<;>try (cases e; done)
  rename_i ds hg
  split at e<;>try (cases e; done)
  rename_i M V;cases e;rw[O] at C
  have D:execOp a.eval o=(do let u <-Instr.field t (a.eval x) f; pure (.value u)):=by unfold execOp; rw[A]
  rw[D];exact(aem E I hf hl hg V C).step
 |indexAddr t x i =>
  rw[A] at e;simp only[opR,opK] at e
  have D:execOp a.eval o=(do let u <-Instr.indexAt t (a.eval x) (a.eval i); pure (.value u)):=by unfold execOp; rw[A]
  rw[D]
  split at e<;>try (cases e; done)
  ·rename_i W I
   split at e<;>try (cases e; done)
   rename_i sz U;rw[oE] at e;obtain⟨M,B,h2⟩:=Ĭ e;cases h2;exact(aeh E I U B (Đ H x) (Đ H i)).step
  ·rename_i n W I;have C:=Đ H x;have hi:=Đ H i
   split at e<;>try (cases e; done)
   rename_i id off k j Y hi'
   split at e<;>try (cases e; done)
   rename_i sz U;rw[hZ] at e;obtain⟨q,B,h2⟩:=Ĭ e;obtain⟨rfl,_,hb⟩:=EG B;cases h2;rw[Y] at C;rw[hi'] at hi;have hi:a.eval i=.int k (q:Int):=hi;rw[hi];have:=(KD E I (j:=(q:Int)) (k:=k) ⟨by omega,by omega⟩ U C).step;simpa using this
 |index t x i =>
  rw[A] at e;simp only[opR,opK] at e
  have D:execOp a.eval o=(do let u <-Instr.index t (a.eval x) (a.eval i); pure (.value u)):=by unfold execOp; rw[A]
  rw[D];have C:=Đ H x;have hi:=Đ H i
  split at e<;>try (cases e; done)
  ·rename_i n W cs k j I Y hi';rw[hZ] at e;obtain⟨q,B,h2⟩:=Ĭ e;obtain⟨rfl,_,hb⟩:=EG B
   split at h2<;>try (cases h2; done)
   rename_i agg m hl
   split at h2<;>try (cases h2; done)
   rename_i ds hg
   split at h2<;>try (cases h2; done)
   rename_i M V;cases h2;rw[Y] at C;rw[hi'] at hi;have hi:a.eval i=.int k (q:Int):=hi;rw[hi];exact(UR E I (j:=(q:Int)) (k:=k) ⟨by omega,by omega⟩ hl (by simpa using hg) V C).step
  ·rename_i s k j I Y hi';rw[i7] at e;obtain⟨M,B,h2⟩:=Ĭ e;cases h2;rw[Y] at C;rw[hi'] at hi;have hi:a.eval i=.int k j:=hi;have C:a.eval x=.string s:=C;rw[hi,C];exact(TZ E I B).step
 |lookup t m i ok =>
  rw[A] at e;simp only[opR,opK] at e
  have D:execOp a.eval o=(do let u <-Instr.lookup t (a.eval m) (a.eval i) ok; pure (.value u)):=by unfold execOp; rw[A]
  rw[D];have V:=Đ H m
  split at e
  ·rename_i id hid;rw[hid] at V;rw[l6] at e;obtain⟨M,B,h2⟩:=Ĭ e;cases h2;exact(Yw E B V (Đ H i)).step
  ·rw[l5] at e;obtain⟨M,B,h2⟩:=Ĭ e;cases h2;exact(aa9 E B V (Đ H i)).step
 |mapUpdate t m i x =>
  rw[A] at e;simp only[opR,opK] at e
  have D:execOp a.eval o=(do Instr.mapUpdate t (a.eval m) (a.eval i) (a.eval x); pure .skip):=by unfold execOp; rw[A]
  rw[D];have V:=Đ H m
  split at e
  ·rename_i id hid;rw[hid] at V;rw[jH] at e;obtain⟨h',B,h2⟩:=Ĭ e;cases h2;exact vK (Co E B V (Đ H i) (Đ H x))
  ·rw[jG] at e;obtain⟨h',B,h2⟩:=Ĭ e;cases h2;exact vK (F4 E B V (Đ H i) (Đ H x))
 |insert t m i x =>
  rw[A] at e;simp only[opR,opK] at e
  have D:execOp a.eval o=(do Instr.mapUpdate t (a.eval m) (a.eval i) (a.eval x); pure .skip):=by unfold execOp; rw[A]
  rw[D];have V:=Đ H m
  split at e
  ·rename_i id hid;rw[hid] at V;rw[jH] at e;obtain⟨h',B,h2⟩:=Ĭ e;cases h2;exact vK (Co E B V (Đ H i) (Đ H x))
  ·rw[jG] at e;obtain⟨h',B,h2⟩:=Ĭ e;cases h2;exact vK (F4 E B V (Đ H i) (Đ H x))
 |range t x =>
  rw[A] at e;simp only[opR,opK] at e
  split at e<;>try (cases e; done)
  rename_i s I C;cases e;obtain⟨B,h2⟩:=hn (by rw[A]; rfl)
  have D:execOp a.eval o=(do let u <-Instr.range t (a.eval x); pure (.value u)):=by unfold execOp; rw[A]
  have K:=Đ H x;rw[C] at K;have K:a.eval x=.string s:=K;rw[D,K];exact(Z9 E B h2 I).step
 |next x b =>
  rw[A] at e;simp only[opR,opK] at e
  cases b with
  |false=>cases e
  |true =>
  have D:execOp a.eval o=(do let u <-Instr.next (a.eval x) true o.type; pure (.value u)):=by unfold execOp; rw[A]
  rw[D];rw[Cm] at e;obtain⟨⟨M,h'⟩,B,h2⟩:=Ĭ e;cases h2;exact(agn E B (Đ H x)).step
 |extract x i =>
  rw[A] at e;simp only[opR,opK] at e;have C:=Đ H x
  split at e<;>try (cases e; done)
  rename_i vs hvs
  split at e<;>try (cases e; done)
  rename_i M K;cases e;rw[hvs] at C;obtain⟨us,hu,h2⟩:=C;obtain⟨u,L,T⟩:=h2.get K;refine Zc.still E (u:=u) (by unfold execOp; rw[A]; simp only[hu]; simp at L; simp[Instr.extract,L]) ?_
  cases I:v.isTup with
  |true =>
   cases v<;>try cases I
   exact T.elim
  |false=>rw[uV I]; exact T
 |call c =>
  obtain⟨f,args,tys⟩:=c;rw[A] at e
  cases f with
  |value f=>cases e
  |invoke r n=>cases e
  |builtin b =>
   simp only[opR,opK] at e
   split at e
   ·-- len
    rename_i x t rest G N;rw[ye] at e;obtain⟨M,B,h2⟩:=Ĭ e;cases h2;rw[j6 (S:=S) (f:=Builtin.len_) A (fun _ _=>rfl),arr1 G,show Array.map a.eval #[x]=#[a.eval x] by simp]
    have Z:tys[0]?=some t:=by rw[<-fM,N]; rfl
    exact(len_ok E B (Đ H x) Z).step
   ·rename_i s x t t' G N;obtain⟨B,h2⟩:=hn (by rw[A]; rfl);rw[j6 (S:=S) (f:=Builtin.append_) A (fun _ _=>rfl),arr2 G,arr2 N,show Array.map a.eval #[s,x]=#[a.eval s,a.eval x] by simp]
    split at e
    ·rename_i htt;have htt:=eq_of_beq htt;subst htt;have hvx:=Đ H x
     split at e
     ·rename_i id g hdp;rw[hdp] at hvx;rw[Ec] at e;obtain⟨⟨M,h'⟩,L,T⟩:=Ĭ e;cases T;exact(agW E B h2 L (Đ H s) hvx).step
     ·rw[uT] at e;obtain⟨⟨M,h'⟩,L,T⟩:=Ĭ e;cases T;exact(acQ E B h2 L (Đ H s) hvx).step
    ·split at e<;>try (cases e; done)
     rename_i hu;rw[xQ] at e;obtain⟨⟨M,h'⟩,L,T⟩:=Ĭ e;cases T;exact(ade E B h2 hu L (Đ H s) (Đ H x)).step
   ·rename_i x t G N
    split at e<;>try (cases e; done)
    rename_i d hd;rw[yB] at e;obtain⟨h',B,h2⟩:=Ĭ e;cases h2;rw[j6 (S:=S) (f:=Builtin.clear_) A (fun _ _=>rfl),arr1 G,show Array.map a.eval #[x]=#[a.eval x] by simp]
    have Z:tys[0]?=some t:=by rw[<-fM,N]; rfl
    exact(aew Z E B (by rw[hd]; rfl) (Đ H x)).step
   ·rename_i x t rest G N
    split at e<;>try (cases e; done)
    rename_i W I D;cases e;have C:=Đ H x;rw[D] at C;have C:a.eval x=.slice none 0 0:=C;rw[j6 (S:=S) (f:=Builtin.cap_) A (fun _ _=>rfl),arr1 G]
    have Z:tys[0]?=some t:=by rw[<-fM,N]; rfl
    exact(ň.still (v:=.int .i64 0) (u:=.int .i64 0) E (by simp[Builtin.cap_,Z,C,run_underlying I,goInt]) rfl).step
   ·rename_i x xs G;rw[ς] at e;obtain⟨M,B,h2⟩:=Ĭ e;cases h2;rw[j6 (S:=S) (f:=Builtin.min_) A (fun _ _=>rfl)];obtain⟨u,L,T⟩:=IK (P:=P) (f:=Builtin.min2) (gt:=false) (fun k p q=>adz k p q) (xs.map (ev S.t)) (xs.map a.eval) _ v (a.eval x) B (Đ H x) (ñ.of_map fun y _=>Đ H y);refine(ň.still E ?_ T).step;simp only[Builtin.min_,fT,G,dY];exact L
   ·rename_i x xs G;rw[ς] at e;obtain⟨M,B,h2⟩:=Ĭ e;cases h2;rw[j6 (S:=S) (f:=Builtin.max_) A (fun _ _=>rfl)];obtain⟨u,L,T⟩:=IK (P:=P) (f:=Builtin.max2) (gt:=true) (fun k p q=>adA k p q) (xs.map (ev S.t)) (xs.map a.eval) _ v (a.eval x) B (Đ H x) (ñ.of_map fun y _=>Đ H y);refine(ň.still E ?_ T).step;simp only[Builtin.max_,fT,G,dY];exact L
   ·cases e
 |_=>rw[A] at e; cases e
end
end Go.Am
end

noncomputable section
namespace Go.Am
variable [Globs] [Ghost]
def Ĥ (nid:Nat) (h h':w9 Blk):Prop:=∀j,j≠nid->lkB h j=.dead->lkB h' j=.dead
def Ĥ.refl (nid:Nat) (h:w9 Blk):Ĥ nid h h:=fun _ _ hd=>hd
def Ĥ.upd {nid id:Nat} {h:w9 Blk} (B:Blk) (b:id=nid\/lkB h id≠.dead):Ĥ nid h (è h id B):=fun j c hd=>by
 rw[Í]
 ·exact hd
 ·rintro rfl;rcases b with rfl|b
  ·exact c rfl
  ·exact b hd
def Ĥ.trans {nid:Nat} {h h' b:w9 Blk} (d:Ĥ nid h h') (h2:Ĥ nid h' b):Ĥ nid h b:=fun j c hd=>h2 j c (d j c hd)
def Ĥ.upd2 {nid i j:Nat} {h:w9 Blk} (A B:Blk) (hi:lkB h i≠.dead) (c:j=nid\/lkB h j≠.dead):Ĥ nid h (è (è h i A) j B):=fun m b hd=>by
 have d:m≠i:=fun e=>hi (by rw[<-e]; exact hd);have h2:m≠j:=fun e=>c.elim (fun q=>b (e.trans q)) fun q=>q (by rw[<-e]; exact hd);rw[Í _ h2,Í _ d];exact hd
def Ĥ.frz {nid:Nat} {h:w9 Blk} (v:AV):Ĥ nid h (frz h v):=fun _ _ hd=>WR hd
def Ĥ.frzA {nid:Nat} {h:w9 Blk} (ps:w9 (Nat×AV)):Ĥ nid h (frzA h ps):=fun _ _ hd=>KK ps hd
def ka {h:w9 Blk} {id:Nat} {B:Blk} (b:lkB h id=B) (c:B≠.dead):lkB h id≠.dead:=by rw[b]; exact c
def agH {v:AV} {id:Nat} {h:w9 Blk} {k u:Ty} {es:w9 (Val k×Val u)} (b:lkB h id=.map k u es):lkB (frz h v) id=.map k u es:=by
 unfold frz; split
 ·exact PP _ b
 ·exact WU b
def Nd {P:Program} {h h':w9 Blk} {t:TypeId} {a v:AV} {nid:Nat} (b:qf P h t a v some=some h'):Ĥ nid h h':=by
 unfold qf at b
 (repeat' split at b)<;>first
  |(cases b; done)
  |(cases b; exact Ĥ.upd _ (.inr (ka ‹lkB h _=.cells _› (by simp))))
  |(cases b; exact Ĥ.upd _ (.inr (ka ‹lkB h _=.deep _ _ _› (by simp))))
  |(cases b; exact(Ĥ.frz _).trans (Ĥ.upd _ (.inr (ka ‹lkB (frz h _) _=.row _ _ _ _› (by simp)))))
def aam {P:Program} {S f:St} {o:Op} {nid:Nat} {eat:Bool} {v:AV} (e:opR P S nid eat o=some (v,f)):Ĥ nid S.h f.h:=by
 unfold opR opK at e;dsimp only at e
 (repeat' split at e)<;>first
  |(cases e; done)
  |(cases e; exact Ĥ.refl _ _)
  |(cases e; exact Ĥ.upd _ (.inl rfl))
  |(cases e; exact(Ĥ.frzA _).trans (Ĥ.upd _ (.inl rfl)))
  |(rw[tq] at e; obtain⟨c,b,h2⟩:=Ĭ e; cases h2; exact Ĥ.refl _ _)
  |(rw[yE] at e; obtain⟨c,b,h2⟩:=Ĭ e; cases h2; exact Ĥ.refl _ _)
  |(rw[BM] at e; obtain⟨c,b,h2⟩:=Ĭ e; cases h2; exact Ĥ.refl _ _)
  |(rw[oA] at e; obtain⟨c,b,h2⟩:=Ĭ e; cases h2; exact Ĥ.refl _ _)
  |(rw[oE] at e; obtain⟨c,b,h2⟩:=Ĭ e; cases h2; exact Ĥ.refl _ _)
  |(rw[yl] at e; obtain⟨c,b,h2⟩:=Ĭ e; cases h2; exact Ĥ.refl _ _)
  |(rw[oI] at e; obtain⟨c,b,h2⟩:=Ĭ e; cases h2; exact Ĥ.refl _ _)
  |(rw[i6] at e; obtain⟨c,b,h2⟩:=Ĭ e; cases h2; exact Ĥ.refl _ _)
  |(rw[i7] at e; obtain⟨c,b,h2⟩:=Ĭ e; cases h2; exact Ĥ.refl _ _)
  |(rw[l6] at e; obtain⟨c,b,h2⟩:=Ĭ e; cases h2; exact Ĥ.refl _ _)
  |(rw[l5] at e; obtain⟨c,b,h2⟩:=Ĭ e; cases h2; exact Ĥ.refl _ _)
  |(rw[ye] at e; obtain⟨c,b,h2⟩:=Ĭ e; cases h2; exact Ĥ.refl _ _)
  |(rw[ς] at e; obtain⟨c,b,h2⟩:=Ĭ e; cases h2; exact Ĥ.refl _ _)
  |(rw[ox] at e; obtain⟨h',b,h2⟩:=Ĭ e; cases h2; exact Nd b)
  | (rw [ox] at e; obtain ⟨h', b, h2⟩ := Ĭ e; cases h2
     exact(Ĥ.upd _ (.inr (ka ‹lkB S.h _=.row _ _ _ _› (by simp)))).trans (Nd b))
  | (rw [xT] at e; obtain ⟨⟨c, h'⟩, b, h2⟩ := Ĭ e; cases h2
     unfold oO at b
     (repeat' split at b)<;>first
      |(cases b; done)
      |(cases b; exact Ĥ.refl _ _)
      |(cases b; exact Ĥ.upd _ (.inr (ka ‹lkB S.h _=.row _ _ _ _› (by simp)))))
  | (rw [uT] at e; obtain ⟨⟨c, h'⟩, b, h2⟩ := Ĭ e; cases h2
     unfold uU at b
     (repeat' split at b)<;>first
      |(cases b; done)
      |(cases b; exact Ĥ.upd _ (.inl rfl))
      |(cases b; exact Ĥ.upd _ (.inr (ka ‹lkB S.h _=.row _ _ _ _› (by simp)))))
  | (rw [Ea] at e; obtain ⟨⟨c, h'⟩, b, h2⟩ := Ĭ e; cases h2
     unfold Tc at b
     (repeat' split at b)<;>first
      |(cases b; done)
      |(cases b; exact Ĥ.upd2 _ _ (ka ‹lkB S.h _=.row _ _ _ _› (by simp)) (.inl rfl))
      |(cases b; exact Ĥ.upd2 _ _ (ka ‹lkB S.h _=.deep _ _ _› (by simp)) (.inl rfl)))
  | (rw [Ec] at e; obtain ⟨⟨c, h'⟩, b, h2⟩ := Ĭ e; cases h2
     unfold P0 at b
     split at b<;>try (cases b; done)
     split at b<;>try (cases b; done)
     split at b<;>try (cases b; done)
     rename_i d
     split at b<;>try (cases b; done)
     (repeat' split at b)<;>first
      |(cases b; done)
      |(cases b; exact Ĥ.upd2 _ _ (ka d (by simp)) (.inl rfl))
      |(cases b; exact Ĥ.upd2 _ _ (ka d (by simp)) (.inr (ka (by assumption) (by simp)))))
  | (rw [xQ] at e; obtain ⟨⟨c, h'⟩, b, h2⟩ := Ĭ e; cases h2
     unfold BO at b
     (repeat' split at b)<;>first
      |(cases b; done)
      |(cases b; exact Ĥ.upd _ (.inl rfl)))
  | (rw [yB] at e; obtain ⟨h', b, h2⟩ := Ĭ e; cases h2
     unfold Ee at b
     (repeat' split at b)<;>first
      |(cases b; done)
      |(cases b; exact Ĥ.refl _ _)
      |(cases b; exact Ĥ.upd _ (.inr (ka ‹lkB S.h _=.row _ _ _ _› (by simp)))))
  | (rw [hZ] at e; obtain ⟨q, b, h2⟩ := Ĭ e
     (repeat' split at h2)<;>first
      |(cases h2; done)
      |(cases h2; exact Ĥ.refl _ _))
  | (rw [jH] at e; obtain ⟨h', b, h2⟩ := Ĭ e; cases h2
     unfold Ů at b
     (repeat' split at b)<;>first
      |(cases b; done)
      |(cases b; exact Ĥ.upd _ (.inr (ka ‹lkB S.h _=.fns _› (by simp)))))
  | (rw [Cm] at e; obtain ⟨⟨c, h'⟩, b, h2⟩ := Ĭ e; cases h2
     unfold O9 at b
     (repeat' split at b)<;>first
      |(cases b; done)
      |(cases b; exact Ĥ.refl _ _)
      |(cases b; exact Ĥ.upd _ (.inr (ka ‹lkB S.h _=.iter _ _› (by simp)))))
  | (rw [jG] at e; obtain ⟨h', b, h2⟩ := Ĭ e; cases h2
     unfold ŭ at b
     (repeat' split at b)<;>first
      |(cases b; done)
      |(cases b; exact(Ĥ.frz _).trans (Ĥ.upd _ (.inr (ka (agH ‹lkB S.h _=.map _ _ _›) (by simp))))))
end Go.Am
end

noncomputable section
namespace Go.Am
variable [Globs] [Ghost]
section
variable {ρ:Type} {ν ν':Nat->Value} {h h':w9 Blk} {w w':World} {P:Program}
def Ev.same (d:∀id,lkB h' id=lkB h id) (c:w'.heap=w.heap) (i:w'.os=w.os) (h2:w'.tape=w.tape) (g:w'.output=w.output) (m:Nat):Ev m ν h w ν h' w' :=
 ⟨i,h2,g,by rw[c]; exact cJ _,fun b _ hb=>⟨by rw[c],fun⟨id,f,e⟩=>hb ⟨id,by rwa [d] at f,e⟩⟩,fun id _=>by rw[d]; exact Blk.next_refl _ _ _⟩
def HR.same (H:HR ν h w) (d:∀id,lkB h' id=lkB h id) (c:w'.heap=w.heap) (k:w'.os=w.os) (h2:w'.tape=w.tape) (g:w'.output=w.output):HR ν h' w':=by
 refine⟨fun id=>?_,fun i j b e f=>H.inj i j b (by rwa [d] at e) (by rwa [d] at f),fun b hb=>by rw[c]; exact H.ghlt b hb,fun id b e=>H.ghne id b (by rwa [d] at e),Globs.keep _ _ H.glob (fun b _=>by rw[c]),fun b hb ⟨id,e,f⟩=>H.globL b hb ⟨id,by rwa [d] at e,f⟩⟩;rw[d];exact BR.ev (Ev.same d c k h2 g _) (fun b o hb _=>by rw[c]; exact hb) (fun b hb=>by rw[c]) rfl (fun b _ _ _=>by rw[c]) (H.blk id)
def Sim.same {S:St} {a:Act} (H:Sim ν S a w) (d:∀id,lkB h' id=lkB S.h id) (c:w'.heap=w.heap) (f:w'.os=w.os) (h2:w'.tape=w.tape) (e:w'.output=w.output):Sim ν {t:=S.t,h:=h'} a w' :=
 ⟨H.defers.keep (by rw[c]; exact cJ _) (fun b o hb _=>by rw[c]; exact hb),H.len,fun i=>(H.tmps i).ev (Ev.same d c f h2 e _),H.heap.same d c f h2 e⟩
def DN:∀(h:w9 Blk) (d:Nat),h.length<=d->lkB h d=.dead
 |[],_,_=>rfl
 |x::xs,0,h=>by simp at h
 |x::xs,d+1,h=>by simpa[PD,PE,PC] using DN xs d (by simpa using h)
def Ks:∀(h:w9 Blk) (n id:Nat),lkB (h++List.replicate n .dead) id=lkB h id
 |[],0,_=>rfl
 |[],n+1,0=>rfl
 |[],n+1,id+1=>by simpa[List.replicate_succ,PD,PE,PC] using Ks [] n id
 |x::xs,n,0=>rfl
 |x::xs,n,id+1=>by simpa[PD,PE,PC] using Ks xs n id
abbrev fen:Fence:={Fence.wide with round:=Ghost.Q}
def XB (P:Program) (L:Nat) (call:w9 Nat->Bool->Nat->w9 AV->w9 Blk->(AV->w9 Blk->w8 ρ)->w8 ρ):Prop :=
 ∀path d g b h (K:AV->w9 Blk->w8 ρ) r,path.length=L->call path d g b h K=some r->∀ν w vals,HR ν h w->Ghost.B<=w.heap.size->ñ (VR ν h w) b vals ->
  (∃fn c,P.funcs[g]?=some fn/\fn.body=some c) /\
  CallsIn Fence.wide 0 P g vals.toArray w fun e w'=>∃ν' h' v u,e=.returned u/\VR ν' h' w' v u/\HR ν' h' w'/\Ev h.length ν h w ν' h' w'/\h.length<=h'.length/\(∀j,j<h.length->lkB h j=.dead->lkB h' j=.dead)/\K v h'=some r
def FK (P:Program) (clone:Nat->Bool):Prop :=
 ∀g,clone g=true->∀fz S nid x v b,vw P g fz S nid x (fun v S=>some (v,S))=some (v,b)->∀ν w u,HR ν S.h w->VR ν S.h w x u->nid<S.h.length->lkB S.h nid=.dead ->
  (∃fn c,P.funcs[g]?=some fn/\fn.body=some c) /\
  CallsIn Fence.wide 0 P g #[u] w fun e w'=>∃ν' u',e=.returned u'/\VR ν' b.h w' v u'/\HR ν' b.h w'/\Ev S.h.length ν S.h w ν' b.h w'/\S.h.length<=b.h.length/\Ĥ nid S.h b.h/\b.t=S.t
def FB (P:Program) (g:Nat) (fz:Bool) (S:St) (nid:Nat) (x:AV) (K:AV->St->w8 ρ):vw P g fz S nid x K=(vw P g fz S nid x fun v S=>some (v,S)).bind fun r=>K r.1 r.2:=by
 unfold vw; (repeat' split)<;>rfl
def Aft (m:Nat) (ν:Nat->Value) (h:w9 Blk) (w:World) (K:St->w8 ρ) (r:ρ) (c:Act) (w':World):Prop :=
 ∃ν' b,Sim ν' b c w'/\Ev m ν h w ν' b.h w'/\h.length<=b.h.length/\K b=some r
def Aft.trans {m f:Nat} {K:St->w8 ρ} {r:ρ} {g:Act} {ν b:Nat->Value} {h c:w9 Blk} {w d w':World} (e:Ev m ν h w b c d) (j:h.length<=c.length) (i:m<=f) (ha:Aft f b c d K r g w'):Aft m ν h w K r g w':=by
 obtain⟨ν',p,o,h2,l,k⟩:=ha;exact⟨ν',p,o,e.trans h2 i,cW j l,k⟩
def op_nid {S:St} {o:Op} {nid nid':Nat} {eat:Bool} {clone:Nat->Bool} (d:ć clone o=false):opR P S nid eat o=opR P S nid' eat o:=by
 cases o<;>try first|rfl|(cases d; done)
 rename_i c;obtain⟨f,e,tys⟩:=c
 cases f<;>try rfl
 rename_i b
 cases b<;>first|(cases d; done)|rfl|(unfold opR opK; dsimp only; (repeat' split)<;>first|rfl|simp_all)
def YldP (P:Program) (y:YFun):Prop:=∃f:y.ty=Ghost.T,∀(O X:Nat->Prop) (c:w9 (Val Ghost.T)) (v:Val Ghost.T) (u:Value) (W:World),Ghost.J O X c W->(∀b,O b->X b)->(∀b,X b->b<W.heap.size)->(c++[v] <+: qd (F:=fun t=>w9 (Val t)) f y.all)->CR W X Ghost.T v [u]->Ghost.B<=W.heap.size ->
 YieldAt Fence.wide 0 P Ghost.L #[u] W fun e d=>e=.returned (.bool (ygo y.stop (qd (F:=fun t=>w9 (Val t)) f y.all) (c++[v])))/\d.os=W.os/\d.tape=W.tape/\d.output=W.output/\W.heap.size<=d.heap.size /\
  ∃us,(∀b,b<W.heap.size->¬O b->d.heap[b]?=W.heap[b]?/\¬ģ (.agg us) b)/\(∀b,ģ (.agg us) b->∃o,d.heap[b]?=some o/\GN o=true)/\Ghost.J (ģ (.agg us)) (fun b=>(X b/\¬O b)\/ģ (.agg us) b) (c++[v]) d
def Γ (E:Env ρ):Prop:=∀y,E.yld=some y->YldP E.P y
def Ũ {E:Env ρ} (h:E.yld=none):Γ E:=fun y e=>by rw[h] at e; cases e
def afC {α:Type} {all l:w9 α} {k:w8 ρ} {r:ρ} (h:yg all l k=some r):l <+: all/\k=some r:=by
 unfold yg at h
 split at h
 ·exact⟨‹_›,h⟩
 ·cases h
def adf {t:Ty} {b:Bool} {all l:w9 (Val t)} {k:w8 ρ} {r:ρ} (h:ygf b all l k=some r):l <+: all/\k=some r:=by
 unfold ygf at h
 split at h
 ·exact afC h
 ·split at h
  ·exact⟨VS ‹_›,h⟩
  ·cases h
def XF {t:Ty} (b:t.isAgg=false) {a:AV} {v:Val t} (e:Ò t [a]=some v):a.isAgg=false/\a.isTup=false:=by
 cases t<;>first|(cases b; done)|(cases a<;>first|exact⟨rfl,rfl⟩|cases e)
def T1 (h:w9 Blk) {a:AV} (e:(ò h a).isAgg=false/\(ò h a).isTup=false):a.isAgg=false/\a.isTup=false:=by
 cases a<;>first|exact⟨rfl,rfl⟩|exact e
def Zl {E:Env ρ} (hy:Γ E) {x:AV} {u:Value} {K:AV->w9 Blk->w8 ρ} {r:ρ} (H:HR ν h w) (hv:VR ν h w x u) (hB:Ghost.B<=w.heap.size) (e:yldK E h x K=some r) :
 YieldAt Fence.wide 0 E.P Ghost.L #[u] w fun e w'=>∃b,e=.returned (.bool b)/\∃ν' h',HR ν' h' w'/\Ev h.length ν h w ν' h' w'/\h'.length=h.length/\(∀j,lkB h j=.dead->lkB h' j=.dead)/\K (.bool b) h'=some r:=by
 unfold yldK at e
 split at e<;>try (cases e; done)
 rename_i y hE
 split at e<;>try (cases e; done)
 rename_i O
 split at e<;>try (cases e; done)
 rename_i G
 split at e<;>try (cases e; done)
 rename_i v k
 split at e<;>try (cases e; done)
 rename_i t xs f
 split at e<;>try (cases e; done)
 rename_i he hq;clear hq;obtain⟨ty,all,stp⟩:=y;obtain⟨hT,hY⟩:=hy _ hE;have M:t=ty:=he;subst M;have R:t=Ghost.T:=hT;subst R;obtain⟨m,hk⟩:=adf e;obtain⟨C,A⟩:=T1 h (XF O k);have D:=hv.one C A;obtain⟨S,g,_⟩:=KM H x;have N:CR w (Av ν (pO h x)) Ghost.T v [u]:=ē k ⟨KL H D G,trivial⟩;have hb:=g.blk 0;rw[f] at hb;obtain⟨Z,h1,h2,h3,h4⟩:=hb;obtain⟨fn,tmps,assign,body,l,hR⟩:=hY _ _ xs v u w h4 (fun b hb=>.inl ⟨0,by rw[f]; rfl,hb⟩) (fun b hb=>g.ltA hb) m N hB;refine⟨fn,tmps,assign,body,l,hR.mono fun e' w' hw=>?_⟩;obtain⟨rfl,o1,o2,o3,o4,us,U,o6,o7⟩:=hw;refine⟨_,rfl,?_⟩
 have c:(lkB (pO h x) 0).live=true:=by rw[f]; rfl
 have s:0<(pO h x).length:=Ł f (by simp);have d:∀b,b<w.heap.size->((lkB (pO h x) 0).live=true->¬ģ (ν 0) b)->w'.heap[b]?=w.heap[b]?:=fun b hb p=>(U b hb (p c)).1
 have Y:(Blk.acc Ghost.T (xs++[v])).live=true->∀b,ģ (.agg us) b->((lkB (pO h x) 0).live=true/\ģ (ν 0) b)\/w.heap.size<=b:=fun _ b hb=>by
  rcases dA b w.heap.size with I|J
  ·by_cases W:ģ (ν 0) b
   ·exact .inl ⟨c,W⟩
   ·exact absurd hb (U b I W).2
  ·exact .inr J
 have z:=Ev.upd g (B:=.acc Ghost.T (xs++[v])) (V:=.agg us) s o1 o2 o3 o4 d Y (by rw[f]; exact⟨_,rfl⟩)
 have H2:HR (í ν 0 (.agg us)) (è (pO h x) 0 (.acc Ghost.T (xs++[v]))) w':=by
  refine HR.upd g s z d Y ⟨us,Ê _ _ _,?_,rfl,?_⟩
  ·rw[Ê]; exact o6
  ·rw[Ê];refine Ghost.st _ _ _ _ _ _ o7 ⟨rfl,rfl,rfl,cJ _,fun b _ p=>?_,fun b o hb _ _=>hb,fun b o hb _ _=>hb,fun _ _ _=>rfl⟩;rintro(⟨i,hi,hb⟩|X)
   ·by_cases h0:i=0
    ·subst h0; rw[Ê] at hb; exact p (.inr hb)
    ·rw[Í _ h0] at hi;rw[ú _ _ h0] at hb;exact p (.inl ⟨.inl ⟨i,hi,hb⟩,fun q=>h0 (g.inj i 0 b hi c hb q)⟩)
   ·exact p (.inl ⟨.inr X,fun q=>g.ghne 0 b c q X⟩)
 refine⟨_,_,H2,S.trans z (by rw[me]; exact cJ _),by rw[Ì,me],fun j hj=>?_,hk⟩;have hd:lkB (pO h x) j=.dead:=KN hj;rw[Í _ (fun q=>by rw[q,f] at hd; cases hd)];exact hd
def T7 {E : Env ρ} {call : w9 Nat -> Bool -> Nat -> w9 AV -> w9 Blk -> (AV -> w9 Blk -> w8 ρ) -> w8 ρ} {L : Nat} (J : XB E.P L call) (hP : ∀ (f : Nat) (fn : Func), E.P.funcs[f]? = some fn -> (fn.name == "runtime.NumGoroutine") = false)
 (C:FK E.P E.clone) (O:Γ E)
 {fid:Nat} {path:w9 Nat} {z:Bool} {S:St} {a:Act} {nid:Nat} {o:Oper} {K:AV->St->w8 ρ} {r:ρ} (hp:path.length=L) (H:Sim ν S a w) (hn:ć E.clone o.op=true->nid<S.h.length/\lkB S.h nid=.dead)
 (e:jE E call fid path z S nid o K=some r) {next:Act->World->Prop} {Q:Exit->Act->World->Prop}
 (Y:∀(ν':Nat->Value) (w':World) (u:Value) (v:AV) (k:St),VR ν' k.h w' v u->HR ν' k.h w'->Ev S.h.length ν S.h w ν' k.h w'->S.h.length<=k.h.length->(∀j,j<S.h.length->j≠nid\/ć E.clone o.op=false->lkB S.h j=.dead->lkB k.h j=.dead)->k.t=S.t->K v k=some r->next (a.put o.dst u) w') :
 o.wpIn fen 0 E.P a w next Q:=by
 refine⟨fun _ _=>trivial,?_⟩
 have hnd:∀c,o.op≠.defer c:=by
  intro c N;rw[iI] at e
  try simp only[F0] at e
  split at e<;>try (cases e; done)
  split at e
  ·rename_i i;rw[N] at i; cases i
  ·rw[N] at e;cases e
 rw[Oper.semAt_eq _ _ _ hnd]
 have plain:∀v k,opR E.P S nid (La E z fid o) o.op=some (v,k)->K v k=some r->o.uponIn fen 0 E.P a next Q ((execOp a.eval o).run E.P w):=by
  intro v k A h2;obtain⟨ν',w',u,M,h4,h5,h6,h7,h8⟩:=adJ (clone:=E.clone) H hn A
  have:=Y ν' w' u v k h4 h5 h6 (fu h7.symm) (fun j _ D hd=>by
   rcases D with D|hal
   ·exact aam A j D hd
   ·rw[op_nid (nid':=j+1) hal] at A
    exact aam A j (by omega) hd) h8 h2
  rcases M with M|⟨M,rfl⟩
  ·rw[M]; exact this
  ·rw[M]; exact this
 rw[iI] at e
 try simp only[F0] at e
 split at e<;>try (cases e; done)
 split at e
 ·rename_i f s tys i
  split at e<;>try (cases e; done)
  rotate_left
  ·rename_i p
   split at e<;>try (cases e; done)
   rename_i x d
   have G:a.eval f=.func (.yield Ghost.L) #[] #[]:=by
    have:=Đ H f;rw[p] at this;exact this
   obtain⟨fn,tmps,assign,body,U,hR⟩:=Zl O H.heap (Đ H x) H.defers.bnd e
   have R:(execOp a.eval o).run E.P w=.ok (.round Ghost.L fn tmps assign body) w:=by
    rw[<-U];unfold execOp;rw[i,arr1 d];simp[resolve,G,Deferred.ofValue,invoke,Sem.run_bind,Result.andThen_ok,callFunc,run_program]
   rw[R,Oper.uponIn_round];refine⟨fun p=>(by cases p),RoundIn.mono (show RoundIn fen 0 E.P _ _ _ _ _ _ _ from hR) fun e' w' T=>?_⟩;obtain⟨b,rfl,ν',h',g1,g2,g3,g4,g5⟩:=T;exact Y ν' w' (.bool b) (.bool b) {t:=S.t,h:=h'} rfl g1 g2 (fu g3.symm) (fun j _ _ hd=>g4 j hd) rfl g5
  rename_i g first X p;have W:=Đ H f;rw[p] at W;obtain⟨fs,cs,G,B,I⟩:=W
  split at e
  ·rename_i l
   split at e<;>try (cases e; done)
   rename_i x d;rw[FB] at e;obtain⟨⟨v,k⟩,A,h2⟩:=Ĭ e;simp only[cM] at l;obtain⟨l,V⟩:=l
   have hfg:f=.func g:=by
    cases f<;>try (cases V; done)
    simp only[ev] at p
    injection p with Z
    injection Z with Z
    rw[Z]
   subst hfg;obtain⟨hn1,hn2⟩:=hn (by rw[i]; exact l);obtain⟨⟨fn,c,y,m⟩,N⟩:=C g l _ S nid _ v k A ν w _ H.heap (Đ H x) hn1 hn2
   have R:(execOp a.eval o).run E.P w=.ok (.enter g #[a.eval x]) w:=by
    unfold execOp;rw[i,arr1 d];simp only[resolve,Act.eval,Deferred.ofValue,pure_bind,invoke,callFunc,Sem.run_bind,run_program,Result.andThen_ok,y,hP g fn y,m];simp only[Bool.false_eq_true,if_false,Option.isNone_some];show Result.ok (Next.enter g _) w=_;congr 2;apply Array.ext'
    cases x<;>simp[Act.eval]
   rw[R,Oper.uponIn_enter];refine⟨fun p=>(by cases p),N.mono fun e' w' T=>?_⟩;obtain⟨ν',u',rfl,g1,g2,g3,g4,g6,g5⟩:=T;exact Y ν' w' u' v k g1 g2 g3 g4 (fun j _ D hd=>g6 j (D.resolve_right (by rw[i]; exact fun p=>by rw[show ć E.clone (.call ⟨.value (.func g),s,tys⟩)=E.clone g from rfl,l] at p; cases p)) hd) g5 h2
  ·rename_i l
   have d:ñ (VR ν S.h w) (first++(s.toList.map (ev S.t)++X)) (fs.toList++(s.toList.map a.eval++cs.toList)) :=
    (B.mono fun _ _ q=>q.up.up).append ((ñ.of_map fun x _=>Đ H x).append (I.mono fun _ _ q=>q.up.up))
   obtain⟨⟨fn,c,y,m⟩,N⟩:=J path z g _ _ _ r hp e ν w _ H.heap H.defers.bnd d
   have R:(execOp a.eval o).run E.P w=.ok (.enter g (fs.toList++(s.toList.map a.eval++cs.toList)).toArray) w:=by
    unfold execOp;rw[i];simp only[resolve,G,Deferred.ofValue,pure_bind,invoke,callFunc,Sem.run_bind,run_program,Result.andThen_ok,y,hP g fn y,m];simp only[Bool.false_eq_true,if_false,Option.isNone_some];show Result.ok (Next.enter g _) w=_;congr 2;apply Array.ext';simp
   rw[R,Oper.uponIn_enter];refine⟨fun p=>(by cases p),N.mono fun e' w' T=>?_⟩;obtain⟨ν',h',v,u,rfl,A,h2,M,h4,h6,h5⟩:=T;exact Y ν' w' u v {t:=S.t,h:=h'} A h2 M h4 (fun j D _ hd=>h6 j D hd) rfl h5
 ·rename_i op hne;rw[O6] at e;obtain⟨⟨v,k⟩,A,h2⟩:=Ĭ e;exact plain v k A h2
def BQ:∀(t:w9 AV) (d:Nat),upd t d (lk t d)=t
 |[],_=>rfl
 |_::_,0=>rfl
 |x::t,d+1=>by simp[Qz,QA,Qy,ac7,ac8,ac6,BQ t d]
def aeY (n nid:Nat) (h:w9 Blk):Prop:=∀j,nid<=j->j<nid+n->j<h.length/\lkB h j=.dead
def mA {clone:Nat->Bool} {o:Oper} {os:w9 Oper}:π clone (o::os)=bif ć clone o.op then π clone os+1 else π clone os:=rfl
def Oc {all:w9 Oper} {o:Oper} {j:Nat} {b:Bool}:∀{l:w9 Oper},rA all l=true->o∈l->o.guard=some (j,b)->∃p d,all[j]?=some p/\p.dst=some d
 |[],_,c,_=>by cases c
 |x::l,f,c,g=>by
  simp only[rA,cM] at f;rcases cP.1 c with rfl|c
  ·have e:=f.1;rw[g] at e;simp only at e
   split at e
   ·rename_i p i;obtain⟨d,hd⟩:=fS.1 e;exact⟨p,d,i,hd⟩
   ·cases e
  ·exact Oc f.2 c g
def XC {c:Array Oper} {tmps:Array Value} {j d:Nat} {p:Oper} (g:c.toList[j]?=some p) (hd:p.dst=some d) :
 (∀b,tmps.getD d undef=.bool b->yielded c tmps j=some b)/\(tmps.getD d undef=undef->yielded c tmps j=none):=by
 have e:c[j]?=some p:=by simpa using g
 constructor
 ·intro b hb;unfold yielded;rw[e];simp only[Option.bind_some,hd]
  cases f:tmps[d]? with
  |none=>simp[dt,f,undef] at hb
  |some v=>simp[dt,f] at hb; subst hb; rfl
 ·intro hb;unfold yielded;rw[e];simp only[Option.bind_some,hd]
  cases f:tmps[d]? with
  |none=>rfl
  |some v=>simp[dt,f] at hb; subst hb; rfl
def oL (E:Env ρ) (call:w9 Nat->Bool->Nat->w9 AV->w9 Blk->(AV->w9 Blk->w8 ρ)->w8 ρ) (fid:Nat) (path:w9 Nat) (c:Bool) (all:w9 Oper) (i nid:Nat) (o:Oper) (S:St) (K:St->w8 ρ):w8 ρ :=
 match o.guard with
 |none=>jE E call fid (path++[i]) c S nid o fun v S=>K {t:=õ S.t o.dst v,h:=S.h}
 |some (j,want)=>match lk S.t (og all j) with
  |.bool b=>match b==want with
   |true=>jE E call fid (path++[i]) c S nid o fun v S=>K {t:=õ S.t o.dst v,h:=S.h}
   |false=>K {t:=õ S.t o.dst .und,h:=S.h}
  |.und=>K {t:=õ S.t o.dst .und,h:=S.h}
  |_=>none
def aaj {E:Env ρ} {call:w9 Nat->Bool->Nat->w9 AV->w9 Blk->(AV->w9 Blk->w8 ρ)->w8 ρ} {fid:Nat} {path:w9 Nat} {c:Bool} {all:w9 Oper} {o:Oper} {os:w9 Oper} {i nid:Nat} {S:St} {K:St->w8 ρ} :
 X4 E call fid path c all (o::os) i nid S K=oL E call fid path c all i nid o S fun m=>X4 E call fid path c all os (i+1) (bif ć E.clone o.op then nid+1 else nid) m K:=by
 simp only[X4,oL]
 have f:∀d b,lk S.t d=.bool b->({t:=upd S.t d (.bool b),h:=S.h}:St)=S:=fun d b hb=>by rw[<-hb,BQ]
 have e:∀d b,lk S.t d=.bool b->upd S.t d (.bool b)=S.t:=fun d b hb=>by rw[<-hb,BQ]
 cases o.guard with
 |none=>rfl
 |some g =>
  obtain⟨j,k⟩:=g;simp only
  cases hb:lk S.t (og all j)<;>try rfl
  rename_i b;have l:=f _ b hb;have h2:=e _ b hb
  cases b<;>cases k<;>simp only[l,h2]<;>rfl
def If {E : Env ρ} {call : w9 Nat -> Bool -> Nat -> w9 AV -> w9 Blk -> (AV -> w9 Blk -> w8 ρ) -> w8 ρ} {L : Nat} (y : XB E.P L call) (U : ∀ (f : Nat) (fn : Func), E.P.funcs[f]? = some fn -> (fn.name == "runtime.NumGoroutine") = false)
 (l:FK E.P E.clone) (z:Γ E) {fid:Nat} {path:w9 Nat} {m:Bool} {c:Array Oper} (T:rA c.toList c.toList=true)
 {S:St} {a:Act} {nid i:Nat} {o:Oper} {K:St->w8 ρ} {r:ρ} (D:path.length+1=L) (N:c[i]?=some o) (H:Sim ν S a w) (R:ć E.clone o.op=true->nid<S.h.length/\lkB S.h nid=.dead)
 (e:oL E call fid path m c.toList i nid o S K=some r) {next:Act->World->Prop} {Q:Exit->Act->World->Prop}
 (O:∀(ν':Nat->Value) (w':World) (u:Value) (v:AV) (q:St),VR ν' q.h w' v u->HR ν' q.h w'->Ev S.h.length ν S.h w ν' q.h w'->S.h.length<=q.h.length->(∀j,j<S.h.length->j≠nid\/ć E.clone o.op=false->lkB S.h j=.dead->lkB q.h j=.dead)->q.t=S.t ->
  K {t:=õ q.t o.dst v,h:=q.h}=some r->next (a.put o.dst u) w') :
 wpOpIn fen 0 E.P c Q i next a w:=by
 have run:jE E call fid (path++[i]) m S nid o (fun v S=>K {t:=õ S.t o.dst v,h:=S.h})=some r ->
  o.wpIn fen 0 E.P a w next Q:=fun J=>T7 y U l z (by simpa using D) H R J O
 -- it is left out
 have skip:K {t:=õ S.t o.dst .und,h:=S.h}=some r->next (a.put o.dst undef) w :=
  fun J=>O ν w undef .und S rfl H.heap (Ev.refl _ _ _ _) (cJ _) (fun _ _ _ hd=>hd) rfl J
 have B:o∈c.toList:=by
  have:c.toList[i]?=some o:=by simpa using N
  exact cY this
 unfold wpOpIn;rw[N];simp only[oL] at e
 split at e
 ·rename_i g
  have s:Region.wanted o (yielded c a.tmps)=true:=by simp[Region.wanted,g]
  simp only[s,if_true];exact run e
 ·rename_i j M g;obtain⟨p,d,D,hd⟩:=Oc T B g;obtain⟨I,G⟩:=XC (tmps:=a.tmps) D hd
  have x:og c.toList j=d:=by simp[og,D,hd]
  rw[x] at e;have C:=H.tmps d
  split at e
  ·rename_i b hb;rw[hb] at C;have A:=I b C
   split at e
   ·rename_i k
    have s:Region.wanted o (yielded c a.tmps)=true:=by
     simp only[beq_iff_eq] at k;simp[Region.wanted,g,A,k]
    simp only[s,if_true];exact run e
   ·rename_i k
    have s:Region.wanted o (yielded c a.tmps)=false:=by
     simp only[beq_eq_false_iff_ne] at k;simpa[Region.wanted,g,A] using k
    simp only[s,dj,if_false];exact⟨fun _ _=>trivial,skip e⟩
  ·rename_i hb;rw[hb] at C
   have s:Region.wanted o (yielded c a.tmps)=false:=by simp[Region.wanted,g,G C]
   simp only[s,dj,if_false];exact⟨fun _ _=>trivial,skip e⟩
  ·cases e
def aai {E : Env ρ} {call : w9 Nat -> Bool -> Nat -> w9 AV -> w9 Blk -> (AV -> w9 Blk -> w8 ρ) -> w8 ρ} {L : Nat} (m : XB E.P L call) (I : ∀ (f : Nat) (fn : Func), E.P.funcs[f]? = some fn -> (fn.name == "runtime.NumGoroutine") = false)
 (g:FK E.P E.clone) (p:Γ E) {fid:Nat} {path:w9 Nat} {k:Bool} {c:Array Oper} (G:rA c.toList c.toList=true)
 {S:St} {a:Act} {nid i:Nat} {o:Oper} {os:w9 Oper} {K:St->w8 ρ} {r:ρ} (z:path.length+1=L) (A:c[i]?=some o) (H:Sim ν S a w) (x:aeY (π E.clone (o::os)) nid S.h)
 (e:X4 E call fid path k c.toList (o::os) i nid S K=some r) {next:Act->World->Prop} {Q:Exit->Act->World->Prop}
 (C:∀(ν':Nat->Value) (w':World) (u:Value) (v:AV) (d:St),VR ν' d.h w' v u->HR ν' d.h w'->Ev S.h.length ν S.h w ν' d.h w'->S.h.length<=d.h.length->aeY (π E.clone os) (bif ć E.clone o.op then nid+1 else nid) d.h->(∀j,j<S.h.length->j<nid->lkB S.h j=.dead->lkB d.h j=.dead)->d.t=S.t ->
  X4 E call fid path k c.toList os (i+1) (bif ć E.clone o.op then nid+1 else nid) {t:=õ d.t o.dst v,h:=d.h} K=some r->next (a.put o.dst u) w') :
 wpOpIn fen 0 E.P c Q i next a w:=by
 have s:ć E.clone o.op=true->nid<S.h.length/\lkB S.h nid=.dead:=fun b=>x nid (cJ _) (by rw[mA,b]; simp)
 have l:aeY (π E.clone os) (bif ć E.clone o.op then nid+1 else nid) S.h:=fun j q h2=>by
  cases b:ć E.clone o.op with
  |true=>rw[b] at q h2; exact x j (by simp at q; omega) (by rw[mA,b]; simp at h2 ⊢; omega)
  |false=>rw[b] at q h2; exact x j (by simpa using q) (by rw[mA,b]; simpa using h2)
 rw[aaj] at e;refine If m I g p G z A H s e fun ν' w' u v d W V U T y R O=>C ν' w' u v d W V U T (fun j h2 N=>?_) (fun j D B hd=>y j D (.inl (by omega)) hd) R O;obtain⟨M,J⟩:=l j h2 N;refine⟨by omega,y j M ?_ J⟩
 cases b:ć E.clone o.op with
 |true=>left; rw[b] at h2; simp at h2; omega
 |false=>exact .inr rfl
end
end Go.Am
end

noncomputable section
namespace Go.Am
variable [Globs] [Ghost]
section
variable {ρ:Type} {ν ν':Nat->Value} {h h':w9 Blk} {w w':World} {P:Program}
def Dd (m:Nat) (h h':w9 Blk):Prop:=∀j,j<m->lkB h j=.dead->lkB h' j=.dead
def Dd.refl (m:Nat) (h:w9 Blk):Dd m h h:=fun _ _ hd=>hd
def Dd.trans {m c:Nat} {h h' b:w9 Blk} (f:Dd m h h') (h2:Dd c h' b) (e:m<=c):Dd m h b:=fun j d hd=>h2 j (cX d e) (f j d hd)
def TK (m:Nat) (ν:Nat->Value) (h:w9 Blk) (w:World) (K:Exit->St->w8 ρ) (r:ρ) (e:Exit) (c:Act) (w':World):Prop :=
 ∃ν' b,Sim ν' b c w'/\Ev m ν h w ν' b.h w'/\m<=b.h.length/\Dd m h b.h/\K e b=some r
def TK.trans {m g:Nat} {K:Exit->St->w8 ρ} {r:ρ} {e:Exit} {i:Act} {b:Nat->Value} {c:w9 Blk} {d:World} (ev:Ev m ν h w b c d) (hd:Dd m h c) (f:m<=g) (ha:TK g b c d K r e i w'):TK m ν h w K r e i w':=by
 obtain⟨ν',p,o,h2,l,k,j⟩:=ha;exact⟨ν',p,o,ev.trans h2 f,cW f l,hd.trans k f,j⟩
def ac0 (E:Env ρ) (call:w9 Nat->Bool->Nat->w9 AV->w9 Blk->(AV->w9 Blk->w8 ρ)->w8 ρ):Prop :=
 (∀path c g b h K,call path c g b h K=none) \/
 ((∀ f p, E.pure f = some p -> ∀ path c b h K, call path c f b h K = OY (c && !E.fz f) p h b K) /\
  (∀f,E.pure f=none->E.sort f=true->∀path c b h K,call path c f b h K=match b with|[x]=>OP h x K|_=>none) /\
  (∀f,E.pure f=none->E.sort f=false->E.compact f=true->∀path c b h K,call path c f b h K=match b with|[x]=>om h x K|_=>none))
def NormOk (m:Nat) (N:St->w8 St):Prop:=∀(S b:St) (ν:Nat->Value) (a:Act) (w:World),N S=some b->Sim ν S a w->m<=S.h.length->∃ν',Sim ν' b a w/\Ev m ν S.h w ν' b.h w/\m<=b.h.length/\Dd m S.h b.h
def Xz (E:Env ρ):Prop:=∀path fid rid m J,E.joins path fid rid m=some J->∃N,NormOk m N/\∀body rest,J body rest=body (fun S=>match N S with|some b=>rest b|none=>none)
def ě {E:Env ρ} (h:E.joins=fun _ _ _ _=>none):Xz E:=by
 intro path fid rid m J e;rw[h] at e;cases e
structure jB (E:Env ρ) (L:Nat) (call:w9 Nat->Bool->Nat->w9 AV->w9 Blk->(AV->w9 Blk->w8 ρ)->w8 ρ):Prop where
 pureEq:ac0 E call
 call:XB E.P L call
 plain : ∀ (f : Nat) (fn : Func), E.P.funcs[f]? = some fn -> (fn.name == "runtime.NumGoroutine") = false
 clone:FK E.P E.clone
 joins:Xz E
 yld:Γ E
def Rt {E:Env ρ} {call:w9 Nat->Bool->Nat->w9 AV->w9 Blk->(AV->w9 Blk->w8 ρ)->w8 ρ} {L:Nat} (g:jB E L call) {fid:Nat} {path:w9 Nat} {l:Bool} {b:Array Oper} (A:path.length+1=L) (C:rA b.toList b.toList=true)
 {K:St->w8 ρ} {r:ρ} {Q:Exit->Act->World->Prop} {m:Nat}:∀(os:w9 Oper) (i nid:Nat) (S:St) (a:Act) (ν:Nat->Value) (w:World),(∀k,os[k]?=b[i+k]?)->Sim ν S a w->aeY (π E.clone os) nid S.h->m<=nid->m<=S.h.length ->
  X4 E call fid path l b.toList os i nid S K=some r ->
  (∀ν' c G w',Sim ν' c G w'->Ev m ν S.h w ν' c.h w'->m<=c.h.length->Dd m S.h c.h->K c=some r->Q .normal G w') ->
  wpOpsIn fen 0 E.P b Q (List.range' i os.length) a w
 |[],i,nid,S,a,ν,w,_,H,_,_,s,e,x=>x ν S a w H (Ev.refl _ _ _ _) s (Dd.refl _ _) e
 |o::os,i,nid,S,a,ν,w,B,H,I,J,s,e,x=>by
  rw[cV,List.range'_succ,wpOpsIn_cons]
  have q:b[i]?=some o:=by have:=B 0; simpa using this.symm
  refine aai g.call g.plain g.clone g.yld C A q H I e fun ν' w' u v c U h2 D h4 T N R O=>?_;have f:=H.put D h2 o.dst U
  refine Rt g A C os (i+1) _ {t:=õ c.t o.dst v,h:=c.h} _ ν' w' (fun k=>by have:=B (k+1); rw[show i+1+k=i+(k+1) by omega]; simpa using this) (by rw[R]; exact f) T (by cases ć E.clone o.op<;>simp<;>omega) (by simp; omega) O
   fun d z y p Z Y X W V=>x d z y p Z ((D.mono s).trans Y (cJ _)) X (fun j M hd=>W j M (N j (by omega) (by omega) hd)) V
def Ub {E:Env ρ} {call:w9 Nat->Bool->Nat->w9 AV->w9 Blk->(AV->w9 Blk->w8 ρ)->w8 ρ} {L:Nat} (o:jB E L call) {fid rid:Nat} {path:w9 Nat} {c:Array Oper} {S:St} {a:Act} {K:Exit->St->w8 ρ} {r:ρ} {m:Nat} (g:path.length+1=L)
 (e:Iq E call fid path false c.toList S (K .normal)=some r) (H:Sim ν S a w) (i:m<=S.h.length):(Code.region rid c false).wpIn fen 0 E.P (TK m ν S.h w K r) a w:=by
 unfold Iq at e
 split at e<;>try (cases e; done)
 rename_i f;simp only[gu,Bool.false_or,fc] at f;apply wpIn_region;have b:=fun id=>Ks S.h (π E.clone c.toList) id;have z:Sim ν {t:=S.t,h:=S.h++List.replicate (π E.clone c.toList) .dead} a w:=H.same b rfl rfl rfl rfl;have d:Ev m ν S.h w ν (S.h++List.replicate (π E.clone c.toList) .dead) w:=Ev.same b rfl rfl rfl rfl m
 have:=Rt (m:=m) (Q:=TK m ν S.h w K r) o g f c.toList 0 S.h.length _ a ν w (fun k=>by simp) z (fun j p h2=>⟨by simp; omega,by simp only[b]; exact DN _ _ p⟩) i (by simp; omega) e
  (fun ν' y A w' x v u s q=>⟨ν',y,x,d.trans v (cJ _),u,fun j l hd=>s j l (by simp only[b]; exact hd),q⟩)
 rw[List.range_eq_range'];simpa using this
def pN (E:Env ρ) (L:Nat) (call:w9 Nat->Bool->Nat->w9 AV->w9 Blk->(AV->w9 Blk->w8 ρ)->w8 ρ):Prop :=
 ∀(fid rid:Nat) (path:w9 Nat) (b:Array Oper) (S:St) (a:Act) (K:Exit->St->w8 ρ) (r:ρ) (m:Nat) (ν:Nat->Value) (w:World),path.length+1=L ->
  Iq E call fid path true b.toList S (K .normal)=some r->Sim ν S a w->m<=S.h.length->(Code.region rid b true).wpIn fen 0 E.P (TK m ν S.h w K r) a w
def drawn:Code->Bool
 |.region _ _ d=>d
 |.seq a b=>drawn a||drawn b
 |.cond _ a b=>drawn a||drawn b
 |.block _ b=>drawn b
 |.scope b=>drawn b
 |_=>false
def noGoto (Q:Exit->Act->World->Prop):Exit->Act->World->Prop
 |.goto _,_,_=>False
 |e,a,w=>Q e a w
section
variable {F:Fence} {n:Nat} {P:Program} {Q:Exit->Act->World->Prop} {a:Act} {w:World}
def lO {b:Frame} {k:w9 Item} {cs:w9 Frame} {c:Code}:step P (lone (b.atR a (.code (.scope c)::k)) cs w)=.next (lone (b.atR a (.code c::.inScope c::k)) cs w) :=
 step_lone_go (by simp[stepG,stepG.exec,Frame.atR])
def OM {b:Frame} {k:w9 Item} {cs:w9 Frame} {c:Code}:step P (lone (b.atR a (.inScope c::k)) cs w)=.next (lone (b.atR a k) cs w) :=
 step_lone_go (by simp[stepG,stepG.exec,Frame.atR])
def XD {c:Code} (h:c.wpIn F n P (noGoto Q) a w):(Code.scope c).wpIn F n P Q a w:=by
 intro b k cs j hb o;have h0:(lone (b.atR a (.code (.scope c)::k)) cs w).fenced P F:=fenced_calm hb o rfl;obtain⟨e,g,f,i,d⟩:=h b (.inScope c::k) cs j hb o
 cases e with
 |normal=>exact⟨.normal,g,f,i,.head h0 lO (StepsIn.trans d (.one (fenced_calm hb o rfl) OM))⟩
 |exit id =>
  have q:exitTo id (.inScope c::k)=exitTo id k:=by simp[exitTo]
  exact⟨.exit id,g,f,i,fun r p=>.head h0 lO (d.1 r (by rw[q]; exact p)),
   fun m p=>let ⟨k₁,s,h2⟩:=d.2 m (by rw[q]; exact p); ⟨k₁,s,.head h0 lO h2⟩⟩
 |goto l=>exact i.elim
 |ret=>exact⟨_,g,f,i,.of_steps (.one h0 lO) d⟩
 |panic ch=>exact⟨_,g,f,i,.of_steps (.one h0 lO) d⟩
 |outgrown=>exact⟨_,g,f,i,.of_steps (.one h0 lO) d⟩
end
def kD (E:Env ρ) (path:w9 Nat) (fid bid:Nat):LI->Prop
 |.lp b=>∀(m:Nat) (S:St) (K:Exit->St->w8 ρ) (r:ρ) (ν:Nat->Value) (a:Act) (w:World),E.loops path fid bid m S K=some r->Sim ν S a w->m<=S.h.length->(Code.loop b).wpIn fen 0 E.P (TK m ν S.h w K r) a w
 |.rf g ps x y=>∀(m:Nat) (S:St) (K:Exit->St->w8 ρ) (r:ρ) (ν:Nat->Value) (a:Act) (w:World),E.ranges path fid bid m (ev S.t g) S K=some r->Sim ν S a w->m<=S.h.length->(Code.rangeFunc g ps x y).wpIn fen 0 E.P (TK m ν S.h w K r) a w
def tC {E:Env ρ} {call:w9 Nat->Bool->Nat->w9 AV->w9 Blk->(AV->w9 Blk->w8 ρ)->w8 ρ} {L:Nat} (R:jB E L call) {fid:Nat} {path:w9 Nat} (O:path.length+2=L) {m:Nat} {r:ρ}:∀(c:Code) (bid:Nat) (S:St) (K:Exit->St->w8 ρ) (ν:Nat->Value) (a:Act) (w:World),
 (drawn c=true->pN E L call)->(∀x∈Ï bid c,kD E path fid x.1 x.2)->goC E call fid path m bid c S K=some r->Sim ν S a w->m<=S.h.length->c.wpIn fen 0 E.P (TK m ν S.h w K r) a w:=by
 intro c
 induction c with
 |skip=>exact fun bid S K ν a w _ _ e H p=>wpIn_skip ⟨ν,S,H,Ev.refl _ _ _ _,p,Dd.refl _ _,e⟩
 |label l=>exact fun bid S K ν a w _ _ e H p=>wpIn_label ⟨ν,S,H,Ev.refl _ _ _ _,p,Dd.refl _ _,e⟩
 |exit id=>exact fun bid S K ν a w _ _ e H p=>wpIn_exit ⟨ν,S,H,Ev.refl _ _ _ _,p,Dd.refl _ _,e⟩
 |ret=>exact fun bid S K ν a w _ _ e H p=>wpIn_ret ⟨ν,S,H,Ev.refl _ _ _ _,p,Dd.refl _ _,e⟩
 |region rid ops draw =>
  intro bid S K ν a w s _ e H p;simp only[goC,abJ] at e
  cases draw with
  |false=>exact Ub R (by simpa using O) e H p
  |true=>exact s rfl fid rid _ ops S a K r m ν w (by simpa using O) e H p
 |seq x y ihx ihy =>
  intro bid S K ν a w s q e H p;simp only[goC] at e
  cases u:E.joins path fid (KE y) m with
  |none =>
   rw[u] at e;simp only at e;refine wpIn_seq (wpIn_mono (ihx bid S _ ν a w (fun h=>s (by simp[drawn,h])) (fun z t=>q z (dH _ t)) e H p) fun v A w' ha=>?_);obtain⟨ν',o,k,h2,i,f,d⟩:=ha
   cases v with
   |normal =>
    exact wpIn_mono (ihy bid o K ν' A w' (fun h=>s (by simp[drawn,h])) (fun z t=>q z (dl _ t)) d k i) fun I M G ha=>ha.trans h2 f (cJ _)
   |exit id=>exact⟨ν',o,k,h2,i,f,d⟩
   |goto l=>exact⟨ν',o,k,h2,i,f,d⟩
   |ret=>exact⟨ν',o,k,h2,i,f,d⟩
   |panic ch=>exact⟨ν',o,k,h2,i,f,d⟩
   |outgrown=>exact⟨ν',o,k,h2,i,f,d⟩
  |some J =>
   rw[u] at e;simp only at e;obtain⟨N,U,V⟩:=R.joins _ _ _ _ _ u;rw[V] at e;refine wpIn_seq (wpIn_mono (ihx bid S _ ν a w (fun h=>s (by simp[drawn,h])) (fun z t=>q z (dH _ t)) e H p) fun v A w' ha=>?_);obtain⟨ν',o,k,h2,i,f,d⟩:=ha
   cases v with
   |normal =>
    simp only at d
    split at d<;>try (cases d; done)
    rename_i D T;obtain⟨B,Z,Y,X,W⟩:=U o D ν' A w' T k i;exact wpIn_mono (ihy bid D K B A w' (fun h=>s (by simp[drawn,h])) (fun z t=>q z (dl _ t)) d Z X) fun I M G ha=>ha.trans (h2.trans Y (cJ _)) (f.trans W (cJ _)) (cJ _)
   |exit id=>exact⟨ν',o,k,h2,i,f,d⟩
   |goto l=>exact⟨ν',o,k,h2,i,f,d⟩
   |ret=>exact⟨ν',o,k,h2,i,f,d⟩
   |panic ch=>exact⟨ν',o,k,h2,i,f,d⟩
   |outgrown=>exact⟨ν',o,k,h2,i,f,d⟩
 |cond c x y ihx ihy =>
  intro bid S K ν a w s q e H p;simp only[goC] at e
  split at e<;>try (cases e; done)
  rename_i b hb;have C:=Đ H c;rw[hb] at C;have C:a.eval c=.bool b:=C
  split at e
  ·exact wpIn_cond_true C (ihx bid S K ν a w (fun h=>s (by simp[drawn,h])) (fun z t=>q z (dH _ t)) e H p)
  ·exact wpIn_cond_false C (ihy bid S K ν a w (fun h=>s (by simp[drawn,h])) (fun z t=>q z (dl _ t)) e H p)
 |block id b ih =>
  intro bid S K ν a w s q e H p;simp only[goC] at e;refine wpIn_block (wpIn_mono (ih id S _ ν a w (fun h=>s (by simpa[drawn] using h)) q e H p) fun v A w' ha=>?_);obtain⟨ν',o,k,h2,i,f,d⟩:=ha
  cases v with
  |exit j =>
   simp only[Exit.inBlock];simp only at d
   split at d
   ·rename_i u;rw[if_pos (eq_of_beq u)];exact⟨ν',o,k,h2,i,f,d⟩
   ·rename_i u
    have:¬j=id:=by simpa using u
    rw[if_neg this];exact⟨ν',o,k,h2,i,f,d⟩
  |normal=>exact⟨ν',o,k,h2,i,f,d⟩
  |goto l=>exact⟨ν',o,k,h2,i,f,d⟩
  |ret=>exact⟨ν',o,k,h2,i,f,d⟩
  |panic ch=>exact⟨ν',o,k,h2,i,f,d⟩
  |outgrown=>exact⟨ν',o,k,h2,i,f,d⟩
 |loop b ih =>
  intro bid S K ν a w s q e H p;simp only[goC] at e;exact q (bid,.lp b) (by simp[Ï]) m S K r ν a w e H p
 |rangeFunc g ps x y ihx ihy =>
  intro bid S K ν a w s q e H p;simp only[goC] at e;exact q (bid,.rf g ps x y) (by simp[Ï]) m S K r ν a w e H p
 |scope b ih =>
  intro bid S K ν a w s q e H p;simp only[goC] at e;refine XD (wpIn_mono (ih bid S _ ν a w (fun h=>s (by simpa[drawn] using h)) q e H p) fun v A w' ha=>?_);obtain⟨ν',o,k,h2,i,f,d⟩:=ha
  cases v with
  |goto l=>cases d
  |normal=>exact⟨ν',o,k,h2,i,f,d⟩
  |exit id=>exact⟨ν',o,k,h2,i,f,d⟩
  |ret=>exact⟨ν',o,k,h2,i,f,d⟩
  |panic ch=>exact⟨ν',o,k,h2,i,f,d⟩
  |outgrown=>exact⟨ν',o,k,h2,i,f,d⟩
 |_=>intro bid S K ν a w s q e H p; cases e
def pF {E:Env ρ} {call:w9 Nat->Bool->Nat->w9 AV->w9 Blk->(AV->w9 Blk->w8 ρ)->w8 ρ} {L:Nat} (g:jB E L call) (i:pN E L call) {fid:Nat} {path:w9 Nat} (b:path.length+2=L) {m:Nat} {r:ρ} (c:Code) (bid:Nat) (S:St) (K:Exit->St->w8 ρ) (ν:Nat->Value) (a:Act) (w:World)
 (f:∀x∈Ï bid c,kD E path fid x.1 x.2) (e:goC E call fid path m bid c S K=some r) (H:Sim ν S a w) (d:m<=S.h.length):c.wpIn fen 0 E.P (TK m ν S.h w K r) a w :=
 tC g b c bid S K ν a w (fun _=>i) f e H d
end
end Go.Am
end

noncomputable section
namespace Go.Am
variable [Globs] [Ghost]
section
variable {ρ:Type} {ν ν':Nat->Value} {h h':w9 Blk} {w w':World} {P:Program}
def acZ:Prop:=∀(T:Tpl) (pin:Nat) (cs vs:w9 Ty) (S:St) (p:Val (tyL cs)) (v:Val (tyL vs)) (ν:Nat->Value) (a:Act) (w:World),sh T pin cs vs S=some (p,v)->Sim ν S a w ->
 ∃ν',Sim ν' (Û T cs vs p v) a w/\Ev pin ν S.h w ν' (Û T cs vs p v).h w/\pin<=(Û T cs vs p v).h.length/\Dd pin S.h (Û T cs vs p v).h
def Oh:∀(l:w9 (Exit×Tpl×w9 Ty)) (e:Exit) (i j:Nat),aej l e i=some j->∃x,i<=j/\l[j-i]?=some x/\HF x.1 e=true
 |[],_,_,_,h=>by cases h
 |x::l,e,i,j,h=>by
  unfold aej at h
  split at h
  ·rename_i b;cases h;exact⟨x,cJ _,by simp,b⟩
  ·obtain⟨y,d,h2,c⟩:=Oh l e (i+1) j h;refine⟨y,by omega,?_,c⟩;rw[show j-i=(j-(i+1))+1 by omega];simpa using h2
def T6 {a b:Exit} (h:HF a b=true):a=b:=by
 unfold HF at h
 split at h
 ·rw[eq_of_beq h]
 ·rfl
 ·cases h
def WG [LC] (X:acZ) {E:Env ρ} {call:w9 Nat->Bool->Nat->w9 AV->w9 Blk->(AV->w9 Blk->w8 ρ)->w8 ρ} {N:Nat} (hE:jB E N call) (hD:pN E N call) {fid bid:Nat} {path:w9 Nat} (G:path.length+2=N) {b:Code}
 (W:∀x∈Ï bid b,kD E path fid x.1 x.2) (L:Å)
 (bF:Val (tyL L.cs)->Val (tyL L.vs)->(Val (tyL L.vs)->w8 ρ)->((i:Nat)->Val (tyL (L.zs i))->w8 ρ)->w8 ρ)
 (law:∀p v B kx,goC E call fid path L.pin bid b (Û L.head L.cs L.vs p v) (Ew L B kx)=bF p v (B p) (fun i=>kx i p)) {m:Nat} {S:St} {K:Exit->St->w8 ρ} {r:ρ} {ν:Nat->Value} {a:Act} {w:World} (e:T8 L bF m S K=some r) (H:Sim ν S a w) (hm:m<=S.h.length):(Code.loop b).wpIn fen 0 E.P (TK m ν S.h w K r) a w:=by
 unfold T8 at e
 split at e<;>try (cases e; done)
 rename_i c;have c:m<=L.pin:=dM c
 split at e<;>try (cases e; done)
 rename_i p v u;obtain⟨n,hn⟩:=Yv e;obtain⟨d,H1,O,J,T⟩:=X _ _ _ _ _ _ _ ν a w u H;apply wpIn_loop_rounds n
 have key:∀(n:Nat) (p:Val (tyL L.cs)) (v:Val (tyL L.vs)) (d:Nat->Value) (o:Act) (f:World),iter (fun v B=>bF p v B fun i z=>K (L.xk i) (Û (L.tpl i) L.cs (L.zs i) p z)) n v=some r ->
  Sim d (Û L.head L.cs L.vs p v) o f->Ev m ν S.h w d (Û L.head L.cs L.vs p v).h f->L.pin<=(Û L.head L.cs L.vs p v).h.length->Dd m S.h (Û L.head L.cs L.vs p v).h ->
  Code.roundsIn fen 0 E.P b (TK m ν S.h w K r) n o f:=by
  intro n
  induction n with
  |zero=>intro p v d o f e; cases e
  |succ n ih =>
   intro p v d o f e H1 O J T;rw[roundsIn_succ];have hl:=law p v (fun p v=>iter (fun v B=>bF p v B fun i z=>K (L.xk i) (Û (L.tpl i) L.cs (L.zs i) p z)) n v) (fun i p z=>K (L.xk i) (Û (L.tpl i) L.cs (L.zs i) p z))
   have e':goC E call fid path L.pin bid b (Û L.head L.cs L.vs p v) (Ew L (fun p v=>iter (fun v B=>bF p v B fun i z=>K (L.xk i) (Û (L.tpl i) L.cs (L.zs i) p z)) n v) (fun i p z=>K (L.xk i) (Û (L.tpl i) L.cs (L.zs i) p z)))=some r:=by
    rw[hl]; exact e
   refine wpIn_mono (pF hE hD G b bid _ _ d o f W e' H1 J) fun x t k ha=>?_;obtain⟨s,A,H2,Y,hp2,Z,g⟩:=ha;have C:Ev m ν S.h w s A.h k:=O.trans Y c;have D:Dd m S.h A.h:=T.trans Z c
   have out:∀x,x≠.normal->Ew L (fun p v=>iter (fun v B=>bF p v B fun i z=>K (L.xk i) (Û (L.tpl i) L.cs (L.zs i) p z)) n v) (fun i p z=>K (L.xk i) (Û (L.tpl i) L.cs (L.zs i) p z)) x A=some r->TK m ν S.h w K r x t k:=by
    intro x hx g;unfold Ew at g
    split at g
    ·exact absurd rfl hx
    ·split at g<;>try (cases g; done)
     rename_i i hi
     split at g<;>try (cases g; done)
     rename_i U z u;obtain⟨y,_,h1,h2⟩:=Oh _ _ _ _ hi
     have V:L.xk i=x:=by
      have:L.exits[i]?=some y:=by simpa using h1
      unfold Å.xk;rw[this];exact T6 h2
     obtain⟨q,H3,M,I,R⟩:=X _ _ _ _ _ _ _ s t k u H2;have g:K (L.xk i) (Û (L.tpl i) L.cs (L.zs i) U z)=some r:=g;rw[V] at g;exact⟨q,_,H3,C.trans M c,cW c I,D.trans R c,g⟩
   cases x with
   |normal =>
    simp only[Ew] at g
    split at g<;>try (cases g; done)
    rename_i U v' u;obtain⟨q,H3,M,I,R⟩:=X _ _ _ _ _ _ _ s t k u H2;exact ih U v' q t k g H3 (C.trans M c) I (D.trans R c)
   |exit id=>exact out _ (by simp) g
   |ret=>exact out _ (by simp) g
   |goto l=>exact out _ (by simp) g
   |panic ch=>exact out _ (by simp) g
   |outgrown=>exact out _ (by simp) g
 exact key n p v d a w hn H1 (O.mono c) J (fun j hj hd=>T j (by omega) hd)
end
end Go.Am
end

noncomputable section
namespace Go.Am
variable [Globs] [Ghost]
section
variable {ν:Nat->Value} {h h':w9 Blk} {w:World}
def Tn {t:Ty} {d:DV} {x:Val t} (e:Ln t d=some x):d=⟨t,x⟩:=by
 unfold Ln at e
 split at e<;>try (cases e; done)
 rename_i b _;obtain⟨ty,val⟩:=d;simp only at b;subst b;cases e;rfl
def XG (u:Ty) (l:w9 Ty) (t:Ty) (d:DV) (b:w9 DV):XH (u::l) t (d::b)=(match Ln t d with
 |some x=>match XH l u b with
  |some y=>some ((x,y):Val t×Val (tys u l))
  |none=>none
 |none=>none):=rfl
def aan (t:Ty) (x:Val t):X7 t [] x=[⟨t,x⟩]:=rfl
def X6 (t u:Ty) (l:w9 Ty) (x:Val t) (y:Val (tys u l)):X7 t (u::l) ((x,y):Val t×Val (tys u l))=⟨t,x⟩::X7 u l y:=rfl
def adm (l:w9 Ty):∀(t:Ty) (b:w9 DV) (x:Val (tys t l)),XH l t b=some x->X7 t l x=b:=by
 induction l with
 |nil =>
  intro t b x e
  match b,e with
  |[],e=>exact absurd (show(none:w8 (Val t))=some x from e) (fun h=>by cases h)
  |[d],e =>
   have e:Ln t d=some x:=e;rw[Tn e]; exact aan t x
  |_::_::_,e=>exact absurd (show(none:w8 (Val t))=some x from e) (fun h=>by cases h)
 |cons u l g =>
  intro t b x e
  match b,e with
  |[],e=>exact absurd (show(none:w8 (Val t×Val (tys u l)))=some x from e) (fun h=>by cases h)
  |d::b,e =>
   rw[XG] at e
   cases c:Ln t d with
   |none=>rw[c] at e; exact absurd (show(none:w8 (Val t×Val (tys u l)))=some x from e) (fun h=>by cases h)
   |some y =>
    cases f:XH l u b with
    |none=>rw[c,f] at e; exact absurd (show(none:w8 (Val t×Val (tys u l)))=some x from e) (fun h=>by cases h)
    |some z =>
     rw[c,f] at e;have e:((y,z):Val t×Val (tys u l))=x:=Option.some.inj e;rw[<-e,Tn c,<-g u b z f];exact X6 t u l y z
def VB (l:w9 Ty) (b:w9 DV) (x:Val (tyL l)) (e:afK l b=some x):Ul l x=b:=by
 cases l with
 |nil=>cases b with
  |nil=>rfl
  |cons=>cases e
 |cons t l=>exact adm l t b x e
def νb (B:w9 Bd) (ν:Nat->Value) (i:Nat):Value :=
 match gT B i with
 |some (.at_ id)=>ν id
 |some .new=>.slice none 0 0
 |some .newd=>.agg [Value.slice none 0 0].toArray
 |_=>undef
structure Ext (M M':Mt):Prop where
 bd:∀i id,gT M.bd i=some (.at_ id)->gT M'.bd i=some (.at_ id)
 new:∀i,gT M.bd i=some .new->gT M'.bd i=some .new
 newd:∀i,gT M.bd i=some .newd->gT M'.bd i=some .newd
 cons:M.cons <+: M'.cons
 vars:M.vars <+: M'.vars
 freed:∀i∈M.freed,i∈M'.freed
 len:M'.bd.length=M.bd.length
def Ext.refl (M:Mt):Ext M M:=⟨fun _ _ h=>h,fun _ h=>h,fun _ h=>h,dO,dO,fun _ h=>h,rfl⟩
def Ext.trans {M c b:Mt} (h:Ext M c) (k:Ext c b):Ext M b :=
 ⟨fun i id q=>k.bd i id (h.bd i id q),fun i q=>k.new i (h.new i q),fun i q=>k.newd i (h.newd i q),h.cons.trans k.cons,h.vars.trans k.vars,fun i q=>k.freed i (h.freed i q),k.len.trans h.len⟩
def Ŝ:∀(l:w9 Bd) (d:Nat) (b:Bd) (i:Nat),gT (GI l d b) i=if i=d/\d<l.length then some b else gT l i
 |[],d,v,i=>by simp[GI,gT]
 |x::xs,0,v,0=>by simp[GI,gT]
 |x::xs,0,v,i+1=>by simp[GI,gT]
 |x::xs,d+1,v,0=>by simp[GI,gT]
 |x::xs,d+1,v,i+1=>by simp[GI,gT,Ŝ xs d v i]
def rr:∀(l:w9 Bd) (d:Nat) (b:Bd),(GI l d b).length=l.length
 |[],_,_=>rfl
 |_::_,0,_=>rfl
 |_::xs,d+1,v=>by simp[GI,rr xs d v]
def uD:∀{l:w9 Bd} {i:Nat} {b:Bd},gT l i=some b->i<l.length
 |[],_,_,h=>by cases h
 |_::_,0,_,_=>gL _
 |_::_,i+1,_,h=>Nat.succ_lt_succ (uD (by simpa[gT] using h))
def Ņ {M d:Mt} {i id:Nat} (e:El M i id=some d):Ext M d/\gT d.bd i=some (.at_ id)/\d.cons=M.cons/\d.vars=M.vars:=by
 unfold El at e
 split at e<;>try (cases e; done)
 ·rename_i c;cases e;have g:=uD c;refine⟨⟨fun j f q=>?_,fun j q=>?_,fun j q=>?_,dO,dO,fun _ q=>q,rr _ _ _⟩,by simp[Ŝ,g],rfl,rfl⟩
  ·simp only[Ŝ]
   by_cases b:j=i
   ·subst b; rw[c] at q; cases q
   ·simp[b,q]
  ·simp only[Ŝ]
   by_cases b:j=i
   ·subst b; rw[c] at q; cases q
   ·simp[b,q]
  ·simp only[Ŝ]
   by_cases b:j=i
   ·subst b; rw[c] at q; cases q
   ·simp[b,q]
 ·rename_i f c
  split at e<;>try (cases e; done)
  rename_i hi;cases e;rw[eq_of_beq hi] at c;exact⟨Ext.refl _,c,rfl,rfl⟩
def GF {M c:Mt} {i:Nat} (e:Vg M i=some c):Ext M c/\gT c.bd i=some .new/\c.cons=M.cons/\c.vars=M.vars:=by
 unfold Vg at e
 split at e<;>try (cases e; done)
 rename_i d;cases e;have f:=uD d;refine⟨⟨fun j g q=>?_,fun j q=>?_,fun j q=>?_,dO,dO,fun _ q=>q,rr _ _ _⟩,by simp[Ŝ,f],rfl,rfl⟩
 ·simp only[Ŝ]
  by_cases b:j=i
  ·subst b; rw[d] at q; cases q
  ·simp[b,q]
 ·simp only[Ŝ]
  by_cases b:j=i
  ·subst b; rw[d] at q; cases q
  ·simp[b,q]
 ·simp only[Ŝ]
  by_cases b:j=i
  ·subst b; rw[d] at q; cases q
  ·simp[b,q]
def Ek {M c:Mt} {i:Nat} (e:Qd M i=some c):Ext M c/\gT c.bd i=some .newd/\c.cons=M.cons/\c.vars=M.vars:=by
 unfold Qd at e
 split at e<;>try (cases e; done)
 rename_i d;cases e;have f:=uD d;refine⟨⟨fun j g q=>?_,fun j q=>?_,fun j q=>?_,dO,dO,fun _ q=>q,rr _ _ _⟩,by simp[Ŝ,f],rfl,rfl⟩
 ·simp only[Ŝ]
  by_cases b:j=i
  ·subst b; rw[d] at q; cases q
  ·simp[b,q]
 ·simp only[Ŝ]
  by_cases b:j=i
  ·subst b; rw[d] at q; cases q
  ·simp[b,q]
 ·simp only[Ŝ]
  by_cases b:j=i
  ·subst b; rw[d] at q; cases q
  ·simp[b,q]
def kin:Blk->Blk->Prop
 |.row t _ false xs,B=>B=.row t 0 false xs
 |.row t g true xs,B=>B=.row t g true xs
 |.map k v es,B=>B=.map k v es
 |.cells _,B=>∃c,B=.cells c
 |.dead,B=>B=.dead
 |.deep k _ xss,B=>B=.deep k 0 xss
 |.acc t xs,B=>B=.acc t xs
 |.fns _,B=>∃b,B=.fns b
 |.iter s q,B=>B=.iter s q
structure Fin (ν:Nat->Value) (h:w9 Blk) (w:World) (M:Mt) (h':w9 Blk):Prop where
 at_:∀i id,gT M.bd i=some (.at_ id)->kin (lkB h id) (lkB h' i)
 new:∀i,gT M.bd i=some .new->∃t,lkB h' i=.row t 0 false []
 newd:∀i,gT M.bd i=some .newd->∃k,lkB h' i=.deep k 0 []
 out:∀i,(∀id,gT M.bd i≠some (.at_ id))->gT M.bd i≠some .new->gT M.bd i≠some .newd->lkB h' i=.dead
 freed:∀id∈M.freed,∀i,gT M.bd i≠some (.at_ id)
 inj:∀i j id,gT M.bd i=some (.at_ id)->gT M.bd j=some (.at_ id)->i=j
def Fin.live {M:Mt} (F:Fin ν h w M h') {b:Nat} (hb:pP (νb M.bd ν) h' b):∃i id,gT M.bd i=some (.at_ id)/\(lkB h id).live=true/\ģ (ν id) b:=by
 obtain⟨i,d,e⟩:=hb
 cases c:gT M.bd i with
 |none=>rw[F.out i (by simp[c]) (by simp[c]) (by simp[c])] at d; cases d
 |some bd =>
  cases bd with
  |open_=>rw[F.out i (by simp[c]) (by simp[c]) (by simp[c])] at d; cases d
  |new=>simp only[νb,c] at e; cases e
  |newd =>
   simp only[νb,c] at e;obtain⟨u,k,hb⟩:=e;simp at k;subst k;cases hb
  |at_ id =>
   refine⟨i,id,c,?_,by simpa[νb,c] using e⟩;have j:=F.at_ i id c
   cases f:lkB h id with
   |dead=>rw[f] at j; rw[show lkB h' i=_ from j] at d; cases d
   |cells=>rfl
   |map=>rfl
   |deep=>rfl
   |acc=>rfl
   |fns=>rfl
   |iter=>rfl
   |row t g fz xs =>
    cases fz with
    |false=>rfl
    |true=>rw[f] at j; rw[show lkB h' i=_ from j] at d; cases d
def Fin.subL {M:Mt} (F:Fin ν h w M h') (b:Nat) (hb:pP (νb M.bd ν) h' b):pP ν h b:=by
 obtain⟨i,id,_,h2,c⟩:=F.live hb;exact⟨id,h2,c⟩
def Fin.sub {M:Mt} (F:Fin ν h w M h') (b:Nat) (hb:Av (νb M.bd ν) h' b):Av ν h b:=hb.imp_left (F.subL b)
def Xc (H:HR ν h w) {M:Mt} (F:Fin ν h w M h') {t:Ty} {v:AV} {u:Value} {x:Val t} (z:∀i∈Oe h v,i∈M.freed) (e:Ò t [ò h v]=some x) (y:VR ν h w v u) :
 VR (νb M.bd ν) h' w (YP ⟨t,x⟩) u:=by
 have c:∀(q:v.isAgg=false) (p:v.isTup=false),CR w (Av (νb M.bd ν) h') t x [u]:=by
  intro q p;have m:=y.one q p;refine ē e ⟨vN H F.sub m fun id b A l hb=>?_,trivial⟩;rintro(hlive|s)
  rotate_left
  ·exact H.ghne id b l hb s
  obtain⟨i,o,h2,C,B⟩:=F.live hlive;have r:id=o:=H.inj id o b l C hb B;subst r;refine F.freed id (z id ?_) i h2;rcases A with⟨g,rfl⟩|⟨g,lo,n,rfl⟩|rfl
  ·obtain⟨_,t',g',fz,xs,j,_⟩:=m;rw[j] at l
   cases fz with
   |true=>cases l
   |false=>simp[Oe,j]
  ·obtain⟨_,t',g',fz,xs,j,_⟩:=m;rw[j] at l
   cases fz with
   |true=>cases l
   |false=>simp[Oe,j]
  ·simp[Oe]
 have fin:(t≠.unit/\∀a b,t≠.pair a b)->v.isAgg=false/\v.isTup=false:=fun⟨m,h2⟩=>by
  constructor
  ·cases v<;>try rfl
   cases t<;>first|(exact absurd rfl m)|(exact absurd rfl (h2 _ _))|(simp[ò,Ò,ū] at e)
  ·cases v<;>try rfl
   cases t<;>first|(exact absurd rfl m)|(exact absurd rfl (h2 _ _))|(simp[ò,Ò,ū] at e)
 cases t with
 |unit=>trivial
 |pair a b=>trivial
 |bool=>obtain⟨f,d⟩:=fin ⟨by simp,by simp⟩; exact GC (c f d)
 |int k=>obtain⟨f,d⟩:=fin ⟨by simp,by simp⟩; exact GC (c f d)
 |str=>obtain⟨f,d⟩:=fin ⟨by simp,by simp⟩; exact GC (c f d)
 |slice t=>obtain⟨f,d⟩:=fin ⟨by simp,by simp⟩; exact GC (c f d)
 |map k v=>obtain⟨f,d⟩:=fin ⟨by simp,by simp⟩; exact GC (c f d)
 |ptr t=>obtain⟨f,d⟩:=fin ⟨by simp,by simp⟩; exact GC (c f d)
def Ď {α:Type} {l C:w9 α} {d:α} (h:(l++[d]) <+: C):C.drop l.length=d::C.drop (l.length+1):=by
 obtain⟨t,rfl⟩:=h;simp[cS]
def iC {B:w9 Bd} {i id:Nat} (h:gT B i=some (.at_ id)):νb B ν i=ν id:=by simp[νb,h]
def Zk {B:w9 Bd} {i:Nat} (h:gT B i=some .new):νb B ν i=.slice none 0 0:=by simp[νb,h]
def Vs {B:w9 Bd} {i:Nat} (h:gT B i=some .newd):νb B ν i=.agg [Value.slice none 0 0].toArray:=by simp[νb,h]
def ŷ:∀(ps:w9 (Nat×Nat)) (vs:w9 AV) (us:w9 Value) (M M1:Mt),si h ps vs M=some M1->Ext M M1/\M1.cons=M.cons/\M1.vars=M.vars /\
 ∀d,Ext M1 d->Fin ν h w d h'->ñ (VR0 ν h w) vs us->ñ (VR0 (νb d.bd ν) h' w) (ps.map fun c=>.box c.1 c.2) us
 |[],[],us,M,M1,e=>by
  cases e;exact⟨Ext.refl _,rfl,rfl,fun d _ _ f=>by cases us with|nil=>trivial|cons=>exact f.elim⟩
 |[],_::_,_,_,_,e=>by cases e
 |_::_,[],_,_,_,e=>by cases e
 |(i,o)::ps,v::vs,us,M,M1,e=>by
  cases v<;>try (simp[si] at e; done)
  rename_i id off;simp only[si] at e
  split at e<;>try (cases e; done)
  rename_i q
  split at e<;>try (cases e; done)
  rename_i cs r
  split at e<;>try (cases e; done)
  rename_i p hb;obtain⟨t,A,z,v1⟩:=Ņ hb;obtain⟨m,y,v2,_⟩:=ŷ ps vs us p M1 e;refine⟨t.trans m,y.trans z,v2.trans v1,fun d l F f=>?_⟩
  cases us with
  |nil=>exact f.elim
  |cons u us =>
   refine⟨?_,(ŷ ps vs us p M1 e).2.2.2 d l F f.2⟩;obtain⟨x,b,B,h2,s⟩:=f.1;have g:=l.bd i id (m.bd i id A);have j:=F.at_ i id g;rw[r] at j;obtain⟨k,j⟩:=j;exact⟨k,b,j,(iC g).trans h2,by rw[eq_of_beq q]; exact s⟩
def nW:∀(ps:w9 (ByteArray×Nat×w9 (Nat×Nat))) (es:w9 (ByteArray×AV)) (ms:w9 MapEntry) (M M1:Mt),HM h ps es M=some M1->Ext M M1/\M1.cons=M.cons/\M1.vars=M.vars /\
 ∀b,Ext M1 b->Fin ν h w b h'->Qn ν h w es ms->Qn (νb b.bd ν) h' w (ps.map fun e=>(e.1,.fn (.func e.2.1) [] (e.2.2.map fun c=>.box c.1 c.2))) ms
 |[],[],ms,M,M1,e=>by
  cases e;exact⟨Ext.refl _,rfl,rfl,fun b _ _ d=>by cases ms with|nil=>trivial|cons=>exact d.elim⟩
 |[],_::_,_,_,_,e=>by cases e
 |_::_,[],_,_,_,e=>by cases e
 |p::ps,x::es,ms,M,M1,e=>by
  obtain⟨s,v⟩:=x;simp only[HM] at e
  split at e<;>try (cases e; done)
  rename_i f vs
  split at e<;>try (cases e; done)
  rename_i i;simp only[cM] at i;have t:=VG.1 i.1;have u:=cR i.2;subst u
  split at e<;>try (cases e; done)
  rename_i g k;obtain⟨z,B,v1,_⟩:=ŷ (ν:=ν) (w:=w) (h':=h') p.2.2 vs [] M g k;obtain⟨o,A,v2,_⟩:=nW ps es ms g M1 e;refine⟨z.trans o,A.trans B,v2.trans v1,fun b l F d=>?_⟩
  cases ms with
  |nil=>exact d.elim
  |cons m ms =>
   refine⟨?_,(nW ps es ms g M1 e).2.2.2 b l F d.2⟩;obtain⟨j,h2,fs,cs,y,r,q⟩:=d.1;have j:m.key=.string s:=j;have:=(ŷ (ν:=ν) (w:=w) (h':=h') p.2.2 vs cs.toList M g k).2.2.2 b (o.trans l) F q;exact⟨by rw[j,<-t],rfl,fs,cs,y,by rw[r.nil_left]; trivial,this⟩
def rest (b M:Mt):It:=⟨b.cons.drop M.cons.length,b.vars.drop M.vars.length⟩
def rJ:∀(ts:w9 Ty) (vs:w9 AV) (M M1:Mt),wj ts vs M=some M1->Ext M M1/\∀c,Ext M1 c->(yj ts (rest c M)).2=rest c M1 /\
 ∀us:w9 Value,Fin ν h w c h'->ñ (VR0 ν h w) vs us->ñ (VR0 (νb c.bd ν) h' w) (yj ts (rest c M)).1 us
 |[],[],M,M1,e=>by
  cases e;exact⟨Ext.refl _,fun c _=>⟨rfl,fun us _ d=>by cases us with|nil=>trivial|cons=>exact d.elim⟩⟩
 |[],_::_,_,_,e=>by cases e
 |_::_,[],_,_,e=>by cases e
 |t::ts,v::vs,M,M1,e=>by
  cases v<;>try (simp[wj] at e; done)
  rename_i t' x o;simp only[wj] at e
  split at e<;>try (cases e; done)
  rename_i f
  split at e<;>try (cases e; done)
  rename_i A _;have f:=cR f;subst f;obtain⟨k,l⟩:=rJ ts vs _ M1 e;have z:Ext M {M with cons:=M.cons++[⟨.ptr t',x⟩]}:=⟨fun _ _ q=>q,fun _ q=>q,fun _ q=>q,dS _ _,dO,fun _ q=>q,rfl⟩;refine⟨z.trans k,fun c j=>?_⟩;obtain⟨i,g⟩:=l c j;have hd:=Ď (k.trans j).cons
  have m:rest c {M with cons:=M.cons++[⟨.ptr t',x⟩]}=⟨c.cons.drop (M.cons.length+1),c.vars.drop M.vars.length⟩:=by simp[rest]
  rw[m] at i g;simp only[rest,yj,hd];refine⟨i,fun us F d=>?_⟩
  cases us with
  |nil=>exact d.elim
  |cons u us =>
   refine⟨?_,g us F d.2⟩;obtain⟨b,o,ws,y,h2,s,r,p⟩:=d.1;exact⟨b,o,ws,y,fun h=>h2 (F.sub b h),s,CR.mono F.sub r,p⟩
def IL (H:HR ν h w) {p:Pat} {v:AV} {M M1:Mt} (e:ř h p v M=some M1):Ext M M1/\∀j u,Ext M1 j->Fin ν h w j h'->VR ν h w v u ->
 VR (νb j.bd ν) h' w (pD p ⟨j.cons.drop M.cons.length,j.vars.drop M.vars.length⟩).1 u /\
  (pD p ⟨j.cons.drop M.cons.length,j.vars.drop M.vars.length⟩).2=⟨j.cons.drop M1.cons.length,j.vars.drop M1.vars.length⟩:=by
 cases p with
 |any=>cases e; exact⟨Ext.refl _,fun j u _ _ _=>⟨trivial,rfl⟩⟩
 |con t =>
  simp only[ř] at e
  split at e<;>try (cases e; done)
  rename_i x L;cases e;refine⟨⟨fun _ _ q=>q,fun _ q=>q,fun _ q=>q,dS _ _,dO,fun _ q=>dl _ q,rfl⟩,fun j u m F d=>?_⟩;have hd:=Ď m.cons;simp only[pD,hd];exact⟨Xc H F (fun i hi=>m.freed i (dH _ hi)) L d,by simp⟩
 |var t =>
  simp only[ř] at e
  split at e<;>try (cases e; done)
  rename_i x L;cases e;refine⟨⟨fun _ _ q=>q,fun _ q=>q,fun _ q=>q,dO,dS _ _,fun _ q=>dl _ q,rfl⟩,fun j u m F d=>?_⟩;have hd:=Ď m.vars;simp only[pD,hd];exact⟨Xc H F (fun i hi=>m.freed i (dH _ hi)) L d,by simp⟩
 |own i =>
  simp only[ř] at e
  split at e<;>try (cases e; done)
  ·rename_i id g
   split at e<;>try (cases e; done)
   rename_i t g' xs A
   split at e<;>try (cases e; done)
   rename_i N;obtain⟨o,z,y,v1⟩:=Ņ e;refine⟨o,fun j u m F d=>⟨?_,by simp only[pD,y,v1]⟩⟩;have c:=m.bd i id z;have l:=F.at_ i id c;rw[A] at l;obtain⟨D,t2,g2,fz2,W,r,_,C⟩:=d;rw[A] at r; cases r;exact⟨D,t,0,false,xs,l,cJ _,fun _=>(C (eq_of_beq N)).trans (iC c).symm⟩
  ·obtain⟨o,z,y,v1⟩:=GF e;refine⟨o,fun j u m F d=>⟨?_,by simp only[pD,y,v1]⟩⟩;have B:=m.new i z;obtain⟨t,l⟩:=F.new i B;have E:u=.slice none 0 0:=d;exact⟨by rw[E]; rfl,t,0,false,[],l,cJ _,fun _=>E.trans (Zk B).symm⟩
 |dp i =>
  simp only[ř] at e
  split at e<;>try (cases e; done)
  ·rename_i id g
   split at e<;>try (cases e; done)
   rename_i k g' xss A
   split at e<;>try (cases e; done)
   rename_i N;obtain⟨o,z,y,v1⟩:=Ņ e;refine⟨o,fun j u m F d=>⟨?_,by simp only[pD,y,v1]⟩⟩;have c:=m.bd i id z;have l:=F.at_ i id c;rw[A] at l;obtain⟨D,K,g2,U,r,_,C⟩:=d;rw[A] at r; cases r;exact⟨D,k,0,xss,l,cJ _,fun _=>by rw[iC c]; exact C (eq_of_beq N)⟩
  ·obtain⟨o,z,y,v1⟩:=Ek e;refine⟨o,fun j u m F d=>⟨?_,by simp only[pD,y,v1]⟩⟩;have B:=m.newd i z;obtain⟨k,l⟩:=F.newd i B;have E:u=.slice none 0 0:=d;exact⟨by rw[E]; rfl,k,0,[],l,cJ _,fun _=>⟨[],by rw[Vs B,E]⟩⟩
 |omp i =>
  simp only[ř] at e
  split at e<;>try (cases e; done)
  rename_i id
  split at e<;>try (cases e; done)
  rename_i k X es A;obtain⟨o,z,y,v1⟩:=Ņ e;refine⟨o,fun j u m F d=>⟨?_,by simp only[pD,y,v1]⟩⟩;have c:=m.bd i id z;have l:=F.at_ i id c;rw[A] at l;obtain⟨D,K,v2,R,r,C⟩:=d;exact⟨D,k,X,es,l,C.trans (iC c).symm⟩
 |box i off =>
  simp only[ř] at e
  split at e<;>try (cases e; done)
  rename_i id V
  split at e<;>try (cases e; done)
  rename_i G
  split at e<;>try (cases e; done)
  rename_i cs A;obtain⟨o,z,y,v1⟩:=Ņ e;refine⟨o,fun j u m F d=>⟨?_,by simp only[pD,y,v1]⟩⟩;have c:=m.bd i id z;have l:=F.at_ i id c;rw[A] at l;obtain⟨T,l⟩:=l;obtain⟨cs',b,h1,h2,Z⟩:=d;exact⟨T,b,l,(iC c).trans h2,by rw[eq_of_beq G]; exact Z⟩
 |nils =>
  simp only[ř] at e
  split at e<;>try (cases e; done)
  cases e;exact⟨Ext.refl _,fun j u _ _ d=>⟨d,rfl⟩⟩
 |nilp =>
  simp only[ř] at e
  split at e<;>try (cases e; done)
  cases e;exact⟨Ext.refl _,fun j u _ _ d=>⟨d,rfl⟩⟩
 |nilfn =>
  simp only[ř] at e
  split at e<;>try (cases e; done)
  cases e;exact⟨Ext.refl _,fun j u _ _ d=>⟨d,rfl⟩⟩
 |yld =>
  simp only[ř] at e
  split at e<;>try (cases e; done)
  cases e;exact⟨Ext.refl _,fun j u _ _ d=>⟨d,rfl⟩⟩
 |ofn i =>
  simp only[ř] at e
  split at e<;>try (cases e; done)
  rename_i id
  split at e<;>try (cases e; done)
  rename_i es A;obtain⟨o,z,y,v1⟩:=Ņ e;refine⟨o,fun j u m F d=>⟨?_,by simp only[pD,y,v1]⟩⟩;have c:=m.bd i id z;have l:=F.at_ i id c;rw[A] at l;obtain⟨S,l⟩:=l;obtain⟨D,R,r,C⟩:=d;exact⟨D,S,l,C.trans (iC c).symm⟩
 |oit i =>
  simp only[ř] at e
  split at e<;>try (cases e; done)
  rename_i id
  split at e<;>try (cases e; done)
  rename_i s q A;obtain⟨o,z,y,v1⟩:=Ņ e;refine⟨o,fun j u m F d=>⟨?_,by simp only[pD,y,v1]⟩⟩;have c:=m.bd i id z;have l:=F.at_ i id c;rw[A] at l;obtain⟨D,s2,I,r,C⟩:=d;exact⟨D,s,q,l,C.trans (iC c).symm⟩
 |fn f caps =>
  simp only[ř] at e
  split at e<;>try (cases e; done)
  rename_i f' vs
  split at e<;>try (cases e; done)
  rename_i O;obtain⟨o,y,v1,_⟩:=ŷ (ν:=ν) (w:=w) (h':=h') caps vs [] M M1 e;refine⟨o,fun j u m F d=>⟨?_,by simp only[pD,y,v1]⟩⟩;obtain⟨fs,cs,rfl,J,I⟩:=d;have:=(ŷ (ν:=ν) (w:=w) (h':=h') caps vs cs.toList M M1 e).2.2.2 j m F I;exact⟨fs,cs,by rw[eq_of_beq O],by rw[J.nil_left]; trivial,this⟩
 |fnd f ts =>
  simp only[ř] at e
  split at e<;>try (cases e; done)
  rename_i f' vs
  split at e<;>try (cases e; done)
  rename_i O;obtain⟨o,k⟩:=rJ (ν:=ν) (h:=h) (w:=w) (h':=h') ts vs M M1 e;refine⟨o,fun j u m F d=>?_⟩;obtain⟨Y,K⟩:=k j m;obtain⟨fs,cs,rfl,J,I⟩:=d;exact⟨⟨fs,cs,by rw[eq_of_beq O],by rw[J.nil_left]; trivial,K cs.toList F I⟩,Y⟩
def rE {b M M1:Mt} (c:M1.cons=M.cons) (h2:M1.vars=M.vars):rest b M=rest b M1:=by simp only[rest,c,h2]
def tX {p:Pat} {v:AV} {M M1:Mt} (e:ř h p v M=some M1):Ext M M1/\∀b,Ext M1 b->(pD p (rest b M)).2=rest b M1:=by
 cases p with
 |any=>cases e; exact⟨Ext.refl _,fun b _=>rfl⟩
 |con t =>
  simp only[ř] at e
  split at e<;>try (cases e; done)
  rename_i x l;cases e;refine⟨⟨fun _ _ q=>q,fun _ q=>q,fun _ q=>q,dS _ _,dO,fun _ q=>dl _ q,rfl⟩,fun b g=>?_⟩;have hd:=Ď g.cons;simp only[rest,pD,hd]; simp
 |var t =>
  simp only[ř] at e
  split at e<;>try (cases e; done)
  rename_i x l;cases e;refine⟨⟨fun _ _ q=>q,fun _ q=>q,fun _ q=>q,dO,dS _ _,fun _ q=>dl _ q,rfl⟩,fun b g=>?_⟩;have hd:=Ď g.vars;simp only[rest,pD,hd]; simp
 |own i =>
  simp only[ř] at e
  split at e<;>try (cases e; done)
  ·split at e<;>try (cases e; done)
   split at e<;>try (cases e; done)
   obtain⟨c,j,d,v1⟩:=Ņ e;exact⟨c,fun b g=>rE d v1⟩
  ·obtain⟨c,j,d,v1⟩:=GF e;exact⟨c,fun b g=>rE d v1⟩
 |dp i =>
  simp only[ř] at e
  split at e<;>try (cases e; done)
  ·split at e<;>try (cases e; done)
   split at e<;>try (cases e; done)
   obtain⟨c,j,d,v1⟩:=Ņ e;exact⟨c,fun b g=>rE d v1⟩
  ·obtain⟨c,j,d,v1⟩:=Ek e;exact⟨c,fun b g=>rE d v1⟩
 |omp i =>
  simp only[ř] at e
  split at e<;>try (cases e; done)
  split at e<;>try (cases e; done)
  obtain⟨c,j,d,v1⟩:=Ņ e;exact⟨c,fun b g=>rE d v1⟩
 |box i off =>
  simp only[ř] at e
  split at e<;>try (cases e; done)
  split at e<;>try (cases e; done)
  split at e<;>try (cases e; done)
  obtain⟨c,j,d,v1⟩:=Ņ e;exact⟨c,fun b g=>rE d v1⟩
 |nils =>
  simp only[ř] at e
  split at e<;>try (cases e; done)
  cases e; exact⟨Ext.refl _,fun b _=>rfl⟩
 |nilp =>
  simp only[ř] at e
  split at e<;>try (cases e; done)
  cases e; exact⟨Ext.refl _,fun b _=>rfl⟩
 |nilfn =>
  simp only[ř] at e
  split at e<;>try (cases e; done)
  cases e; exact⟨Ext.refl _,fun b _=>rfl⟩
 |yld =>
  simp only[ř] at e
  split at e<;>try (cases e; done)
  cases e; exact⟨Ext.refl _,fun b _=>rfl⟩
 |ofn i =>
  simp only[ř] at e
  split at e<;>try (cases e; done)
  split at e<;>try (cases e; done)
  obtain⟨c,j,d,v1⟩:=Ņ e;exact⟨c,fun b g=>rE d v1⟩
 |oit i =>
  simp only[ř] at e
  split at e<;>try (cases e; done)
  split at e<;>try (cases e; done)
  obtain⟨c,j,d,v1⟩:=Ņ e;exact⟨c,fun b g=>rE d v1⟩
 |fn f caps =>
  simp only[ř] at e
  split at e<;>try (cases e; done)
  rename_i m vs
  split at e<;>try (cases e; done)
  obtain⟨c,d,v1,_⟩:=ŷ (ν:=fun _=>undef) (w:=default) (h':=[]) caps vs [] M M1 e;exact⟨c,fun b g=>rE d v1⟩
 |fnd f ts =>
  simp only[ř] at e
  split at e<;>try (cases e; done)
  rename_i m vs
  split at e<;>try (cases e; done)
  obtain⟨c,k⟩:=rJ (ν:=fun _=>undef) (h:=[]) (w:=default) (h':=[]) ts vs M M1 e;exact⟨c,fun b g=>(k b g).1⟩
def tB (p:Pat) (ps:w9 Pat) (I:It):Fl (p::ps) I=((pD p I).1::(Fl ps (pD p I).2).1,(Fl ps (pD p I).2).2):=rfl
def A6:∀{ps:w9 Pat} {vs:w9 AV} {M M1:Mt},NG h ps vs M=some M1->Ext M M1/\∀b,Ext M1 b->(Fl ps (rest b M)).2=rest b M1
 |[],vs,M,M1,e=>by cases e; exact⟨Ext.refl _,fun b _=>rfl⟩
 |p::ps,vs,M,M1,e=>by
  simp only[NG] at e
  split at e<;>try (cases e; done)
  rename_i i f;obtain⟨g,t1⟩:=tX f;obtain⟨d,t2⟩:=A6 e;exact⟨g.trans d,fun b c=>by rw[tB,t1 b (d.trans c)]; exact t2 b c⟩
def RE (H:HR ν h w):∀{ps:w9 Pat} {vs:w9 AV} {M M1:Mt},NG h ps vs M=some M1->∀b,Ext M1 b->Fin ν h w b h'->∀f:Nat->Value,(∀k,VR ν h w (lk vs k) (f k)) ->
 ∀k,VR (νb b.bd ν) h' w (lk (Fl ps (rest b M)).1 k) (f k)
 |[],vs,M,M1,e,b,_,_,f,_,k=>trivial
 |p::ps,vs,M,M1,e,b,c,F,f,d,k=>by
  simp only[NG] at e
  split at e<;>try (cases e; done)
  rename_i m g;obtain⟨l,t1⟩:=tX g;obtain⟨i,t2⟩:=A6 e;rw[tB,t1 b (i.trans c)]
  cases k with
  |zero=>exact((IL H g).2 b (f 0) (i.trans c) F (d 0)).1
  |succ k =>
   have j:∀k,lk vs.tail k=lk vs (k+1):=fun k=>by cases vs<;>rfl
   exact RE H e b c F (fun k=>f (k+1)) (fun k=>by rw[j]; exact d (k+1)) k
def oU:∀{ps:w9 Pat} {vs:w9 AV} {M M1:Mt},oB h ps vs M=some M1->Ext M M1/\∀b,Ext M1 b->(Fl ps (rest b M)).2=rest b M1
 |[],[],M,M1,e=>by cases e; exact⟨Ext.refl _,fun b _=>rfl⟩
 |[],_::_,M,M1,e=>by cases e
 |_::_,[],M,M1,e=>by cases e
 |p::ps,v::vs,M,M1,e=>by
  simp only[oB] at e
  split at e<;>try (cases e; done)
  rename_i i f;obtain⟨g,t1⟩:=tX f;obtain⟨d,t2⟩:=oU e;exact⟨g.trans d,fun b c=>by rw[tB,t1 b (d.trans c)]; exact t2 b c⟩
def YC (p:Pat) (I:It):(pD p I).1.isAgg=false/\(pD p I).1.isTup=false:=by
 have b:∀d:DV,(YP d).isAgg=false/\(YP d).isTup=false:=fun d=>by
  obtain⟨t,x⟩:=d
  cases t<;>exact⟨rfl,rfl⟩
 cases p<;>simp only[pD]<;>try exact⟨rfl,rfl⟩
 ·split<;>first|exact b _|exact⟨rfl,rfl⟩
 ·split<;>first|exact b _|exact⟨rfl,rfl⟩
def Cn (H:HR ν h w):∀{ps:w9 Pat} {vs:w9 AV} {us:w9 Value} {M M1:Mt},oB h ps vs M=some M1->∀b,Ext M1 b->Fin ν h w b h'->ñ (VRc ν h w) vs us ->
 ñ (VRc (νb b.bd ν) h' w) (Fl ps (rest b M)).1 us
 |[],[],us,M,M1,e,b,_,_,c=>by cases us with|nil=>trivial|cons=>exact c.elim
 |[],_::_,_,M,M1,e,_,_,_,_=>by cases e
 |_::_,[],_,M,M1,e,_,_,_,_=>by cases e
 |p::ps,v::vs,us,M,M1,e,b,f,F,c=>by
  simp only[oB] at e
  split at e<;>try (cases e; done)
  rename_i k g;obtain⟨j,t1⟩:=tX g;obtain⟨i,t2⟩:=oU e;rw[tB,t1 b (i.trans f)]
  cases us with
  |nil=>exact c.elim
  |cons u us =>
   have h2:=((IL H g).2 b u (i.trans f) F c.1.1.up).1;have d:=YC p (rest b M);exact⟨⟨h2.one d.1 d.2,c.1.2⟩,Cn H e b f F c.2⟩
def yx (M:Mt) (d:DV):Ext M {M with cons:=M.cons++[d]}:=⟨fun _ _ q=>q,fun _ q=>q,fun _ q=>q,dS _ _,dO,fun _ q=>q,rfl⟩
def uL (M:Mt) (d:DV):Ext M {M with vars:=M.vars++[d]}:=⟨fun _ _ q=>q,fun _ q=>q,fun _ q=>q,dO,dS _ _,fun _ q=>q,rfl⟩
def A7 {p:jC} {i:Nat} {M M1:Mt} (e:ĭ h p i M=some M1):Ext M M1/\∀d,Ext M1 d->(pC p (rest d M)).2=rest d M1 /\
 ((∃id,gT M.bd i=some (.at_ id)/\kin (lkB h id) (pC p (rest d M)).1)\/(gT M.bd i=some .new/\∃t,(pC p (rest d M)).1=.row t 0 false [])\/(gT M.bd i=some .newd/\∃k,(pC p (rest d M)).1=.deep k 0 [])):=by
 cases p with
 |dead =>
  simp only[ĭ] at e
  split at e<;>try (cases e; done)
  rename_i id hb
  split at e<;>try (cases e; done)
  rename_i c;cases e;exact⟨Ext.refl _,fun d _=>⟨rfl,.inl ⟨id,hb,by rw[c]; rfl⟩⟩⟩
 |cells ps =>
  simp only[ĭ] at e
  split at e<;>try (cases e; done)
  rename_i id hb
  split at e<;>try (cases e; done)
  rename_i cs c;obtain⟨l,t1⟩:=oU e;exact⟨l,fun d b=>⟨t1 d b,.inl ⟨id,hb,by rw[c]; exact⟨_,rfl⟩⟩⟩⟩
 |rowc t =>
  simp only[ĭ] at e
  split at e<;>try (cases e; done)
  ·rename_i id hb
   split at e<;>try (cases e; done)
   rename_i t' g xs c
   split at e<;>try (cases e; done)
   cases e;refine⟨yx _ _,fun d b=>?_⟩;have hd:=Ď b.cons;simp only[rest,pC,hd];exact⟨by simp,.inl ⟨id,hb,by rw[c]; rfl⟩⟩
  ·rename_i hb;cases e;refine⟨yx _ _,fun d b=>?_⟩;have hd:=Ď b.cons;simp only[rest,pC,hd];exact⟨by simp,.inr (.inl ⟨hb,t,rfl⟩)⟩
 |rowf t g =>
  simp only[ĭ] at e
  split at e<;>try (cases e; done)
  rename_i id hb
  split at e<;>try (cases e; done)
  rename_i t' g' xs c
  split at e<;>try (cases e; done)
  split at e<;>try (cases e; done)
  rename_i o _;subst o;cases e;refine⟨yx _ _,fun d b=>?_⟩;have hd:=Ď b.cons;simp only[rest,pC,hd];exact⟨by simp,.inl ⟨id,hb,by rw[c]; rfl⟩⟩
 |rowv t =>
  simp only[ĭ] at e
  split at e<;>try (cases e; done)
  ·rename_i id hb
   split at e<;>try (cases e; done)
   rename_i t' g xs c
   split at e<;>try (cases e; done)
   cases e;refine⟨uL _ _,fun d b=>?_⟩;have hd:=Ď b.vars;simp only[rest,pC,hd];exact⟨by simp,.inl ⟨id,hb,by rw[c]; rfl⟩⟩
  ·rename_i hb;cases e;refine⟨uL _ _,fun d b=>?_⟩;have hd:=Ď b.vars;simp only[rest,pC,hd];exact⟨by simp,.inr (.inl ⟨hb,t,rfl⟩)⟩
 |mapc k v =>
  simp only[ĭ] at e
  split at e<;>try (cases e; done)
  rename_i id hb
  split at e<;>try (cases e; done)
  rename_i f m es c
  split at e<;>try (cases e; done)
  cases e;refine⟨yx _ _,fun d b=>?_⟩;have hd:=Ď b.cons;simp only[rest,pC,hd];exact⟨by simp,.inl ⟨id,hb,by rw[c]; rfl⟩⟩
 |mapv k v =>
  simp only[ĭ] at e
  split at e<;>try (cases e; done)
  rename_i id hb
  split at e<;>try (cases e; done)
  rename_i f m es c
  split at e<;>try (cases e; done)
  cases e;refine⟨uL _ _,fun d b=>?_⟩;have hd:=Ď b.vars;simp only[rest,pC,hd];exact⟨by simp,.inl ⟨id,hb,by rw[c]; rfl⟩⟩
 |deepc k =>
  simp only[ĭ] at e
  split at e<;>try (cases e; done)
  ·rename_i id hb
   split at e<;>try (cases e; done)
   rename_i f g xss c
   split at e<;>try (cases e; done)
   cases e;refine⟨yx _ _,fun d b=>?_⟩;have hd:=Ď b.cons;simp only[rest,pC,hd];exact⟨by simp,.inl ⟨id,hb,by rw[c]; rfl⟩⟩
  ·rename_i hb;cases e;refine⟨yx _ _,fun d b=>?_⟩;have hd:=Ď b.cons;simp only[rest,pC,hd];exact⟨by simp,.inr (.inr ⟨hb,k,rfl⟩)⟩
 |deepv k =>
  simp only[ĭ] at e
  split at e<;>try (cases e; done)
  ·rename_i id hb
   split at e<;>try (cases e; done)
   rename_i f g xss c
   split at e<;>try (cases e; done)
   cases e;refine⟨uL _ _,fun d b=>?_⟩;have hd:=Ď b.vars;simp only[rest,pC,hd];exact⟨by simp,.inl ⟨id,hb,by rw[c]; rfl⟩⟩
  ·rename_i hb;cases e;refine⟨uL _ _,fun d b=>?_⟩;have hd:=Ď b.vars;simp only[rest,pC,hd];exact⟨by simp,.inr (.inr ⟨hb,k,rfl⟩)⟩
 |fns es =>
  simp only[ĭ] at e
  split at e<;>try (cases e; done)
  rename_i id hb
  split at e<;>try (cases e; done)
  rename_i j c;obtain⟨l,r,v1,_⟩:=nW (ν:=fun _=>undef) (w:=default) (h':=[]) es j [] M M1 e;exact⟨l,fun d b=>⟨rE r v1,.inl ⟨id,hb,by rw[c]; exact⟨_,rfl⟩⟩⟩⟩
 |acc t =>
  simp only[ĭ] at e
  split at e<;>try (cases e; done)
  rename_i id hb
  split at e<;>try (cases e; done)
  rename_i t' xs c
  split at e<;>try (cases e; done)
  cases e;refine⟨uL _ _,fun d b=>?_⟩;have hd:=Ď b.vars;simp only[rest,pC,hd];exact⟨by simp,.inl ⟨id,hb,by rw[c]; rfl⟩⟩
 |itr =>
  simp only[ĭ] at e
  split at e<;>try (cases e; done)
  rename_i id hb
  split at e<;>try (cases e; done)
  rename_i s q c;cases e;refine⟨uL _ _,fun d b=>?_⟩;have hd:=Ď b.vars;simp only[rest,pC,hd];exact⟨by simp,.inl ⟨id,hb,by rw[c]; rfl⟩⟩
def aaG (H:HR ν h w) {p:jC} {i id:Nat} {M M1:Mt} {cs:w9 AV} (e:ĭ h p i M=some M1) (hb:gT M.bd i=some (.at_ id)) (b:lkB h id=.cells cs) {d:Mt} (j:Ext M1 d) (F:Fin ν h w d h') {us:w9 Value} (f:ñ (VRc ν h w) cs us) :
 ∃c,(pC p (rest d M)).1=.cells c/\ñ (VRc (νb d.bd ν) h' w) c us:=by
 cases p with
 |cells ps =>
  simp only[ĭ,hb,b] at e;exact⟨_,rfl,Cn H e d j F f⟩
 |dead=>simp[ĭ,hb,b] at e
 |rowc t=>simp[ĭ,hb,b] at e
 |rowf t g=>simp[ĭ,hb,b] at e
 |rowv t=>simp[ĭ,hb,b] at e
 |mapc k v=>simp[ĭ,hb,b] at e
 |mapv k v=>simp[ĭ,hb,b] at e
 |deepc k=>simp[ĭ,hb,b] at e
 |deepv k=>simp[ĭ,hb,b] at e
 |acc t=>simp[ĭ,hb,b] at e
 |itr=>simp[ĭ,hb,b] at e
 |fns es=>simp[ĭ,hb,b] at e
def Yg {p:jC} {i id:Nat} {M M1:Mt} {es:w9 (ByteArray×AV)} (e:ĭ h p i M=some M1) (hb:gT M.bd i=some (.at_ id)) (b:lkB h id=.fns es) {d:Mt} (j:Ext M1 d) (F:Fin ν h w d h') {ms:w9 MapEntry} (f:Qn ν h w es ms) :
 ∃c,(pC p (rest d M)).1=.fns c/\Qn (νb d.bd ν) h' w c ms:=by
 cases p with
 |fns es0 =>
  simp only[ĭ,hb,b] at e;exact⟨_,rfl,(nW es0 es ms M M1 e).2.2.2 d j F f⟩
 |cells ps=>simp[ĭ,hb,b] at e
 |dead=>simp[ĭ,hb,b] at e
 |rowc t=>simp[ĭ,hb,b] at e
 |rowf t g=>simp[ĭ,hb,b] at e
 |rowv t=>simp[ĭ,hb,b] at e
 |mapc k v=>simp[ĭ,hb,b] at e
 |mapv k v=>simp[ĭ,hb,b] at e
 |deepc k=>simp[ĭ,hb,b] at e
 |deepv k=>simp[ĭ,hb,b] at e
 |acc t=>simp[ĭ,hb,b] at e
 |itr=>simp[ĭ,hb,b] at e
def yk (p:jC) (ps:w9 jC) (I:It):yU (p::ps) I=((pC p I).1::(yU ps (pC p I).2).1,(yU ps (pC p I).2).2):=rfl
def rz:∀(ps:w9 jC) (I:It),(yU ps I).1.length=ps.length
 |[],_=>rfl
 |p::ps,I=>by rw[yk]; simp[rz ps]
def tW:∀{ps:w9 jC} {i:Nat} {M M1:Mt},F3 h ps i M=some M1->Ext M M1/\∀b,Ext M1 b->∀k,k<ps.length ->
 (∃id,gT b.bd (i+k)=some (.at_ id)/\kin (lkB h id) (lkB (yU ps (rest b M)).1 k))\/(gT b.bd (i+k)=some .new/\∃t,lkB (yU ps (rest b M)).1 k=.row t 0 false [])\/(gT b.bd (i+k)=some .newd/\∃q,lkB (yU ps (rest b M)).1 k=.deep q 0 [])
 |[],i,M,M1,e=>by cases e; exact⟨Ext.refl _,fun b _ k l=>by simp at l⟩
 |p::ps,i,M,M1,e=>by
  simp only[F3] at e
  split at e<;>try (cases e; done)
  rename_i s r;obtain⟨j,t1⟩:=A7 r;obtain⟨g,t2⟩:=tW e;refine⟨j.trans g,fun b f k l=>?_⟩;obtain⟨o,m⟩:=t1 b (g.trans f);rw[yk,o]
  cases k with
  |zero =>
   rcases m with⟨id,d,c⟩|⟨d,c⟩|⟨d,c⟩
   ·exact .inl ⟨id,(j.trans (g.trans f)).bd _ _ d,c⟩
   ·exact .inr (.inl ⟨(j.trans (g.trans f)).new _ d,c⟩)
   ·exact .inr (.inr ⟨(j.trans (g.trans f)).newd _ d,c⟩)
  |succ k =>
   have:=t2 b f k (by simpa using l);rw[show i+(k+1)=i+1+k by omega];exact this
def RF (H:HR ν h w):∀{ps:w9 jC} {i:Nat} {M M1:Mt},F3 h ps i M=some M1->∀c,Ext M1 c->Fin ν h w c h'->∀k id cs us,k<ps.length->gT c.bd (i+k)=some (.at_ id)->lkB h id=.cells cs->ñ (VRc ν h w) cs us ->
 ∃j,lkB (yU ps (rest c M)).1 k=.cells j/\ñ (VRc (νb c.bd ν) h' w) j us
 |[],i,M,M1,e,c,_,_,k,_,_,_,l,_,_,_=>by simp at l
 |p::ps,i,M,M1,e,c,f,F,k,id,cs,us,l,hb,r,q=>by
  simp only[F3] at e
  split at e<;>try (cases e; done)
  rename_i x s;obtain⟨m,t1⟩:=A7 s;obtain⟨g,t2⟩:=tW e;obtain⟨u,t⟩:=t1 c (g.trans f);rw[yk,u]
  cases k with
  |zero =>
   rcases t with⟨v,d,o⟩|⟨d,o⟩|⟨d,o⟩
   ·have:=(m.trans (g.trans f)).bd _ _ d;have b:gT c.bd i=some (.at_ id):=hb;rw[this] at b;cases b;exact aaG H s d r (g.trans f) F q
   ·have:=(m.trans (g.trans f)).new _ d;have b:gT c.bd i=some (.at_ id):=hb;rw[this] at b;cases b
   ·have:=(m.trans (g.trans f)).newd _ d;have b:gT c.bd i=some (.at_ id):=hb;rw[this] at b;cases b
  |succ k=>exact RF H e c f F k id cs us (by simpa using l) (by rw[show i+1+k=i+(k+1) by omega]; exact hb) r q
def NH:∀{ps:w9 jC} {i:Nat} {M M1:Mt},F3 h ps i M=some M1->∀c,Ext M1 c->Fin ν h w c h'->∀k id es ms,k<ps.length->gT c.bd (i+k)=some (.at_ id)->lkB h id=.fns es->Qn ν h w es ms ->
 ∃g,lkB (yU ps (rest c M)).1 k=.fns g/\Qn (νb c.bd ν) h' w g ms
 |[],i,M,M1,e,c,_,_,k,_,_,_,l,_,_,_=>by simp at l
 |p::ps,i,M,M1,e,c,f,F,k,id,es,ms,l,hb,r,q=>by
  simp only[F3] at e
  split at e<;>try (cases e; done)
  rename_i x s;obtain⟨m,t1⟩:=A7 s;obtain⟨j,t2⟩:=tW e;obtain⟨u,t⟩:=t1 c (j.trans f);rw[yk,u]
  cases k with
  |zero =>
   rcases t with⟨v,d,o⟩|⟨d,o⟩|⟨d,o⟩
   ·have:=(m.trans (j.trans f)).bd _ _ d;have b:gT c.bd i=some (.at_ id):=hb;rw[this] at b;cases b;exact Yg s d r (j.trans f) F q
   ·have:=(m.trans (j.trans f)).new _ d;have b:gT c.bd i=some (.at_ id):=hb;rw[this] at b;cases b
   ·have:=(m.trans (j.trans f)).newd _ d;have b:gT c.bd i=some (.at_ id):=hb;rw[this] at b;cases b
  |succ k=>exact NH e c f F k id es ms (by simpa using l) (by rw[show i+1+k=i+(k+1) by omega]; exact hb) r q
def DT:∀{l:w9 Bd} {i id:Nat},gT l i=some (.at_ id)->id∈Ht l
 |[],_,_,h=>by cases h
 |x::l,0,id,h=>by
  simp only[gT,Option.some.injEq] at h;subst h; simp[Ht]
 |x::l,i+1,id,h=>by
  have:=DT (l:=l) (i:=i) (id:=id) h
  cases x<;>simp[Ht,this]
def GD:∀{l:w9 Bd} {i j id:Nat},uO (Ht l)=true->gT l i=some (.at_ id)->gT l j=some (.at_ id)->i=j
 |[],_,_,_,_,h,_=>by cases h
 |x::l,0,0,_,_,_,_=>rfl
 |x::l,0,j+1,id,hd,b,h2=>by
  simp only[gT,Option.some.injEq] at b;subst b;simp only[Ht,uO,cM] at hd;have:=DT (l:=l) (i:=j) (id:=id) h2;simp[this] at hd
 |x::l,i+1,0,id,hd,b,h2=>by
  simp only[gT,Option.some.injEq] at h2;subst h2;simp only[Ht,uO,cM] at hd;have:=DT (l:=l) (i:=i) (id:=id) b;simp[this] at hd
 |x::l,i+1,j+1,id,hd,b,h2=>by
  have c:uO (Ht l)=true:=by
   cases x<;>simp only[Ht,uO,cM] at hd<;>first|exact hd|exact hd.2
  rw[GD (l:=l) c b h2]
def XL {pin n i:Nat} (hi:i<pin) (c:pin<=n):gT (AW pin n) i=some (.at_ i):=by
 have key:∀(l:w9 Bd) (k:Nat),gT l k=l[k]?:=by
  intro l
  induction l with
  |nil=>intro k; simp[gT]
  |cons x l b=>intro k; cases k with
   |zero=>rfl
   |succ k=>simpa[gT] using b k
 rw[key,AW,eI,gg (by omega)];simp[hi]
def Fo:∀{pin:Nat},abD h pin=true->∀i,i<pin->(∀t g xs,lkB h i=.row t g false xs->g=0)/\∀k g xss,lkB h i=.deep k g xss->g=0
 |0,_,i,hi=>by omega
 |pin+1,f,i,hi=>by
  have b:abD h pin=true/\(∀t g xs,lkB h pin=.row t (g+1) false xs->False)/\∀k g xss,lkB h pin=.deep k (g+1) xss->False:=by
   simp only[abD] at f
   split at f<;>try (cases f; done)
   rename_i d c;exact⟨f,fun t g xs e=>d _ _ _ e,fun k g xss e=>c _ _ _ e⟩
  rcases Nat.lt_succ_iff_lt_or_eq.1 hi with l|rfl
  ·exact Fo b.1 i l
  ·refine⟨fun t g xs j=>?_,fun k g xss j=>?_⟩
   ·cases g with
    |zero=>rfl
    |succ g=>exact(b.2.1 _ _ _ j).elim
   ·cases g with
    |zero=>rfl
    |succ g=>exact(b.2.2 _ _ _ j).elim
def N5:∀(l:w9 AV) (n k:Nat),lk (l++List.replicate n .any) k=lk l k
 |[],0,_=>rfl
 |[],n+1,0=>rfl
 |[],n+1,k+1=>by simpa[List.replicate_succ,ac7,ac8,ac6] using N5 [] n k
 |x::l,n,0=>rfl
 |x::l,n,k+1=>by simpa[ac7,ac8,ac6] using N5 l n k
def Gv:∀(ps:w9 Pat) (I:It),(Fl ps I).1.length=ps.length
 |[],_=>rfl
 |p::ps,I=>by rw[tB]; simp[Gv ps]
def tV:acZ:=by
 intro T pin cs vs S p v ν a w e H;unfold sh at e
 split at e<;>try (cases e; done)
 rename_i hc;simp only[cM,decide_eq_true_eq] at hc;obtain⟨c1,c2,c3,c4⟩:=hc
 split at e<;>try (cases e; done)
 rename_i O Z
 split at e<;>try (cases e; done)
 rename_i M hH
 split at e<;>try (cases e; done)
 rename_i hd;simp only[cM,di] at hd;obtain⟨d1,d2⟩:=hd
 split at e<;>try (cases e; done)
 rename_i p' v' hp hv;cases e;have ep:Ul cs p=M.cons:=VB cs _ _ hp;have ev:Ul vs v=M.vars:=VB vs _ _ hv;obtain⟨eL,tL⟩:=A6 Z;obtain⟨eH,Y⟩:=tW hH
 -- the state of the pattern
 have hI0:({cons:=Ul cs p,vars:=Ul vs v}:It)=rest M {bd:=AW pin T.heap.length,cons:=[],vars:=[],freed:=[]}:=by
  simp[rest,ep,ev]
 have L:Û T cs vs p v={t:=(Fl T.slots (rest M {bd:=AW pin T.heap.length,cons:=[],vars:=[],freed:=[]})).1++List.replicate (T.n-T.slots.length) .any,h:=(yU T.heap (rest M O)).1}:=by
  unfold Û;rw[hI0];have:=tL M eH;show(St.mk _ _)=_;rw[show(Fl T.slots (rest M {bd:=AW pin T.heap.length,cons:=[],vars:=[],freed:=[]})).2=rest M O from this]
 rw[L]
 have y:M.bd.length=T.heap.length:=by rw[eH.len,eL.len]; simp[AW]
 have I:(yU T.heap (rest M O)).1.length=T.heap.length:=rz _ _
 have F:Fin ν S.h w M (yU T.heap (rest M O)).1:=by
  refine⟨fun i id hb=>?_,fun i hb=>?_,fun i hb=>?_,fun i h1 h2 h3=>?_,fun id hid i hb=>?_,fun i j id=>GD d1⟩
  ·have hi:i<T.heap.length:=by rw[<-y]; exact uD hb
   rcases Y M (Ext.refl _) i hi with⟨E,d,l⟩|⟨d,_⟩|⟨d,_⟩
   ·rw[dB,hb] at d; cases d; exact l
   ·rw[dB,hb] at d; cases d
   ·rw[dB,hb] at d; cases d
  ·have hi:i<T.heap.length:=by rw[<-y]; exact uD hb
   rcases Y M (Ext.refl _) i hi with⟨E,d,l⟩|⟨d,l⟩|⟨d,l⟩
   ·rw[dB,hb] at d; cases d
   ·exact l
   ·rw[dB,hb] at d; cases d
  ·have hi:i<T.heap.length:=by rw[<-y]; exact uD hb
   rcases Y M (Ext.refl _) i hi with⟨E,d,l⟩|⟨d,l⟩|⟨d,l⟩
   ·rw[dB,hb] at d; cases d
   ·rw[dB,hb] at d; cases d
   ·exact l
  ·rcases dA i T.heap.length with hi|hi
   ·rcases Y M (Ext.refl _) i hi with⟨E,d,l⟩|⟨d,l⟩|⟨d,l⟩
    ·rw[dB] at d; exact absurd d (h1 E)
    ·rw[dB] at d; exact absurd d h2
    ·rw[dB] at d; exact absurd d h3
   ·exact DN _ _ (by rw[I]; exact hi)
  ·have:=d2 id hid;have hm:=DT hb;simp[hm] at this
 have hHR:HR (νb M.bd ν) (yU T.heap (rest M O)).1 w:=by
  refine⟨fun i=>?_,fun i j b hi hj A hbj=>?_,H.heap.ghlt,fun i b z hb hg=>?_,H.heap.glob,fun b hb Z=>H.heap.globL b hb (F.subL b Z)⟩
  rotate_left 2
  ·obtain⟨id,d,l⟩:=F.subL b ⟨i,z,hb⟩;exact H.heap.ghne id b d l hg
  ·cases hb:gT M.bd i with
   |none=>rw[F.out i (by simp[hb]) (by simp[hb]) (by simp[hb])]; trivial
   |some x =>
    cases x with
    |open_=>rw[F.out i (by simp[hb]) (by simp[hb]) (by simp[hb])]; trivial
    |newd =>
     obtain⟨k,f⟩:=F.newd i hb;rw[f];exact⟨none,0,[],Vs hb,cJ _,fB _ _,.inl ⟨rfl,rfl⟩,trivial⟩
    |new =>
     obtain⟨t,ht⟩:=F.new i hb;rw[ht];exact⟨none,0,Zk hb,cJ _,.inl ⟨rfl,rfl⟩⟩
    |at_ id =>
     have f:=F.at_ i id hb;have B:=H.heap.blk id
     cases z:lkB S.h id with
     |dead=>rw[z] at f; rw[show lkB _ i=_ from f]; trivial
     |cells c =>
      rw[z] at B;obtain⟨b,X,e',d,l,D⟩:=B
      have hi:i<T.heap.length:=by rw[<-y]; exact uD hb
      obtain⟨cs',G,J⟩:=RF H.heap hH M (Ext.refl _) F i id c X.toList hi (by rw[dB]; exact hb) z D;rw[G];exact⟨b,X,e',(iC hb).trans d,l,J⟩
     |row t g fz xs =>
      rw[z] at f B
      cases fz with
      |true =>
       rw[show lkB _ i=_ from f];show CR w _ (.slice t) xs [_];rw[iC hb];exact CR.mono F.sub B
      |false =>
       rw[show lkB _ i=_ from f];obtain⟨base,cap,d,l,D⟩:=B;refine⟨base,cap,(iC hb).trans d,l,?_⟩;rcases D with D|⟨b,off,c,e',G,J,R,q7⟩
       ·exact .inl D
       ·refine .inr ⟨b,off,c,e',G,J,R,fun j x U=>?_⟩;obtain⟨us,q8,q9⟩:=q7 j x U;exact⟨us,CR.mono F.sub q8,q9⟩
     |map k u es =>
      rw[z] at f B;rw[show lkB _ i=_ from f];obtain⟨b,r,C,d,l,D,G⟩:=B;refine⟨b,r,C,(iC hb).trans d,l,D,fun j x U=>?_⟩;obtain⟨m,us,J,R,q7,q8⟩:=G j x U;exact⟨m,us,J,CR.mono F.sub R,CR.mono F.sub q7,q8⟩
     |fns es =>
      rw[z] at B;obtain⟨b,r,C,d,l,D⟩:=B
      have hi:i<T.heap.length:=by rw[<-y]; exact uD hb
      obtain⟨es',G,J⟩:=NH hH M (Ext.refl _) F i id es r.toList hi (by rw[dB]; exact hb) z D;rw[G];exact⟨b,r,C,(iC hb).trans d,l,J⟩
     |iter s q =>
      rw[z] at f B;rw[show lkB _ i=_ from f];obtain⟨b,d,l⟩:=B;exact⟨b,(iC hb).trans d,l⟩
     |deep k g xss =>
      rw[z] at f B;rw[show lkB _ i=_ from f];obtain⟨base,cap,us,d,l⟩:=B;exact⟨base,cap,us,(iC hb).trans d,l⟩
     |acc t xs =>
      rw[z] at f B;rw[show lkB _ i=_ from f];obtain⟨us,d,l,D,G⟩:=B;refine⟨us,(iC hb).trans d,by rw[iC hb]; exact l,D,?_⟩;rw[iC hb];exact Ghost.st _ _ _ _ _ _ G ⟨rfl,rfl,rfl,cJ _,fun b _ hn U=>hn (F.sub b U),fun b o ho _ _=>ho,fun b o ho _ _=>ho,fun _ _ _=>rfl⟩
  ·have W:∀i,(lkB (yU T.heap (rest M O)).1 i).live=true->ģ (νb M.bd ν i) b->∃id,gT M.bd i=some (.at_ id)/\(lkB S.h id).live=true/\ģ (ν id) b:=fun i hi A=>by
    cases hb:gT M.bd i with
    |none=>rw[F.out i (by simp[hb]) (by simp[hb]) (by simp[hb])] at hi; cases hi
    |some x =>
     cases x with
     |open_=>rw[F.out i (by simp[hb]) (by simp[hb]) (by simp[hb])] at hi; cases hi
     |new=>simp only[νb,hb] at A; cases A
     |newd =>
      simp only[νb,hb] at A;obtain⟨u,hu,A⟩:=A;simp at hu;subst hu;cases A
     |at_ id =>
      refine⟨id,rfl,?_,by simpa[νb,hb] using A⟩;have f:=F.at_ i id hb
      cases V:lkB S.h id with
      |dead=>rw[V] at f; rw[show lkB _ i=_ from f] at hi; cases hi
      |cells=>rfl
      |map=>rfl
      |deep=>rfl
      |acc=>rfl
      |fns=>rfl
      |iter=>rfl
      |row t g fz xs =>
       cases fz with
       |false=>rfl
       |true=>rw[V] at f; rw[show lkB _ i=_ from f] at hi; cases hi
   obtain⟨id,d,l,D⟩:=W i hi A;obtain⟨E,G,J,R⟩:=W j hj hbj;have:=H.heap.inj id E b l J D R;subst this;exact F.inj i j id d G
 have K:∀i,i<pin->gT M.bd i=some (.at_ i):=fun i hi=>(eL.trans eH).bd i i (XL hi c1);refine⟨νb M.bd ν,⟨H.defers,?_,fun i=>?_,hHR⟩,⟨rfl,rfl,rfl,cJ _,fun b _ hb=>⟨rfl,fun hb'=>hb (F.subL b hb')⟩,fun i hi=>?_⟩,by rw[I]; exact c1,fun i hi N=>?_⟩
 ·have:=H.len;simp only[cN,fL,Gv];omega
 ·simp only[N5];exact RE H.heap Z M eH F (fun k=>a.tmps.getD k undef) (fun k=>H.tmps k) i
 ·have hb:=K i hi;have f:=F.at_ i i hb
  cases z:lkB S.h i with
  |dead=>trivial
  |cells c=>rw[z] at f; exact⟨f,iC hb⟩
  |row t g fz xs =>
   rw[z] at f
   cases fz with
   |true=>exact⟨g,true,xs,f,cJ _,fun _=>⟨iC hb,rfl⟩⟩
   |false =>
    have hg:=(Fo c4 i hi).1 t g xs z;exact⟨0,false,xs,f,by omega,fun _=>⟨iC hb,rfl⟩⟩
  |map k u es=>rw[z] at f; exact⟨⟨es,f⟩,iC hb⟩
  |deep k g xss =>
   rw[z] at f;have hg:=(Fo c4 i hi).2 k g xss z;exact⟨0,xss,f,by omega,fun _=>⟨iC hb,rfl⟩⟩
  |acc t xs=>rw[z] at f; exact⟨xs,f⟩
  |fns es=>rw[z] at f; exact⟨f,iC hb⟩
  |iter s q=>rw[z] at f; exact⟨⟨q,f⟩,iC hb⟩
 ·have f:=F.at_ i i (K i hi);rw[N] at f;exact f
end
end Go.Am
end

noncomputable section
namespace Go.Am
variable [Globs] [Ghost]
section
variable {ρ:Type} {ν ν':Nat->Value} {h h':w9 Blk} {w w':World} {P:Program}
def ι (w:World) (G:Nat->Prop) (t:Ty) (x:Val t) (v:Value):Prop:=∃us,CR w G t x us/\v=vI t us
def AT (w:World) (G:Nat->Prop):(l:w9 Ty)->(t:Ty)->Val (tys t l)->w9 Value->Prop
 |[],t,x,vs=>∃v,vs=[v]/\ι w G t x v
 |u::l,t,x,vs=>∃v b,vs=v::b/\ι w G t (x:Val t×Val (tys u l)).1 v/\AT w G l u (x:Val t×Val (tys u l)).2 b
def AL (w:World) (G:Nat->Prop):(l:w9 Ty)->Val (tyL l)->w9 Value->Prop
 |[],_,vs=>vs=[]
 |t::l,x,vs=>AT w G l t x vs
def RR (w:World) (G:Nat->Prop):(l:w9 Ty)->Val (tyL l)->Value->Prop
 |[],_,u=>u=.tuple #[]
 |[t],x,u=>ι w G t x u
 |t::u'::l,x,u=>∃vs,u=.tuple vs/\AT w G (u'::l) t x vs.toList
def Ś (P:Program) (f:Nat) (p:đ):Prop :=
 ∀(G:Nat->Prop) (x:Val (tyL p.ts)) (y:Val (tyL p.rs)),p.F x=some y->∀(w:World) (vals:w9 Value),(∀b,G b->b<w.heap.size)->Globs.Φ w->AL w G p.ts x vals ->
  (∃fn c,P.funcs[f]?=some fn/\fn.body=some c) /\
  CallsIn Fence.wide 0 P f vals.toArray w fun e w'=>∃u,e=.returned u/\RR w' G p.rs y u/\(∀b,b<w.heap.size->w'.heap[b]?=w.heap[b]?)/\w.heap.size<=w'.heap.size/\w'.os=w.os/\w'.tape=w.tape/\w'.output=w.output
def P3 {a:AV} {vs:w9 AV} (e:į a=some vs):lD a=vs:=by
 cases a<;>simp only[į,Option.some.injEq,reduceCtorEq] at e<;>exact e
def xL {G:Nat->Prop} {t:Ty} {x:Val t} {a:AV} {v:Value} {vs:w9 AV} (d:(Ob a==t.isAgg)=true) (g:į a=some vs) (i:VR ν h w a v)
 (q:∀c∈lD a,∀u,VR1 ν h w c u->VRs w G (ò h c) u) (e:Ò t (vs.map (ò h))=some x):ι w G t x v:=by
 have f:=i.cells g;have h2:ñ (VRs w G) (vs.map (ò h)) v.cells.toList:=ñ.map_left (aux vs _ f fun c m u j=>q c (by rw[P3 g]; exact m) u j.1);refine⟨_,ē e h2,?_⟩
 cases ha:a.isAgg with
 |true =>
  cases a<;>try cases ha
  obtain⟨us,rfl,_⟩:=i
  have:t.isAgg=true:=by simpa[Ob] using d
  simp[vI,this,Value.cells]
 |false =>
  have r:Ob a=false:=by cases a<;>first|rfl|cases ha
  have l:t.isAgg=false:=by rw[r] at d; simpa using d
  have k:a.isTup=false:=by cases a<;>first|rfl|cases g
  have s:=(i.one ha k).oneCell g;simp[vI,l,pM s]
where
 aux {w:World} {G:Nat->Prop} {ν:Nat->Value} {h:w9 Blk} (vs:w9 AV) (us:w9 Value) (f:ñ (VRc ν h w) vs us) (o:∀c∈vs,∀u,VRc ν h w c u->VRs w G (ò h c) u):ñ (fun c b=>VRs w G (ò h c) b) vs us:=by
  induction vs generalizing us with
  |nil=>cases us with
   |nil=>trivial
   |cons=>exact f.elim
  |cons c vs p=>cases us with
   |nil=>exact f.elim
   |cons u us=>exact⟨o c (by simp) u f.1,p us f.2 fun c m u j=>o c (by simp[m]) u j⟩
def Qg (H:HR ν h w) {G:Nat->Prop} {t:Ty} {x:Val t} {a:AV} {v:Value} (p:VR ν h w a v)
 (K:∀c∈lD a,∀u,VR1 ν h w c u->VRs w G (ò h c) u) (hb:∀id cs,a=.box id 0->lkB h id=.cells cs->(∀b,ģ (ν id) b->¬G b)/\∀c∈cs,∀u,VR1 ν h w c u->VRs w G (ò h c) u) (hd:∀id g,a=.dp id g->(lkB h id).live=true->∀b,ģ (ν id) b->¬G b) (e:adc h t a=some x):ι w G t x v:=by
 cases B:(match t with|.ptr _=>true|_=>false) with
 |false =>
  by_cases m:∃id g,a=.dp id g
  ·obtain⟨id,g,rfl⟩:=m
   have d:(match lkB h id with
    |.deep k g' xss=>match g==g' with
     |true=>match decEq (Ty.slice (.slice (.int k))) t with
      |isTrue e=>some (qd (F:=Val) e xss)
      |isFalse _=>none
     |false=>none
    |_=>none)=some x:=by
    cases t<;>first|exact e|cases B
   split at d<;>try (cases d; done)
   rename_i k g' xss j
   split at d<;>try (cases d; done)
   rename_i R
   split at d<;>try (cases d; done)
   rename_i A _;subst A;cases d;obtain⟨W,V,X,J,l,_,N⟩:=p;rw[j] at l; cases l;have i:=QI H j (N (by simpa using R)) (hd id g rfl (by rw[j]; rfl));exact⟨[v],i,rfl⟩
  have d:(match Ob a==t.isAgg with|true=>(match į (VF h a) with|some cs=>Ò t cs|none=>none)|false=>none)=some x:=by
   have O:∀id g,a≠.dp id g:=fun id g q=>m ⟨id,g,q⟩
   cases t<;>first|(cases B; done)|(cases a<;>first|exact e|exact absurd rfl (O _ _))
  split at d<;>try (cases d; done)
  rename_i D
  split at d<;>try (cases d; done)
  rename_i cs f;obtain⟨vs,z,rfl⟩:=Ez f;exact xL D z p K d
 |true =>
  cases t<;>try cases B
  rename_i u;simp only[adc] at e
  split at e<;>try (cases e; done)
  ·rename_i id
   split at e<;>try (cases e; done)
   rename_i cs j;obtain⟨U,b,z,h2,I⟩:=p.one rfl rfl;have L:=H.blk id;rw[j] at L;obtain⟨Y,c,d,s,r,E⟩:=L;rw[h2] at s; cases s;obtain⟨T,f⟩:=hb id cs rfl j;have i:CR w G u x c.toList:=ē e (ñ.map_left (xL.aux cs _ E fun c S u M=>f c S u M.1));refine⟨[v],⟨b,0,c.toList,by rw[I],T b (by rw[h2]; rfl),ß r,i,CellsAt.of_cells r⟩,rfl⟩
  ·rename_i t' y
   split at e<;>try (cases e; done)
   rename_i C _;subst C;cases e;have z:=K _ (by simp[lD]) v (p.one rfl rfl);obtain⟨b,o,us,h2,I,s,r,E⟩:=z;exact⟨[v],⟨b,o,us,by rw[h2]; rfl,I,s,r,E⟩,rfl⟩
def LH (H:HR ν h w) {G:Nat->Prop}:∀(l:w9 Ty) (t:Ty) (x:Val (tys t l)) (as:w9 AV) (vs:w9 Value),ñ (VR ν h w) as vs ->
 (∀a∈as,∀c∈lD a,∀u,VR1 ν h w c u->VRs w G (ò h c) u)->(∀a∈as,∀id cs,a=.box id 0->lkB h id=.cells cs->(∀b,ģ (ν id) b->¬G b)/\∀c∈cs,∀u,VR1 ν h w c u->VRs w G (ò h c) u)->(∀a∈as,∀id g,a=.dp id g->(lkB h id).live=true->∀b,ģ (ν id) b->¬G b)->Qf h l t as=some x->AT w G l t x vs
 |[],t,x,[],vs,_,_,_,_,e=>by cases e
 |[],t,x,[a],vs,d,f,hb,hd,e=>by
  obtain⟨v,rfl,k⟩:=d.one;exact⟨v,rfl,Qg H k (f a (by simp)) (hb a (by simp)) (hd a (by simp)) e⟩
 |[],t,x,_::_::_,vs,_,_,_,_,e=>by cases e
 |u::l,t,x,[],vs,_,_,_,_,e=>by cases e
 |u::l,t,x,a::as,[],d,_,_,_,e=>d.elim
 |u::l,t,x,a::as,v::vs,d,f,hb,hd,e=>by
  simp only[Qf] at e
  split at e<;>try (cases e; done)
  rename_i y j
  split at e<;>try (cases e; done)
  rename_i z i;cases e;exact⟨v,vs,rfl,Qg H d.1 (f a (by simp)) (hb a (by simp)) (hd a (by simp)) j,LH H l u z as vs d.2 (fun a ha=>f a (by simp[ha])) (fun a ha=>hb a (by simp[ha])) (fun a ha=>hd a (by simp[ha])) i⟩
def Em (H:HR ν h w) {G:Nat->Prop} {l:w9 Ty} {x:Val (tyL l)} {as:w9 AV} {vs:w9 Value} (d:ñ (VR ν h w) as vs)
 (f:∀a∈as,∀c∈lD a,∀u,VR1 ν h w c u->VRs w G (ò h c) u) (hb:∀a∈as,∀id cs,a=.box id 0->lkB h id=.cells cs->(∀b,ģ (ν id) b->¬G b)/\∀c∈cs,∀u,VR1 ν h w c u->VRs w G (ò h c) u) (hd:∀a∈as,∀id g,a=.dp id g->(lkB h id).live=true->∀b,ģ (ν id) b->¬G b) (e:BK h l as=some x):AL w G l x vs:=by
 cases l with
 |nil=>cases as with
  |nil=>exact d.nil_left
  |cons=>cases e
 |cons t l=>exact LH H l t x as vs d f hb hd e
def ι.mono {G c:Nat->Prop} (e:∀b,c b->G b) {t:Ty} {x:Val t} {v:Value} (d:ι w G t x v):ι w c t x v:=by
 obtain⟨us,f,h2⟩:=d;exact⟨us,CR.mono e f,h2⟩
def Fq {av f:Nat->Prop}:∀{t:Ty} {x:Val t} {us:w9 Value},(flat t x).all zb=true->CR w av t x us->CR w f t x us
 |.unit,_,_,_,d=>d
 |.bool,_,_,_,d=>d
 |.int _,_,_,_,d=>d
 |.str,_,_,_,d=>d
 |.slice _,_,_,c,_=>by simp[flat,zb] at c
 |.map _ _,_,_,c,_=>by simp[flat,zb] at c
 |.ptr _,_,_,c,_=>by simp[flat,zb] at c
 |.pair a b,x,us,c,d=>by
  simp only[flat,List.all_append,cM] at c;obtain⟨u1,u2,e,g,h2⟩:=d;exact⟨u1,u2,e,Fq c.1 g,Fq c.2 h2⟩
def abR {t:Ty} {x:Val t} (b:plain (enc t x)=true):(flat t x).all zb=true:=by
 cases t<;>first|exact b|(simp only[enc,plain,zb] at b; simp[flat,zb])|(simp[enc,plain,zb] at b)
def ι.plain {G e:Nat->Prop} {t:Ty} {x:Val t} {v:Value} (c:plain (enc t x)=true) (b:ι w G t x v):ι w e t x v:=by
 obtain⟨us,d,h2⟩:=b;exact⟨us,Fq (abR c) d,h2⟩
def AT.plain {G e:Nat->Prop}:∀{l:w9 Ty} {t:Ty} {x:Val (tys t l)} {vs:w9 Value},(abS l t x).all Go.Am.plain=true->AT w G l t x vs->AT w e l t x vs
 |[],t,x,vs,b,⟨v,c,h2⟩=>⟨v,c,h2.plain (by simpa[abS] using b)⟩
 |u::l,t,x,vs,b,⟨v,vs',c,h2,d⟩=>by
  simp only[abS,fk,cM] at b;exact⟨v,vs',c,h2.plain b.1,AT.plain b.2 d⟩
def Q2 {v:AV} (b:v.isTup=false):Iv v=Go.Am.plain v:=by cases v<;>first|rfl|cases b
def Fy {t:Ty} {x:Val t}:(enc t x).isTup=false:=by cases t<;>rfl
def RR.plain {G d:Nat->Prop}:∀{l:w9 Ty} {x:Val (tyL l)} {u:Value},Iv (TP l x)=true->RR w G l x u->RR w d l x u
 |[],_,_,_,h=>h
 |[t],x,u,b,h=>ι.plain ((Q2 (Fy (t:=t) (x:=x))).symm.trans b) h
 |t::u'::l,x,u,b,⟨vs,c,h2⟩=>⟨vs,c,h2.plain b⟩
def ι.VR {t:Ty} {x:Val t} {v:Value} (b:ι w (Av ν h) t x v):VR ν h w (enc t x) v:=by
 obtain⟨us,c,rfl⟩:=b;exact GC c
def AT.VR:∀{l:w9 Ty} {t:Ty} {x:Val (tys t l)} {vs:w9 Value},AT w (Av ν h) l t x vs->ñ (VR ν h w) (abS l t x) vs
 |[],t,x,_,⟨v,rfl,h2⟩=>⟨h2.VR,trivial⟩
 |u::l,t,x,_,⟨v,vs',rfl,h2,b⟩=>⟨h2.VR,AT.VR b⟩
def K9:∀{l:w9 Ty} {t:Ty} {x:Val (tys t l)},∀a∈abS l t x,a.isTup=false
 |[],t,x,a,b=>by simp only[abS,cT] at b; rw[b]; exact Fy
 |u::l,t,x,a,b=>by
  simp only[abS,cP] at b;rcases b with rfl|b
  ·exact Fy
  ·exact K9 a b
def ñ.VR2:∀{as:w9 AV} {vs:w9 Value},ñ (VR ν h w) as vs->(∀a∈as,a.isTup=false)->ñ (VR2 ν h w) as vs
 |[],[],_,_=>trivial
 |a::as,v::vs,b,c=>⟨by rw[<-uV (c a (by simp))]; exact b.1,ñ.VR2 b.2 fun a ha=>c a (by simp[ha])⟩
 |[],_::_,b,_=>b.elim
 |_::_,[],b,_=>b.elim
def RR.VR:∀{l:w9 Ty} {x:Val (tyL l)} {u:Value},RR w (Av ν h) l x u->VR ν h w (TP l x) u
 |[],_,_,h=>by cases h; exact⟨#[],rfl,trivial⟩
 |[t],x,u,h=>ι.VR h
 |t::u'::l,x,u,⟨vs,b,h2⟩=>⟨vs,b,ñ.VR2 h2.VR K9⟩
def En (P:Program) (g:Nat) (ν:Nat->Value) (h:w9 Blk) (w:World) (vals:w9 Value) (K:AV->w9 Blk->w8 ρ) (r:ρ):Prop :=
 (∃fn c,P.funcs[g]?=some fn/\fn.body=some c) /\
 CallsIn Fence.wide 0 P g vals.toArray w fun e w'=>∃ν' h' v u,e=.returned u/\VR ν' h' w' v u/\HR ν' h' w'/\Ev h.length ν h w ν' h' w'/\h.length<=h'.length/\(∀j,j<h.length->lkB h j=.dead->lkB h' j=.dead)/\K v h'=some r
def WS {c:AV} {u:Value}:∀{as:w9 AV} {h:w9 Blk},HR ν h w->c∈as->IH c=true->VR1 ν h w c u->VRs w (Av ν (yV h as)) (ò h c) u
 |[],_,_,b,_,_=>by cases b
 |a::as,h,H,b,e,d=>by
  obtain⟨g,f,i⟩:=KM H a;rcases cP.1 b with rfl|b
  ·exact VRs.mono ((BA as f).2.2) (KL H d e)
  ·have:=WS (as:=as) f b e (d.ev g)
   rwa [EA] at this
def XX {f:Nat} {p:đ} (T:Ś P f p) {b:Bool} {d:w9 AV} {K:AV->w9 Blk->w8 ρ} {r:ρ} (e:OY b p h d K=some r) (H:HR ν h w) {vals:w9 Value} (D:ñ (VR ν h w) d vals):En P f ν h w vals K r:=by
 unfold OY at e
 split at e<;>try (cases e; done)
 rename_i x C;simp only[Ã] at e
 split at e<;>try (cases e; done)
 rename_i y R
 -- the call, with what may not be touched
 have call:∀(G:Nat->Prop),(∀b,G b->b<w.heap.size)->AL w G p.ts x vals->∀(h':w9 Blk),HR ν h' w->Ev h.length ν h w ν h' w->h.length<=h'.length->(∀j,j<h.length->lkB h j=.dead->lkB h' j=.dead) ->
  (∀w' u,RR w' G p.rs y u->RR w' (Av ν h') p.rs y u)->K (TP p.rs y) h'=some r->En P f ν h w vals K r:=by
  intro G V L h' B ev A q E U;obtain⟨W,h2⟩:=T G x y R w vals V H.glob L;refine⟨W,h2.mono fun e w' S=>?_⟩;obtain⟨u,rfl,g1,g2,g3,Z,Y,X⟩:=S;obtain⟨M,N⟩:=B.grow g2 g3 Z Y X h.length;exact⟨ν,h',_,u,rfl,(E w' u g1).VR,N,ev.trans M (cJ _),A,q,U⟩
 split at e
 ·rename_i I;exact call Ghost.G (fun b hb=>H.ghlt b hb) (Em H D (fun a _ c _ u o=>Ng H o) (fun _ _ id cs _ A=>⟨fun b hb J=>H.ghne id b (by rw[A]; rfl) hb J,fun c _ u o=>Ng H o⟩) (fun _ _ id g _ A b hb J=>H.ghne id b A hb J) C) h H (Ev.refl _ _ _ _) (cJ _) (fun _ _ hd=>hd) (fun w' u t=>t.plain I) e
 ·split at e
  ·rename_i v
   have i:∀a∈d,LK a=false:=fun a ha=>by have:=di.1 v a ha; simpa using this
   refine call (Av ν h) (fun b hb=>H.ltA hb) (Em H D (fun a ha c m u o=>?_) (fun a ha id cs k _=>?_) (fun a ha id g k=>?_) C) h H (Ev.refl _ _ _ _) (cJ _) (fun _ _ hd=>hd) (fun w' u t=>t) e
   ·have s:BN c=false:=by
     have:=i a ha
     cases a<;>first
      |(simp only[lD,cT] at m; subst m; exact this)
      |(simp only[lD] at m; simp only[LK,eV] at this; simpa using this c m)
    have:ò h c=c:=by cases c<;>first|rfl|cases s
    rw[this]; exact o.data
   ·subst k; cases i _ ha
   ·subst k; cases i _ ha
  ·split at e<;>try (cases e; done)
   rename_i z;simp only[Bool.or_eq_false_iff,fc] at z;have l:∀a∈d,aay a=true:=di.1 z.2;obtain⟨ev,B,O⟩:=BA (d.flatMap lD) H;refine call (Av ν (yV h (d.flatMap lD))) (fun b hb=>B.ltA hb) (Em H D (fun a ha c m u o=>?_) (fun a ha id cs k _=>?_) (fun a ha id g k=>?_) C) _ B ev (by rw[ż]; exact cJ _) (fun _ _ hd=>KJ _ hd) (fun w' u t=>t) e
   ·refine WS H (dz.2 ⟨a,ha,m⟩) ?_ o;have:=l a ha
    have s:aax c=true:=by
     cases a<;>first
      |(simp only[lD,cT] at m; subst m; exact this)
      |(simp only[lD] at m; simp only[aay,di] at this; exact this c m)
    cases c<;>first|rfl|cases s
   ·subst k; cases l _ ha
   ·subst k; cases l _ ha
end
end Go.Am
end
