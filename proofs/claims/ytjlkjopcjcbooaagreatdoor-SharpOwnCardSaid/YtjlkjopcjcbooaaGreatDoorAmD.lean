/- lemmas -/
import Derived.Test.YtjlkjopcjcbooaaGreatDoorAmC
import Derived.Test.YtjlkjopcjcbooaaGreatDoorAmB
set_option linter.all false
noncomputable section
namespace Go.Am
variable [Globs]
structure adT where
 ty:Ty
 ts:y5 Ty
 clo:Nat
 mt:Ty
 F:y5 (Val ty)->Val (tyL ts)->Val mt->x9 (y5 (Val ty)×Val mt)
def Rx:y5 AV->x9 (y5 AV×AV)
 |[]=>none
 |[a]=>some ([],a)
 |a::l=>match Rx l with
  |some (m,b)=>some (a::m,b)
  |none=>none
section
variable {ρ:Type}
def rowX (r:adT) (h:y5 Blk) (args:y5 AV) (K:AV->y5 Blk->x9 ρ):x9 ρ :=
 match args with
 |.own id g::as=>match Rx as with
  |some (ds,.fn (.func c) [] [.box bid 0])=>match Nat.beq c r.clo&&!Nat.beq id bid with
   |true=>match lkB h id with
    |.row t g' false xs=>match g==g' with
     |true=>match decEq t r.ty with
      |isTrue e=>match lkB h bid with
       |.cells cs=>match cs.all fun a=>!yc a with
        |true=>match ya h r.ts ds with
         |some x=>match (Ee r.ts x).all plain with
          |true=>match Ô r.mt cs with
           |some m=>Ã (r.F (pz (F:=fun t=>y5 (Val t)) e xs) x m) fun z=>K (.tup []) (ã (ã h id (.row r.ty g' false z.1)) bid (.cells (flat r.mt z.2)))
           |none=>none
          |false=>none
         |none=>none
        |false=>none
       |_=>none
      |isFalse _=>none
     |false=>none
    |_=>none
   |false=>none
  |_=>none
 |_=>none
def V9 (r:adT) (x:Val (tyL r.ts)):y5 AV:=.own 0 0::(Ee r.ts x++[.fn (.func r.clo) [] [.box 1 0]])
def nw (r:adT) (xs:y5 (Val r.ty)) (m:Val r.mt):y5 Blk:=[.row r.ty 0 false xs,.cells (flat r.mt m)]
def abR (r:adT) (K:y5 (Val r.ty)->Val r.mt->x9 ρ) (v:AV) (h:y5 Blk):x9 ρ :=
 match v with
 |.tup []=>match lkB h 0 with
  |.row t 0 false ys=>match decEq t r.ty with
   |isTrue e=>match lkB h 1 with
    |.cells cs=>match cs.all fun a=>!yc a with
     |true=>match Ô r.mt cs with
      |some m=>K (pz (F:=fun t=>y5 (Val t)) e ys) m
      |none=>none
     |false=>none
    |_=>none
   |isFalse _=>none
  |_=>none
 |_=>none
end
structure RowOk (P:Program) (f:Nat) (r:adT):Prop where
 ok:∀(G:Nat->Prop) (xs:y5 (Val r.ty)) (x:Val (tyL r.ts)) (m:Val r.mt) (ys:y5 (Val r.ty)) (m2:Val r.mt),r.F xs x m=some (ys,m2) ->
 ∀(ν:Nat->Value) (w:World) (vals:y5 Value),@HR _ (Gh G) ν (nw r xs m) w->í (@VR _ (Gh G) ν (nw r xs m) w) (V9 r x) vals ->
  (∃fn c,P.funcs[f]?=some fn/\fn.body=some c)/\CallsIn Fence.wide 0 P f vals.toArray w fun e w'=>∃ν' h' v u,e=.returned u/\@VR _ (Gh G) ν' h' w' v u/\@HR _ (Gh G) ν' h' w'/\Ev 2 ν (nw r xs m) w ν' h' w'/\abR r (fun zs m'=>some (zs,m')) v h'=some (ys,m2)
section
variable [É] {ρ:Type} {ν:Nat->Value} {h:y5 Blk} {w:World} {P:Program}
def Es:∀{l m:y5 AV} {b:AV},Rx l=some (m,b)->l=m++[b]
 |[],_,_,e=>by cases e
 |[a],_,_,e=>by cases e; rfl
 |a::c::l,m,b,e=>by
  simp only[Rx] at e
  split at e<;>try (cases e; done)
  rename_i f g d;cases e;rw[Es d];rfl
def J2 (H:HR ν h w) {cs:y5 AV} (hd:(cs.all fun a=>!yc a)=true) {us:y5 Value} (c:í (VRc ν h w) cs us):í (VRs w (Av ν h)) cs us :=
 í.mono (fun _ _ b=>VR1.data b.1) c
def AL.plainG {G b:Nat->Prop}:∀{l:y5 Ty} {x:Val (tyL l)} {vs:y5 Value},(Ee l x).all plain=true->AL w G l x vs->AL w b l x vs
 |[],_,_,_,h=>h
 |_::_,_,_,a,h=>AT.plain a h
def adu {f:Nat} {r:adT} (hr:RowOk P f r):Pq P f (rowX (ρ:=ρ) r):=by
 intro h args K res e ν w vals H N;unfold rowX at e
 split at e<;>try (cases e; done)
 rename_i id g as
 split at e<;>try (cases e; done)
 rename_i ds c bid hsp
 split at e<;>try (cases e; done)
 rename_i W;simp only[bZ,dE] at W;obtain rfl:=cd W.1
 have S:id≠bid:=fun q=>by rw[q,Nat.beq_refl] at W; exact absurd W.2 (by simp)
 split at e<;>try (cases e; done)
 rename_i t g' xs hl
 split at e<;>try (cases e; done)
 rename_i T
 obtain rfl:g=g':=by simpa using T
 split at e<;>try (cases e; done)
 rename_i hty _;subst hty
 split at e<;>try (cases e; done)
 rename_i cs M
 split at e<;>try (cases e; done)
 rename_i hcs
 split at e<;>try (cases e; done)
 rename_i x hx
 split at e<;>try (cases e; done)
 rename_i hpl
 split at e<;>try (cases e; done)
 rename_i m hm;simp only[Ã] at e
 split at e<;>try (cases e; done)
 rename_i z hys;obtain⟨ys,m2⟩:=z
 replace hys:r.F xs x m=some (ys,m2):=hys
 have has:=Es hsp;subst has
 -- the arguments
 cases vals with
 |nil=>exact N.elim
 |cons u0 us =>
 obtain⟨hu0,hus⟩:=N;obtain⟨us1,us2,rfl,hds,hfn⟩:=hus.split;obtain⟨uf,rfl,huf⟩:=hfn.one
 have Z:u0=ν id:=by
  obtain⟨_,t2,g2,fz2,xs2,hl2,_,hq⟩:=hu0;rw[hl] at hl2;cases hl2;exact hq rfl
 obtain⟨fs,cps,rfl,hfs,hcps⟩:=huf
 have d:(lkB h id).live=true:=by rw[hl]; rfl
 have l:(lkB h bid).live=true:=by rw[M]; rfl
 have hidl:id<h.length:=ĭ hl (by simp);have hbl:bid<h.length:=ĭ M (by simp);have hB:=H.blk id;rw[hl] at hB;have hC:=H.blk bid;rw[M] at hC
 -- the frame
 obtain⟨E,O⟩:∃E:Nat->Prop,E=fun b=>Av ν h b/\¬Ĝ (ν id) b/\¬Ĝ (ν bid) b:=⟨_,rfl⟩
 obtain⟨s,Y⟩:∃s:Nat->Value,s=fun n=>if n=0 then ν id else if n=1 then ν bid else undef:=⟨_,rfl⟩
 have R:s 0=ν id:=by rw[Y]; rfl
 have n1:s 1=ν bid:=by rw[Y]; rfl
 have hAv:∀b,@Av _ (Gh E) s (nw r xs m) b->Av ν h b:=by
  rintro b (⟨i,hi,o⟩|T)
  ·match i,hi,o with
   |0,_,o=>rw[R] at o; exact .inl ⟨id,d,o⟩
   |1,_,o=>rw[n1] at o; exact .inl ⟨bid,l,o⟩
   |i+2,hi,_=>cases hi
  ·have L:E b:=T;rw[O] at L;exact L.1
 obtain⟨bb,cb,eb,hc1,hc2,hc3⟩:=hC;have hcr:CR w (Av ν h) r.mt m cb.toList:=ď hm (J2 H hcs hc3);have hx0:AL w (fun _=>False) r.ts x us1:=Bc H hds (fun a _ c _ u hu=>MJ H hu) (fun _ _ _ _ _ _=>⟨fun _ _ hf=>hf,fun c _ u hu=>MJ H hu⟩) (fun _ _ _ _ _ _ _ _ hf=>hf) hx;have hx1:AL w (@Av _ (Gh E) s (nw r xs m)) r.ts x us1:=AL.plainG hpl hx0
 have H0:@HR _ (Gh E) s (nw r xs m) w:=by
  refine @HR.mk _ (Gh E) _ _ _ (fun i=>?_) (fun i j b hi hj p I=>?_) (fun b hb=>?_) (fun i b hi p T=>?_) H.glob (fun b hb ⟨i,hi,o⟩=>by
   match i,hi,o with
   |0,_,o=>rw[R] at o; exact H.globL b hb ⟨id,d,o⟩
   |1,_,o=>rw[n1] at o; exact H.globL b hb ⟨bid,l,o⟩
   |i+2,hi,_=>cases hi)
  ·match i with
   |0 =>
    obtain⟨base,cap,D,G,Q⟩:=hB;refine⟨base,cap,R.trans D,G,Q.imp (fun z=>z) fun⟨b,off,c,e',q4,q5,q6,q7⟩=>⟨b,off,c,e',q4,q5,q6,fun i y hy=>?_⟩⟩;obtain⟨us,q8,q9⟩:=q7 i y hy;exact⟨us,CR.mono hAv q8,q9⟩
   |1=>exact⟨bb,cb,eb,n1.trans hc1,hc2,@jS _ (Gh E) s (nw r xs m) w _ _ _ (CR.mono hAv hcr)⟩
   |i+2=>exact trivial
  ·match i,j,hi,hj,p,I with
   |0,0,_,_,_,_=>rfl
   |1,1,_,_,_,_=>rfl
   |0,1,_,_,p,I=>rw[R] at p; rw[n1] at I; exact absurd (H.inj id bid b d l p I) S
   |1,0,_,_,p,I=>rw[n1] at p; rw[R] at I; exact absurd (H.inj id bid b d l I p) S
   |i+2,_,hi,_,_,_=>cases hi
   |_,j+2,_,hj,_,_=>cases hj
  ·have hb':E b:=hb;rw[O] at hb';exact H.ltA hb'.1
  ·have L:E b:=T;rw[O] at L
   match i,hi,p with
   |0,_,p=>rw[R] at p; exact L.2.1 p
   |1,_,p=>rw[n1] at p; exact L.2.2 p
   |i+2,hi,_=>cases hi
 have X:í (@VR _ (Gh E) s (nw r xs m) w) (V9 r x) (u0::(us1++[.func (.func r.clo) fs cps])):=by
  refine⟨⟨?_,r.ty,0,false,xs,rfl,bX _,fun _=>Z.trans R.symm⟩,(@AL.VR _ (Gh E) s (nw r xs m) w _ _ _ hx1).append ⟨⟨fs,cps,rfl,?_,?_⟩,trivial⟩⟩
  ·rw[Z];obtain⟨base,cap,D,_⟩:=hB;rw[D]; rfl
  ·rw[hfs.nil_left]; trivial
  ·obtain⟨uc,hu1,hu2⟩:=hcps.one;rw[hu1];refine⟨?_,trivial⟩;obtain⟨cs',b',D,G,Q⟩:=hu2;exact⟨flat r.mt m,b',rfl,n1.trans G,Q⟩
 obtain⟨hbody,hcall⟩:=hr.ok E xs x m ys m2 hys s w _ H0 X;refine⟨hbody,hcall.mono fun en w' hw=>?_⟩;obtain⟨ν',h',v,u,rfl,g1,g2,g3,J⟩:=hw
 -- what the run leaves
 unfold abR at J
 split at J<;>try (cases J; done)
 split at J<;>try (cases J; done)
 rename_i t' ys' hl0
 split at J<;>try (cases J; done)
 rename_i hty' _;subst hty'
 split at J<;>try (cases J; done)
 rename_i cs' hl1
 split at J<;>try (cases J; done)
 rename_i hcs'
 split at J<;>try (cases J; done)
 rename_i m' hm';cases J;have nx0:=g3.blk 0 (by omega);rw[show lkB (nw r xs m) 0=.row r.ty 0 false xs from rfl,hl0] at nx0;obtain⟨_,_,_,D,_,Q⟩:=nx0;cases D;obtain⟨v0,hylen⟩:=Q rfl;have nx1:=g3.blk 1 (by omega);rw[show lkB (nw r xs m) 1=.cells (flat r.mt m) from rfl] at nx1;have v1:ν' 1=ν bid:=nx1.2.trans n1;rw[R] at v0;have b0:=@HR.blk _ (Gh E) _ _ _ g2 0;rw[hl0] at b0;have b1:=@HR.blk _ (Gh E) _ _ _ g2 1;rw[hl1] at b1
 have lv0:(lkB h' 0).live=true:=by rw[hl0]; rfl
 have lv1:(lkB h' 1).live=true:=by rw[hl1]; rfl
 have C:∀k,ì (ì ν id (ν id)) bid (ν bid) k=ν k:=fun k=>by
  by_cases D:k=bid
  ·rw[D,È]
  ·rw[ø _ _ D]
   by_cases G:k=id
   ·rw[G,È]
   ·rw[ø _ _ G]
 have hAv':∀b,Av (ì (ì ν id (ν id)) bid (ν bid)) (ã (ã h id (.row r.ty g false ys')) bid (.cells (flat r.mt m2))) b->@Av _ (Gh E) ν' h' b:=by
  rintro b (⟨k,hk,o⟩|T)
  ·rw[C] at o
   by_cases D:k=bid
   ·rw[D] at o;exact .inl ⟨1,lv1,by rw[v1]; exact o⟩
   ·rw[Ì _ D] at hk
    by_cases G:k=id
    ·rw[G] at o;exact .inl ⟨0,lv0,by rw[v0]; exact o⟩
    ·rw[Ì _ G] at hk;refine .inr ?_;show E b;rw[O];exact⟨.inl ⟨k,hk,o⟩,fun q=>G (H.inj k id b hk d o q),fun q=>D (H.inj k bid b hk l o q)⟩
  ·refine .inr ?_;show E b;rw[O];exact⟨.inr T,fun q=>H.ghne id b d q T,fun q=>H.ghne bid b l q T⟩
 obtain⟨ev,hr2⟩:=upd2 (w':=w') (A:=.row r.ty g false ys') (B:=.cells (flat r.mt m2)) (U:=ν id) (V:=ν bid) H S hidl hbl g3.os g3.tape g3.output g3.size
  (fun b hb D G=>(g3.keep b hb fun⟨i,hi,o⟩=>by
   match i,hi,o with
   |0,_,o=>rw[R] at o; exact D d o
   |1,_,o=>rw[n1] at o; exact G l o
   |i+2,hi,_=>cases hi).1)
  (fun _ b hb=>.inl ⟨d,hb⟩) (fun _ b hb=>.inr (.inl ⟨l,hb⟩)) (fun _ _ b h1 h2=>S (H.inj id bid b d l h1 h2))
  (by rw[hl]; exact⟨g,false,ys',rfl,bX _,fun _=>⟨C id,hylen⟩⟩)
  (by rw[M]; exact⟨⟨_,rfl⟩,C bid⟩)
  (fun ev=>by
   obtain⟨base,cap,D,G,Q⟩:=b0;refine⟨base,cap,(C id).trans (v0.symm.trans D),G,Q.imp (fun x=>x) fun⟨b,off,c,e',q4,q5,q6,q7⟩=>⟨b,off,c,e',q4,q5,q6,fun i y hy=>?_⟩⟩;obtain⟨us,q8,q9⟩:=q7 i y hy
   exact⟨us,CR.mono hAv' q8,q9⟩)
  (fun ev=>by
   obtain⟨b2,c2,e2,D,G,Q⟩:=b1
   exact⟨b2,c2,e2,(C bid).trans (v1.symm.trans D),G,jS (CR.mono hAv' (ď hm' (@J2 _ (Gh E) _ _ _ g2 _ hcs' _ Q)))⟩)
 refine⟨_,_,.tup [],u,rfl,?_,hr2,ev,by rw[Ë,Ë]; exact bX _,fun j hj hd=>?_,e⟩
 ·obtain⟨vs,D,G⟩:=g1;exact⟨vs,D,by rw[G.nil_left]; trivial⟩
 ·have j1:j≠bid:=fun q=>by rw[q,M] at hd; cases hd
  have j2:j≠id:=fun q=>by rw[q,hl] at hd; cases hd
  rw[Ì _ j1,Ì _ j2];exact hd
end
def adQ {ρ:Type} (h:y5 Blk) (args:y5 AV) (K:AV->y5 Blk->x9 ρ):x9 ρ :=
 match args with
 |[]=>none
 |a::l=>match l with
  |_::_=>none
  |[]=>match a with
   |.str s=>Ã (Vi s) fun r=>K (.tup [.int .i64 r.1,.ifc r.2]) h
   |_=>none
structure Zw (P:Program) (f:Nat):Prop where
 body:∃fn c,P.funcs[f]?=some fn/\fn.body=some c
 ok:∀(w:World) (s:ByteArray) (r:Int×Bool),Globs.Φ w->Vi s=some r->Calls P f #[.string s] w fun e w'=>∃u,e=.returned (.tuple #[.int .i64 r.1,u])/\u.oneCell'=true/\(r.2=false->u=.nilIface)/\(r.2=true->∃t x,u=.iface t x)/\RowKit.Below w.heap.size w w'
def aaQ [É] {ρ:Type} {P:Program} {f:Nat} (i:Zw P f):Pq P f (adQ (ρ:=ρ)):=by
 intro h args K res e ν w vals H a;unfold adQ at e
 split at e<;>try (cases e; done)
 split at e<;>try (cases e; done)
 split at e<;>try (cases e; done)
 rename_i s;unfold Ã at e
 split at e<;>try (cases e; done)
 rename_i r g;obtain⟨v,rfl,k⟩:=a.one;have d:v=.string s:=k;subst d;refine⟨i.body,(callsIn_wide (n:=0)).2 ((i.ok w s r H.glob g).mono fun o w' j=>?_)⟩;obtain⟨u,rfl,h0,l,h2,c⟩:=j;obtain⟨ev,m⟩:=H.grow (fun b hb=>c.block b hb) c.size c.os c.tape c.output h.length;exact⟨ν,h,.tup [.int .i64 r.1,.ifc r.2],_,rfl,⟨#[.int .i64 r.1,u],rfl,rfl,⟨h0,l,h2⟩,trivial⟩,m,ev,bX _,fun _ _ hd=>hd,e⟩
def VW {ρ:Type} (h:y5 Blk) (args:y5 AV) (K:AV->y5 Blk->x9 ρ):x9 ρ :=
 match args with
 |a::l=>match a,l with
  |.str s,[.str sep]=>Ã (tp s sep) fun y=>K (.own h.length 0) (ã (h++List.replicate 1 .dead) h.length (.row .str 0 false y))
  |_,_=>none
 |_=>none
structure Rb (P:Program) (f:Nat):Prop where
 body:∃fn c,P.funcs[f]?=some fn/\fn.body=some c
 ok:∀(w:World) (s sep:ByteArray) (y:y5 ByteArray),Globs.Φ w->tp s sep=some y->Calls P f #[.string s,.string sep] w fun e w'=>e=.returned (.slice (some ⟨w.heap.size,0,none⟩) y.length y.length)/\∃t,w'=w.alloc (.cells (y.map Value.string).toArray t)
def VJ {w:World} {av:Nat->Prop}:∀y:y5 ByteArray,uO w av .str y (y.map Value.string):=fun y=>⟨by simp[Ty.size],fun i x hi=>by
 have a:(y.map Value.string)[i]?=some (.string x):=by
  have hi:(y:y5 ByteArray)[i]?=some x:=hi;simp[hi]
 have h2:((y.map Value.string).drop (i*Ty.str.size)).take Ty.str.size=[.string x]:=by
  simp only[Ty.size,eX];rw[List.take_one,List.head?_drop,a];rfl
 rw[h2]
 rfl⟩
def X4 [É] {ρ:Type} {P:Program} {f:Nat} (o:Rb P f):Pq P f (VW (ρ:=ρ)):=by
 intro h args K res e ν w vals H g;unfold VW at e
 split at e<;>try (cases e; done)
 split at e<;>try (cases e; done)
 rename_i s k;unfold Ã at e
 split at e<;>try (cases e; done)
 rename_i y r
 obtain⟨v1,v2,rfl,x,h2⟩:∃v1 v2,vals=[v1,v2]/\v1=.string s/\v2=.string k:=by
  match vals,g with
  |[a,b],i=>exact⟨a,b,rfl,i.1,i.2.1⟩
  |[_],i=>exact i.2.elim
  |_::_::_::_,i=>exact i.2.2.elim
 subst x; subst h2;refine⟨o.body,(callsIn_wide (n:=0)).2 ((o.ok w s k y H.glob r).mono fun A w' u=>?_)⟩;obtain⟨rfl,t,rfl⟩:=u;have c:=Ga h 1;have z:HR ν (h++List.replicate 1 .dead) w:=H.same c rfl rfl rfl rfl;have m:Ev h.length ν h w ν (h++List.replicate 1 .dead) w:=Ev.same c rfl rfl rfl rfl h.length
 have p:h.length<(h++List.replicate 1 Blk.dead).length:=by simp
 have hd:lkB (h++List.replicate 1 .dead) h.length=.dead:=by rw[c]; exact sL _ _ (bX _)
 have d:=xq (w':=w.alloc (.cells (y.map Value.string).toArray t)) z (id:=h.length) (g':=0) (t:=.str) (xs':=y) (cap':=y.length) (c':=(y.map Value.string).toArray) (e:=t) (news:=y.map Value.string) p
  (fun V=>by rw[hd]; trivial) rfl rfl rfl rfl (bX _) (by simp[Ty.size]) (VJ y) (fun j v q=>by simpa using q)
 refine⟨_,_,.own h.length 0,_,rfl,sl p rfl,d.2,m.trans d.1 (by simp),by rw[Ë]; simp,fun j q l=>?_,e⟩;rw[Ì _ (by omega),c];exact l
inductive Vj where
 |row (r:adT)
 |atoi
 |split
def xK {ρ:Type}:Vj->y5 Blk->y5 AV->(AV->y5 Blk->x9 ρ)->x9 ρ
 |.row r=>rowX r
 |.atoi=>adQ
 |.split=>VW
def XOk (P:Program) (f:Nat):Vj->Prop
 |.row r=>RowOk P f r
 |.atoi=>Zw P f
 |.split=>Rb P f
def Tb:y5 (Nat×Vj)->Nat->x9 Vj
 |[],_=>none
 |e::l,f=>match Nat.beq e.1 f with
  |true=>some e.2
  |false=>Tb l f
def extT {ρ:Type} (xt:y5 (Nat×Vj)) (f:Nat):x9 (y5 Blk->y5 AV->(AV->y5 Blk->x9 ρ)->x9 ρ) :=
 match Tb xt f with
 |some x=>some (xK x)
 |none=>none
def GF:∀{l:y5 (Nat×Vj)} {f:Nat} {x:Vj},Tb l f=some x->(f,x)∈l
 |[],_,_,e=>by cases e
 |a::l,f,x,e=>by
  simp only[Tb] at e
  split at e
  ·rename_i h;cases e;obtain rfl:=cd h;exact .head _
  ·exact .tail _ (GF e)
def ext_of [É] {ρ:Type} {P:Program} {xt:y5 (Nat×Vj)} (a:∀e∈xt,XOk P e.1 e.2):∀f X,extT (ρ:=ρ) xt f=some X->Pq P f X:=by
 intro f X h;unfold extT at h
 split at h<;>try (cases h; done)
 rename_i x b;cases h;have:=a (f,x) (GF b)
 cases x with
 |row r=>exact adu this
 |atoi=>exact aaQ this
 |split=>exact X4 this
def lh [É] {ρ:Type} {E:Env ρ} (h:E.ext=fun _=>none):∀f X,E.ext f=some X->Pq E.P f X:=fun f X e=>by rw[h] at e; cases e
def QJ [É] {ρ:Type} {P:Program} {E:Env ρ} {xt:y5 (Nat×Vj)} (a:∀e∈xt,XOk P e.1 e.2) (h:E.ext=extT xt) (b:E.P=P:=by rfl):∀f X,E.ext f=some X->Pq E.P f X:=fun f X e=>by
 rw[h] at e;rw[b];exact ext_of a f X e
end Go.Am
end

noncomputable section
namespace Go.Am
open Go
def kT:Č:=⟨[.int .i64],[.str],fun n=>XH n⟩
def iA:Č:=⟨[.str,.str],[.str],fun(x:ByteArray×ByteArray)=>VG x.1 x.2⟩
def i7:Č:=⟨[.str,.int .u8],[.int .i64],fun(x:ByteArray×Int)=>indexF x.1 x.2⟩
def tF:Č:=⟨[.str,.str],[.slice .str],fun(x:ByteArray×ByteArray)=>tp x.1 x.2⟩
def wc:Č:=⟨[.slice .str,.str],[.str],fun(x:y5 ByteArray×ByteArray)=>XF x.1 x.2⟩
end Go.Am
end
