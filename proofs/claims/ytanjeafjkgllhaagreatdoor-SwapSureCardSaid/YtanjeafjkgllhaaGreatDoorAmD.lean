/- lemmas -/
import Derived.Test.YtanjeafjkgllhaaGreatDoorAmC
import Derived.Test.YtanjeafjkgllhaaGreatDoorAmB
set_option linter.all false
noncomputable section
namespace Go.Am
variable [Globs]
structure Zj where
 ty:Ty
 ts:w9 Ty
 clo:Nat
 mt:Ty
 F:w9 (Val ty)->Val (tyL ts)->Val mt->w8 (w9 (Val ty)×Val mt)
def VE:w9 AV->w8 (w9 AV×AV)
 |[]=>none
 |[a]=>some ([],a)
 |a::l=>match VE l with
  |some (m,b)=>some (a::m,b)
  |none=>none
section
variable {ρ:Type}
def rowX (r:Zj) (h:w9 Blk) (b:w9 AV) (K:AV->w9 Blk->w8 ρ):w8 ρ :=
 match b with
 |.own id g::as=>match VE as with
  |some (ds,.fn (.func c) [] [.box bid 0])=>match Nat.beq c r.clo&&!Nat.beq id bid with
   |true=>match lkB h id with
    |.row t g' false xs=>match g==g' with
     |true=>match decEq t r.ty with
      |isTrue e=>match lkB h bid with
       |.cells cs=>match cs.all fun a=>!BN a with
        |true=>match BK h r.ts ds with
         |some x=>match (UX r.ts x).all plain with
          |true=>match Ò r.mt cs with
           |some m=>Ã (r.F (qd (F:=fun t=>w9 (Val t)) e xs) x m) fun z=>K (.tup []) (è (è h id (.row r.ty g' false z.1)) bid (.cells (flat r.mt z.2)))
           |none=>none
          |false=>none
         |none=>none
        |false=>none
       |_=>none
      |isFalse _=>none
     |false=>none
    |_=>none
   |false=>none
  |_=>none
 |_=>none
def AZ (r:Zj) (x:Val (tyL r.ts)):w9 AV:=.own 0 0::(UX r.ts x++[.fn (.func r.clo) [] [.box 1 0]])
def jw (r:Zj) (xs:w9 (Val r.ty)) (m:Val r.mt):w9 Blk:=[.row r.ty 0 false xs,.cells (flat r.mt m)]
def Io (r:Zj) (K:w9 (Val r.ty)->Val r.mt->w8 ρ) (v:AV) (h:w9 Blk):w8 ρ :=
 match v with
 |.tup []=>match lkB h 0 with
  |.row t 0 false ys=>match decEq t r.ty with
   |isTrue e=>match lkB h 1 with
    |.cells cs=>match cs.all fun a=>!BN a with
     |true=>match Ò r.mt cs with
      |some m=>K (qd (F:=fun t=>w9 (Val t)) e ys) m
      |none=>none
     |false=>none
    |_=>none
   |isFalse _=>none
  |_=>none
 |_=>none
end
structure aeX (P:Program) (f:Nat) (r:Zj):Prop where
 ok:∀(G:Nat->Prop) (xs:w9 (Val r.ty)) (x:Val (tyL r.ts)) (m:Val r.mt) (ys:w9 (Val r.ty)) (m2:Val r.mt),r.F xs x m=some (ys,m2) ->
 ∀(ν:Nat->Value) (w:World) (vals:w9 Value),@HR _ (Gh G) ν (jw r xs m) w->ñ (@VR _ (Gh G) ν (jw r xs m) w) (AZ r x) vals ->
  (∃fn c,P.funcs[f]?=some fn/\fn.body=some c)/\CallsIn Fence.wide 0 P f vals.toArray w fun e w'=>∃ν' h' v u,e=.returned u/\@VR _ (Gh G) ν' h' w' v u/\@HR _ (Gh G) ν' h' w'/\Ev 2 ν (jw r xs m) w ν' h' w'/\Io r (fun zs m'=>some (zs,m')) v h'=some (ys,m2)
def OT [LC] {f:Nat} {r:Zj} (E:Env (w9 (Val r.ty)×Val r.mt)) (a:∀[Ghost],yX E) (hmix:E.P.follows .mixedOrders=true) {tab:w9 (Ĉ (w9 (Val r.ty)×Val r.mt))} (j:E.loops=Ε tab) (i:∀x∈tab,x.Ok E)
 (law:∀xs x m,rC E (ĺ E 10) [] f (AZ r x) (jw r xs m) (Io r fun zs l=>some (zs,l))=r.F xs x m) (s:E.ranges=Ş []:=by rfl):aeX E.P f r:=by
 constructor;intro G xs x m ys D t ν w vals H b
 letI g:Ghost:=Gh G
 have k:=law xs x m;rw[t] at k;have hy:∀[Ghost],Γ E:=yX.yld a;have hl:xP E:=HO hmix j i s;have hall:∀n,n<=10->XA E n:=mg (fun _=>a) (fun L call j=>iV hmix L call j) hl;have d:∀M,@jB _ (g.re g.G [] none M) _ E 2 (ĺ E 10):=fun M=>@hall 10 (cJ _) (g.re g.G [] none M) (@hy _);obtain⟨y,h2⟩:=uN d (fun M=>@iV _ (g.re g.G [] none M) _ _ hmix _ _ (d M)) (path:=[]) rfl (fun M fn c p q=>@hl 10 (cJ _) (hall 10 (cJ _)) (g.re g.G [] none M) (@hy _) [] f fn c rfl p q) k H (dI _) b;refine⟨y,h2.mono fun e w' o=>?_⟩;obtain⟨ν',h',v,u,rfl,C,B,A,J,I,z⟩:=o;exact⟨ν',h',v,u,rfl,C,B,A,z⟩
section
variable [Ghost] {ρ:Type} {ν:Nat->Value} {h:w9 Blk} {w:World} {P:Program}
def Ig:∀{l m:w9 AV} {b:AV},VE l=some (m,b)->l=m++[b]
 |[],_,_,e=>by cases e
 |[a],_,_,e=>by cases e; rfl
 |a::c::l,m,b,e=>by
  simp only[VE] at e
  split at e<;>try (cases e; done)
  rename_i f g d;cases e;rw[Ig d];rfl
def Ot (H:HR ν h w) {cs:w9 AV} (hd:(cs.all fun a=>!BN a)=true) {us:w9 Value} (c:ñ (VRc ν h w) cs us):ñ (VRs w (Av ν h)) cs us :=
 ñ.mono (fun _ _ b=>VR1.data b.1) c
def AL.plainG {G b:Nat->Prop}:∀{l:w9 Ty} {x:Val (tyL l)} {vs:w9 Value},(UX l x).all plain=true->AL w G l x vs->AL w b l x vs
 |[],_,_,_,h=>h
 |_::_,_,_,a,h=>AT.plain a h
def agL {f:Nat} {r:Zj} (hr:aeX P f r):TG P f (rowX (ρ:=ρ) r):=by
 intro h args K res e ν w vals H N;unfold rowX at e
 split at e<;>try (cases e; done)
 rename_i id g as
 split at e<;>try (cases e; done)
 rename_i ds c bid hsp
 split at e<;>try (cases e; done)
 rename_i W;simp only[cM,dW] at W;obtain rfl:=cR W.1
 have S:id≠bid:=fun q=>by rw[q,Nat.beq_refl] at W; exact absurd W.2 (by simp)
 split at e<;>try (cases e; done)
 rename_i t g' xs hl
 split at e<;>try (cases e; done)
 rename_i T
 obtain rfl:g=g':=by simpa using T
 split at e<;>try (cases e; done)
 rename_i hty _;subst hty
 split at e<;>try (cases e; done)
 rename_i cs M
 split at e<;>try (cases e; done)
 rename_i hcs
 split at e<;>try (cases e; done)
 rename_i x hx
 split at e<;>try (cases e; done)
 rename_i hpl
 split at e<;>try (cases e; done)
 rename_i m hm;simp only[Ã] at e
 split at e<;>try (cases e; done)
 rename_i z hys;obtain⟨ys,m2⟩:=z
 replace hys:r.F xs x m=some (ys,m2):=hys
 have has:=Ig hsp;subst has
 -- the arguments
 cases vals with
 |nil=>exact N.elim
 |cons u0 us =>
 obtain⟨hu0,hus⟩:=N;obtain⟨us1,us2,rfl,hds,hfn⟩:=hus.split;obtain⟨uf,rfl,huf⟩:=hfn.one
 have Z:u0=ν id:=by
  obtain⟨_,t2,g2,fz2,xs2,hl2,_,hq⟩:=hu0;rw[hl] at hl2;cases hl2;exact hq rfl
 obtain⟨fs,cps,rfl,hfs,hcps⟩:=huf
 have d:(lkB h id).live=true:=by rw[hl]; rfl
 have l:(lkB h bid).live=true:=by rw[M]; rfl
 have hidl:id<h.length:=Ł hl (by simp);have hbl:bid<h.length:=Ł M (by simp);have hB:=H.blk id;rw[hl] at hB;have hC:=H.blk bid;rw[M] at hC
 -- the frame
 obtain⟨E,O⟩:∃E:Nat->Prop,E=fun b=>Av ν h b/\¬ģ (ν id) b/\¬ģ (ν bid) b:=⟨_,rfl⟩
 obtain⟨s,Y⟩:∃s:Nat->Value,s=fun n=>if n=0 then ν id else if n=1 then ν bid else undef:=⟨_,rfl⟩
 have R:s 0=ν id:=by rw[Y]; rfl
 have n1:s 1=ν bid:=by rw[Y]; rfl
 have hAv:∀b,@Av _ (Gh E) s (jw r xs m) b->Av ν h b:=by
  rintro b (⟨i,hi,o⟩|T)
  ·match i,hi,o with
   |0,_,o=>rw[R] at o; exact .inl ⟨id,d,o⟩
   |1,_,o=>rw[n1] at o; exact .inl ⟨bid,l,o⟩
   |i+2,hi,_=>cases hi
  ·have L:E b:=T;rw[O] at L;exact L.1
 obtain⟨bb,cb,eb,hc1,hc2,hc3⟩:=hC;have hcr:CR w (Av ν h) r.mt m cb.toList:=ē hm (Ot H hcs hc3);have hx0:AL w (fun _=>False) r.ts x us1:=Em H hds (fun a _ c _ u hu=>QO H hu) (fun _ _ _ _ _ _=>⟨fun _ _ hf=>hf,fun c _ u hu=>QO H hu⟩) (fun _ _ _ _ _ _ _ _ hf=>hf) hx;have hx1:AL w (@Av _ (Gh E) s (jw r xs m)) r.ts x us1:=AL.plainG hpl hx0
 have H0:@HR _ (Gh E) s (jw r xs m) w:=by
  refine @HR.mk _ (Gh E) _ _ _ (fun i=>?_) (fun i j b hi hj p I=>?_) (fun b hb=>?_) (fun i b hi p T=>?_) H.glob (fun b hb ⟨i,hi,o⟩=>by
   match i,hi,o with
   |0,_,o=>rw[R] at o; exact H.globL b hb ⟨id,d,o⟩
   |1,_,o=>rw[n1] at o; exact H.globL b hb ⟨bid,l,o⟩
   |i+2,hi,_=>cases hi)
  ·match i with
   |0 =>
    obtain⟨base,cap,D,G,Q⟩:=hB;refine⟨base,cap,R.trans D,G,Q.imp (fun z=>z) fun⟨b,off,c,e',q4,q5,q6,q7⟩=>⟨b,off,c,e',q4,q5,q6,fun i y hy=>?_⟩⟩;obtain⟨us,q8,q9⟩:=q7 i y hy;exact⟨us,CR.mono hAv q8,q9⟩
   |1=>exact⟨bb,cb,eb,n1.trans hc1,hc2,@ln _ (Gh E) s (jw r xs m) w _ _ _ (CR.mono hAv hcr)⟩
   |i+2=>exact trivial
  ·match i,j,hi,hj,p,I with
   |0,0,_,_,_,_=>rfl
   |1,1,_,_,_,_=>rfl
   |0,1,_,_,p,I=>rw[R] at p; rw[n1] at I; exact absurd (H.inj id bid b d l p I) S
   |1,0,_,_,p,I=>rw[n1] at p; rw[R] at I; exact absurd (H.inj id bid b d l I p) S
   |i+2,_,hi,_,_,_=>cases hi
   |_,j+2,_,hj,_,_=>cases hj
  ·have hb':E b:=hb;rw[O] at hb';exact H.ltA hb'.1
  ·have L:E b:=T;rw[O] at L
   match i,hi,p with
   |0,_,p=>rw[R] at p; exact L.2.1 p
   |1,_,p=>rw[n1] at p; exact L.2.2 p
   |i+2,hi,_=>cases hi
 have X:ñ (@VR _ (Gh E) s (jw r xs m) w) (AZ r x) (u0::(us1++[.func (.func r.clo) fs cps])):=by
  refine⟨⟨?_,r.ty,0,false,xs,rfl,cJ _,fun _=>Z.trans R.symm⟩,(@AL.VR _ (Gh E) s (jw r xs m) w _ _ _ hx1).append ⟨⟨fs,cps,rfl,?_,?_⟩,trivial⟩⟩
  ·rw[Z];obtain⟨base,cap,D,_⟩:=hB;rw[D]; rfl
  ·rw[hfs.nil_left]; trivial
  ·obtain⟨uc,hu1,hu2⟩:=hcps.one;rw[hu1];refine⟨?_,trivial⟩;obtain⟨cs',b',D,G,Q⟩:=hu2;exact⟨flat r.mt m,b',rfl,n1.trans G,Q⟩
 obtain⟨hbody,hcall⟩:=hr.ok E xs x m ys m2 hys s w _ H0 X;refine⟨hbody,hcall.mono fun en w' hw=>?_⟩;obtain⟨ν',h',v,u,rfl,g1,g2,g3,J⟩:=hw
 -- what the run leaves
 unfold Io at J
 split at J<;>try (cases J; done)
 split at J<;>try (cases J; done)
 rename_i t' ys' hl0
 split at J<;>try (cases J; done)
 rename_i hty' _;subst hty'
 split at J<;>try (cases J; done)
 rename_i cs' hl1
 split at J<;>try (cases J; done)
 rename_i hcs'
 split at J<;>try (cases J; done)
 rename_i m' hm';cases J;have nx0:=g3.blk 0 (by omega);rw[show lkB (jw r xs m) 0=.row r.ty 0 false xs from rfl,hl0] at nx0;obtain⟨_,_,_,D,_,Q⟩:=nx0;cases D;obtain⟨v0,hylen⟩:=Q rfl;have nx1:=g3.blk 1 (by omega);rw[show lkB (jw r xs m) 1=.cells (flat r.mt m) from rfl] at nx1;have v1:ν' 1=ν bid:=nx1.2.trans n1;rw[R] at v0;have b0:=@HR.blk _ (Gh E) _ _ _ g2 0;rw[hl0] at b0;have b1:=@HR.blk _ (Gh E) _ _ _ g2 1;rw[hl1] at b1
 have lv0:(lkB h' 0).live=true:=by rw[hl0]; rfl
 have lv1:(lkB h' 1).live=true:=by rw[hl1]; rfl
 have C:∀k,í (í ν id (ν id)) bid (ν bid) k=ν k:=fun k=>by
  by_cases D:k=bid
  ·rw[D,Ê]
  ·rw[ú _ _ D]
   by_cases G:k=id
   ·rw[G,Ê]
   ·rw[ú _ _ G]
 have hAv':∀b,Av (í (í ν id (ν id)) bid (ν bid)) (è (è h id (.row r.ty g false ys')) bid (.cells (flat r.mt m2))) b->@Av _ (Gh E) ν' h' b:=by
  rintro b (⟨k,hk,o⟩|T)
  ·rw[C] at o
   by_cases D:k=bid
   ·rw[D] at o;exact .inl ⟨1,lv1,by rw[v1]; exact o⟩
   ·rw[Í _ D] at hk
    by_cases G:k=id
    ·rw[G] at o;exact .inl ⟨0,lv0,by rw[v0]; exact o⟩
    ·rw[Í _ G] at hk;refine .inr ?_;show E b;rw[O];exact⟨.inl ⟨k,hk,o⟩,fun q=>G (H.inj k id b hk d o q),fun q=>D (H.inj k bid b hk l o q)⟩
  ·refine .inr ?_;show E b;rw[O];exact⟨.inr T,fun q=>H.ghne id b d q T,fun q=>H.ghne bid b l q T⟩
 obtain⟨ev,hr2⟩:=upd2 (w':=w') (A:=.row r.ty g false ys') (B:=.cells (flat r.mt m2)) (U:=ν id) (V:=ν bid) H S hidl hbl g3.os g3.tape g3.output g3.size
  (fun b hb D G=>(g3.keep b hb fun⟨i,hi,o⟩=>by
   match i,hi,o with
   |0,_,o=>rw[R] at o; exact D d o
   |1,_,o=>rw[n1] at o; exact G l o
   |i+2,hi,_=>cases hi).1)
  (fun _ b hb=>.inl ⟨d,hb⟩) (fun _ b hb=>.inr (.inl ⟨l,hb⟩)) (fun _ _ b h1 h2=>S (H.inj id bid b d l h1 h2))
  (by rw[hl]; exact⟨g,false,ys',rfl,cJ _,fun _=>⟨C id,hylen⟩⟩)
  (by rw[M]; exact⟨⟨_,rfl⟩,C bid⟩)
  (fun ev=>by
   obtain⟨base,cap,D,G,Q⟩:=b0;refine⟨base,cap,(C id).trans (v0.symm.trans D),G,Q.imp (fun x=>x) fun⟨b,off,c,e',q4,q5,q6,q7⟩=>⟨b,off,c,e',q4,q5,q6,fun i y hy=>?_⟩⟩;obtain⟨us,q8,q9⟩:=q7 i y hy
   exact⟨us,CR.mono hAv' q8,q9⟩)
  (fun ev=>by
   obtain⟨b2,c2,e2,D,G,Q⟩:=b1
   exact⟨b2,c2,e2,(C bid).trans (v1.symm.trans D),G,ln (CR.mono hAv' (ē hm' (@Ot _ (Gh E) _ _ _ g2 _ hcs' _ Q)))⟩)
 refine⟨_,_,.tup [],u,rfl,?_,hr2,ev,by rw[Ì,Ì]; exact cJ _,fun j hj hd=>?_,e⟩
 ·obtain⟨vs,D,G⟩:=g1;exact⟨vs,D,by rw[G.nil_left]; trivial⟩
 ·have j1:j≠bid:=fun q=>by rw[q,M] at hd; cases hd
  have j2:j≠id:=fun q=>by rw[q,hl] at hd; cases hd
  rw[Í _ j1,Í _ j2];exact hd
end
def ag8 {ρ:Type} (h:w9 Blk) (b:w9 AV) (K:AV->w9 Blk->w8 ρ):w8 ρ :=
 match b with
 |[]=>none
 |a::l=>match l with
  |_::_=>none
  |[]=>match a with
   |.str s=>Ã (Vi s) fun r=>K (.tup [.int .i64 r.1,.ifc r.2]) h
   |_=>none
structure ac4 (P:Program) (f:Nat):Prop where
 body:∃fn c,P.funcs[f]?=some fn/\fn.body=some c
 ok:∀(w:World) (s:ByteArray) (r:Int×Bool),Globs.Φ w->Vi s=some r->Calls P f #[.string s] w fun e w'=>∃u,e=.returned (.tuple #[.int .i64 r.1,u])/\u.oneCell'=true/\(r.2=false->u=.nilIface)/\(r.2=true->∃t x,u=.iface t x)/\RowKit.Below w.heap.size w w'
def aeo [Ghost] {ρ:Type} {P:Program} {f:Nat} (i:ac4 P f):TG P f (ag8 (ρ:=ρ)):=by
 intro h j K res e ν w vals H a;unfold ag8 at e
 split at e<;>try (cases e; done)
 split at e<;>try (cases e; done)
 split at e<;>try (cases e; done)
 rename_i s;unfold Ã at e
 split at e<;>try (cases e; done)
 rename_i r g;obtain⟨v,rfl,l⟩:=a.one;have d:v=.string s:=l;subst d;refine⟨i.body,(callsIn_wide (n:=0)).2 ((i.ok w s r H.glob g).mono fun p w' k=>?_)⟩;obtain⟨u,rfl,h0,m,h2,c⟩:=k;obtain⟨ev,o⟩:=H.grow (fun b hb=>c.block b hb) c.size c.os c.tape c.output h.length;exact⟨ν,h,.tup [.int .i64 r.1,.ifc r.2],_,rfl,⟨#[.int .i64 r.1,u],rfl,rfl,⟨h0,m,h2⟩,trivial⟩,o,ev,cJ _,fun _ _ hd=>hd,e⟩
def ZO {ρ:Type} (h:w9 Blk) (b:w9 AV) (K:AV->w9 Blk->w8 ρ):w8 ρ :=
 match b with
 |a::l=>match a,l with
  |.str s,[.str sep]=>Ã (yZ s sep) fun y=>K (.own h.length 0) (è (h++List.replicate 1 .dead) h.length (.row .str 0 false y))
  |_,_=>none
 |_=>none
structure Vm (P:Program) (f:Nat):Prop where
 body:∃fn c,P.funcs[f]?=some fn/\fn.body=some c
 ok:∀(w:World) (s sep:ByteArray) (y:w9 ByteArray),Globs.Φ w->yZ s sep=some y->Calls P f #[.string s,.string sep] w fun e w'=>e=.returned (.slice (some ⟨w.heap.size,0,none⟩) y.length y.length)/\∃t,w'=w.alloc (.cells (y.map Value.string).toArray t)
def ZD {w:World} {av:Nat->Prop}:∀y:w9 ByteArray,xN w av .str y (y.map Value.string):=fun y=>⟨by simp[Ty.size],fun i x hi=>by
 have a:(y.map Value.string)[i]?=some (.string x):=by
  have hi:(y:w9 ByteArray)[i]?=some x:=hi;simp[hi]
 have h2:((y.map Value.string).drop (i*Ty.str.size)).take Ty.str.size=[.string x]:=by
  simp only[Ty.size,fI];rw[List.take_one,List.head?_drop,a];rfl
 rw[h2]
 rfl⟩
def abO [Ghost] {ρ:Type} {P:Program} {f:Nat} (o:Vm P f):TG P f (ZO (ρ:=ρ)):=by
 intro h r K res e ν w vals H g;unfold ZO at e
 split at e<;>try (cases e; done)
 split at e<;>try (cases e; done)
 rename_i s k;unfold Ã at e
 split at e<;>try (cases e; done)
 rename_i y u
 obtain⟨v1,v2,rfl,z,h2⟩:∃v1 v2,vals=[v1,v2]/\v1=.string s/\v2=.string k:=by
  match vals,g with
  |[a,b],i=>exact⟨a,b,rfl,i.1,i.2.1⟩
  |[_],i=>exact i.2.elim
  |_::_::_::_,i=>exact i.2.2.elim
 subst z; subst h2;refine⟨o.body,(callsIn_wide (n:=0)).2 ((o.ok w s k y H.glob u).mono fun B w' x=>?_)⟩;obtain⟨rfl,t,rfl⟩:=x;have c:=Ks h 1;have A:HR ν (h++List.replicate 1 .dead) w:=H.same c rfl rfl rfl rfl;have m:Ev h.length ν h w ν (h++List.replicate 1 .dead) w:=Ev.same c rfl rfl rfl rfl h.length
 have p:h.length<(h++List.replicate 1 Blk.dead).length:=by simp
 have hd:lkB (h++List.replicate 1 .dead) h.length=.dead:=by rw[c]; exact DN _ _ (cJ _)
 have d:=AY (w':=w.alloc (.cells (y.map Value.string).toArray t)) A (id:=h.length) (g':=0) (t:=.str) (xs':=y) (cap':=y.length) (c':=(y.map Value.string).toArray) (e:=t) (news:=y.map Value.string) p
  (fun V=>by rw[hd]; trivial) rfl rfl rfl rfl (cJ _) (by simp[Ty.size]) (ZD y) (fun j v q=>by simpa using q)
 refine⟨_,_,.own h.length 0,_,rfl,vc p rfl,d.2,m.trans d.1 (by simp),by rw[Ì]; simp,fun j q l=>?_,e⟩;rw[Í _ (by omega),c];exact l
inductive TQ where
 |row (r:Zj)
 |atoi
 |split
def xK {ρ:Type}:TQ->w9 Blk->w9 AV->(AV->w9 Blk->w8 ρ)->w8 ρ
 |.row r=>rowX r
 |.atoi=>ag8
 |.split=>ZO
def XOk (P:Program) (f:Nat):TQ->Prop
 |.row r=>aeX P f r
 |.atoi=>ac4 P f
 |.split=>Vm P f
def W0:w9 (Nat×TQ)->Nat->w8 TQ
 |[],_=>none
 |e::l,f=>match Nat.beq e.1 f with
  |true=>some e.2
  |false=>W0 l f
def extT {ρ:Type} (xt:w9 (Nat×TQ)) (f:Nat):w8 (w9 Blk->w9 AV->(AV->w9 Blk->w8 ρ)->w8 ρ) :=
 match W0 xt f with
 |some x=>some (xK x)
 |none=>none
def KU:∀{l:w9 (Nat×TQ)} {f:Nat} {x:TQ},W0 l f=some x->(f,x)∈l
 |[],_,_,e=>by cases e
 |a::l,f,x,e=>by
  simp only[W0] at e
  split at e
  ·rename_i h;cases e;obtain rfl:=cR h;exact .head _
  ·exact .tail _ (KU e)
def ext_of [Ghost] {ρ:Type} {P:Program} {xt:w9 (Nat×TQ)} (a:∀e∈xt,XOk P e.1 e.2):∀f X,extT (ρ:=ρ) xt f=some X->TG P f X:=by
 intro f X h;unfold extT at h
 split at h<;>try (cases h; done)
 rename_i x b;cases h;have:=a (f,x) (KU b)
 cases x with
 |row r=>exact agL this
 |atoi=>exact aeo this
 |split=>exact abO this
def jZ [Ghost] {ρ:Type} {E:Env ρ} (h:E.ext=fun _=>none):∀f X,E.ext f=some X->TG E.P f X:=fun f X e=>by rw[h] at e; cases e
def Fx [Ghost] {ρ:Type} {P:Program} {E:Env ρ} {xt:w9 (Nat×TQ)} (a:∀e∈xt,XOk P e.1 e.2) (h:E.ext=extT xt) (b:E.P=P:=by rfl):∀f X,E.ext f=some X->TG E.P f X:=fun f X e=>by
 rw[h] at e;rw[b];exact ext_of a f X e
end Go.Am
end

noncomputable section
namespace Go.Am
open Go
def rG:đ:=⟨[.int .i64],[.str],fun n=>abt n⟩
def jx:đ:=⟨[.str,.str],[.str],fun(x:ByteArray×ByteArray)=>ZC x.1 x.2⟩
def j7:đ:=⟨[.str,.int .u8],[.int .i64],fun(x:ByteArray×Int)=>indexF x.1 x.2⟩
def vX:đ:=⟨[.str,.str],[.slice .str],fun(x:ByteArray×ByteArray)=>yZ x.1 x.2⟩
def ze:đ:=⟨[.slice .str,.str],[.str],fun(x:w9 ByteArray×ByteArray)=>abq x.1 x.2⟩
def vY:đ:=⟨[.str,.str],[.int .i64],fun(x:ByteArray×ByteArray)=>EB x.1 x.2⟩
end Go.Am
end
