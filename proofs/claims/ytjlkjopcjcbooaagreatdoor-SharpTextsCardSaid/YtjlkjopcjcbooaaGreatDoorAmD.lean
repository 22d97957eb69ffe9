/- lemmas -/
import Derived.Test.YtjlkjopcjcbooaaGreatDoorAmC
import Derived.Test.YtjlkjopcjcbooaaGreatDoorAmB
set_option linter.all false
noncomputable section
namespace Go.Am
variable [Globs]
structure Xz where
 ty:Ty
 ts:th Ty
 clo:Nat
 mt:Ty
 F:th (Val ty)->Val (tyL ts)->Val mt->so (th (Val ty)×Val mt)
def Md:th AV->so (th AV×AV)
 |[]=>none
 |[a]=>some ([],a)
 |a::l=>match Md l with
  |some (m,b)=>some (a::m,b)
  |none=>none
section
variable {ρ:Type}
def rowX (r:Xz) (h:th Blk) (args:th AV) (K:AV->th Blk->so ρ):so ρ :=
 match args with
 |.own id g::as=>match Md as with
  |some (ds,.fn (.func c) [] [.box bid 0])=>match Nat.beq c r.clo&&!Nat.beq id bid with
   |true=>match lkB h id with
    |.row t g' false xs=>match g==g' with
     |true=>match decEq t r.ty with
      |isTrue e=>match lkB h bid with
       |.cells cs=>match cs.all fun a=>!tX a with
        |true=>match tV h r.ts ds with
         |some x=>match (zx r.ts x).all plain with
          |true=>match Ø r.mt cs with
           |some m=>Â (r.F (l5 (F:=fun t=>th (Val t)) e xs) x m) fun z=>K (.tup []) (á (á h id (.row r.ty g' false z.1)) bid (.cells (flat r.mt z.2)))
           |none=>none
          |false=>none
         |none=>none
        |false=>none
       |_=>none
      |isFalse _=>none
     |false=>none
    |_=>none
   |false=>none
  |_=>none
 |_=>none
def Qe (r:Xz) (x:Val (tyL r.ts)):th AV:=.own 0 0::(zx r.ts x++[.fn (.func r.clo) [] [.box 1 0]])
def j7 (r:Xz) (xs:th (Val r.ty)) (m:Val r.mt):th Blk:=[.row r.ty 0 false xs,.cells (flat r.mt m)]
def Vy (r:Xz) (K:th (Val r.ty)->Val r.mt->so ρ) (v:AV) (h:th Blk):so ρ :=
 match v with
 |.tup []=>match lkB h 0 with
  |.row t 0 false ys=>match decEq t r.ty with
   |isTrue e=>match lkB h 1 with
    |.cells cs=>match cs.all fun a=>!tX a with
     |true=>match Ø r.mt cs with
      |some m=>K (l5 (F:=fun t=>th (Val t)) e ys) m
      |none=>none
     |false=>none
    |_=>none
   |isFalse _=>none
  |_=>none
 |_=>none
end
structure RowOk (P:Program) (f:Nat) (r:Xz):Prop where
 ok:∀(G:Nat->Prop) (xs:th (Val r.ty)) (x:Val (tyL r.ts)) (m:Val r.mt) (ys:th (Val r.ty)) (m2:Val r.mt),r.F xs x m=some (ys,m2) ->
 ∀(ν:Nat->Value) (w:World) (vals:th Value),@HR _ (Gh G) ν (j7 r xs m) w->ê (@VR _ (Gh G) ν (j7 r xs m) w) (Qe r x) vals ->
  (∃fn c,P.funcs[f]?=some fn/\fn.body=some c)/\CallsIn Fence.wide 0 P f vals.toArray w fun e w'=>∃ν' h' v u,e=.returned u/\@VR _ (Gh G) ν' h' w' v u/\@HR _ (Gh G) ν' h' w'/\Ev 2 ν (j7 r xs m) w ν' h' w'/\Vy r (fun zs m'=>some (zs,m')) v h'=some (ys,m2)
section
variable [È] {ρ:Type} {ν:Nat->Value} {h:th Blk} {w:World} {P:Program}
def zO:∀{l m:th AV} {b:AV},Md l=some (m,b)->l=m++[b]
 |[],_,_,e=>by cases e
 |[a],_,_,e=>by cases e; rfl
 |a::c::l,m,b,e=>by
  simp only[Md] at e
  split at e<;>try (cases e; done)
  rename_i f g d;cases e;rw[zO d];rfl
def Fe (H:HR ν h w) {cs:th AV} (hd:(cs.all fun a=>!tX a)=true) {us:th Value} (c:ê (VRc ν h w) cs us):ê (VRs w (Av ν h)) cs us :=
 ê.mono (fun _ _ b=>VR1.data b.1) c
def AL.plainG {G b:Nat->Prop}:∀{l:th Ty} {x:Val (tyL l)} {vs:th Value},(zx l x).all plain=true->AL w G l x vs->AL w b l x vs
 |[],_,_,_,h=>h
 |_::_,_,_,a,h=>AT.plain a h
def W7 {f:Nat} {r:Xz} (hr:RowOk P f r):J7 P f (rowX (ρ:=ρ) r):=by
 intro h args K res e ν w vals H N;unfold rowX at e
 split at e<;>try (cases e; done)
 rename_i id g as
 split at e<;>try (cases e; done)
 rename_i ds c bid hsp
 split at e<;>try (cases e; done)
 rename_i X;simp only[bn,ci] at X;obtain rfl:=bt X.1
 have T:id≠bid:=fun q=>by rw[q,Nat.beq_refl] at X; exact absurd X.2 (by simp)
 split at e<;>try (cases e; done)
 rename_i t g' xs hl
 split at e<;>try (cases e; done)
 rename_i W
 obtain rfl:g=g':=by simpa using W
 split at e<;>try (cases e; done)
 rename_i hty _;subst hty
 split at e<;>try (cases e; done)
 rename_i cs M
 split at e<;>try (cases e; done)
 rename_i hcs
 split at e<;>try (cases e; done)
 rename_i x hx
 split at e<;>try (cases e; done)
 rename_i hpl
 split at e<;>try (cases e; done)
 rename_i m hm;simp only[Â] at e
 split at e<;>try (cases e; done)
 rename_i z hys;obtain⟨ys,m2⟩:=z
 replace hys:r.F xs x m=some (ys,m2):=hys
 have has:=zO hsp;subst has
 -- the arguments
 cases vals with
 |nil=>exact N.elim
 |cons u0 us =>
 obtain⟨hu0,hus⟩:=N;obtain⟨us1,us2,rfl,hds,hfn⟩:=hus.split;obtain⟨uf,rfl,huf⟩:=hfn.one
 have hu0':u0=ν id:=by
  obtain⟨_,t2,g2,fz2,xs2,hl2,_,hq⟩:=hu0;rw[hl] at hl2;cases hl2;exact hq rfl
 obtain⟨fs,cps,rfl,hfs,hcps⟩:=huf
 have d:(lkB h id).live=true:=by rw[hl]; rfl
 have l:(lkB h bid).live=true:=by rw[M]; rfl
 have hidl:id<h.length:=Ę hl (by simp);have hbl:bid<h.length:=Ę M (by simp);have hB:=H.blk id;rw[hl] at hB;have hC:=H.blk bid;rw[M] at hC
 -- the frame
 obtain⟨E,O⟩:∃E:Nat->Prop,E=fun b=>Av ν h b/\¬č (ν id) b/\¬č (ν bid) b:=⟨_,rfl⟩
 obtain⟨s,Z⟩:∃s:Nat->Value,s=fun n=>if n=0 then ν id else if n=1 then ν bid else undef:=⟨_,rfl⟩
 have S:s 0=ν id:=by rw[Z]; rfl
 have R:s 1=ν bid:=by rw[Z]; rfl
 have hAv:∀b,@Av _ (Gh E) s (j7 r xs m) b->Av ν h b:=by
  rintro b (⟨i,hi,o⟩|W)
  ·match i,hi,o with
   |0,_,o=>rw[S] at o; exact .inl ⟨id,d,o⟩
   |1,_,o=>rw[R] at o; exact .inl ⟨bid,l,o⟩
   |i+2,hi,_=>cases hi
  ·have L:E b:=W;rw[O] at L;exact L.1
 obtain⟨bb,cb,eb,hc1,hc2,hc3⟩:=hC;have hcr:CR w (Av ν h) r.mt m cb.toList:=ÿ hm (Fe H hcs hc3);have hx0:AL w (fun _=>False) r.ts x us1:=wq H hds (fun a _ c _ u hu=>HF H hu) (fun _ _ _ _ _ _=>⟨fun _ _ hf=>hf,fun c _ u hu=>HF H hu⟩) (fun _ _ _ _ _ _ _ _ hf=>hf) hx;have hx1:AL w (@Av _ (Gh E) s (j7 r xs m)) r.ts x us1:=AL.plainG hpl hx0
 have H0:@HR _ (Gh E) s (j7 r xs m) w:=by
  refine @HR.mk _ (Gh E) _ _ _ (fun i=>?_) (fun i j b hi hj p I=>?_) (fun b hb=>?_) (fun i b hi p W=>?_) H.glob (fun b hb ⟨i,hi,o⟩=>by
   match i,hi,o with
   |0,_,o=>rw[S] at o; exact H.globL b hb ⟨id,d,o⟩
   |1,_,o=>rw[R] at o; exact H.globL b hb ⟨bid,l,o⟩
   |i+2,hi,_=>cases hi)
  ·match i with
   |0 =>
    obtain⟨base,cap,D,G,Q⟩:=hB;refine⟨base,cap,S.trans D,G,Q.imp (fun z=>z) fun⟨b,off,c,e',q4,q5,q6,q7⟩=>⟨b,off,c,e',q4,q5,q6,fun i y hy=>?_⟩⟩;obtain⟨us,q8,q9⟩:=q7 i y hy;exact⟨us,CR.mono hAv q8,q9⟩
   |1=>exact⟨bb,cb,eb,R.trans hc1,hc2,@gy _ (Gh E) s (j7 r xs m) w _ _ _ (CR.mono hAv hcr)⟩
   |i+2=>exact trivial
  ·match i,j,hi,hj,p,I with
   |0,0,_,_,_,_=>rfl
   |1,1,_,_,_,_=>rfl
   |0,1,_,_,p,I=>rw[S] at p; rw[R] at I; exact absurd (H.inj id bid b d l p I) T
   |1,0,_,_,p,I=>rw[R] at p; rw[S] at I; exact absurd (H.inj id bid b d l I p) T
   |i+2,_,hi,_,_,_=>cases hi
   |_,j+2,_,hj,_,_=>cases hj
  ·have hb':E b:=hb;rw[O] at hb';exact H.ltA hb'.1
  ·have L:E b:=W;rw[O] at L
   match i,hi,p with
   |0,_,p=>rw[S] at p; exact L.2.1 p
   |1,_,p=>rw[R] at p; exact L.2.2 p
   |i+2,hi,_=>cases hi
 have Y:ê (@VR _ (Gh E) s (j7 r xs m) w) (Qe r x) (u0::(us1++[.func (.func r.clo) fs cps])):=by
  refine⟨⟨?_,r.ty,0,false,xs,rfl,bm _,fun _=>hu0'.trans S.symm⟩,(@AL.VR _ (Gh E) s (j7 r xs m) w _ _ _ hx1).append ⟨⟨fs,cps,rfl,?_,?_⟩,trivial⟩⟩
  ·rw[hu0'];obtain⟨base,cap,D,_⟩:=hB;rw[D]; rfl
  ·rw[hfs.nil_left]; trivial
  ·obtain⟨uc,hu1,hu2⟩:=hcps.one;rw[hu1];refine⟨?_,trivial⟩;obtain⟨cs',b',D,G,Q⟩:=hu2;exact⟨flat r.mt m,b',rfl,R.trans G,Q⟩
 obtain⟨hbody,hcall⟩:=hr.ok E xs x m ys m2 hys s w _ H0 Y;refine⟨hbody,hcall.mono fun en w' hw=>?_⟩;obtain⟨ν',h',v,u,rfl,g1,g2,g3,J⟩:=hw
 -- what the run leaves
 unfold Vy at J
 split at J<;>try (cases J; done)
 split at J<;>try (cases J; done)
 rename_i t' ys' hl0
 split at J<;>try (cases J; done)
 rename_i hty' _;subst hty'
 split at J<;>try (cases J; done)
 rename_i cs' hl1
 split at J<;>try (cases J; done)
 rename_i hcs'
 split at J<;>try (cases J; done)
 rename_i m' hm';cases J;have nx0:=g3.blk 0 (by omega);rw[show lkB (j7 r xs m) 0=.row r.ty 0 false xs from rfl,hl0] at nx0;obtain⟨_,_,_,D,_,Q⟩:=nx0;cases D;obtain⟨v0,hylen⟩:=Q rfl;have nx1:=g3.blk 1 (by omega);rw[show lkB (j7 r xs m) 1=.cells (flat r.mt m) from rfl] at nx1;have v1:ν' 1=ν bid:=nx1.2.trans R;rw[S] at v0;have b0:=@HR.blk _ (Gh E) _ _ _ g2 0;rw[hl0] at b0;have b1:=@HR.blk _ (Gh E) _ _ _ g2 1;rw[hl1] at b1
 have lv0:(lkB h' 0).live=true:=by rw[hl0]; rfl
 have lv1:(lkB h' 1).live=true:=by rw[hl1]; rfl
 have C:∀k,æ (æ ν id (ν id)) bid (ν bid) k=ν k:=fun k=>by
  by_cases D:k=bid
  ·rw[D,Ç]
  ·rw[ò _ _ D]
   by_cases G:k=id
   ·rw[G,Ç]
   ·rw[ò _ _ G]
 have hAv':∀b,Av (æ (æ ν id (ν id)) bid (ν bid)) (á (á h id (.row r.ty g false ys')) bid (.cells (flat r.mt m2))) b->@Av _ (Gh E) ν' h' b:=by
  rintro b (⟨k,hk,o⟩|W)
  ·rw[C] at o
   by_cases D:k=bid
   ·rw[D] at o;exact .inl ⟨1,lv1,by rw[v1]; exact o⟩
   ·rw[Ê _ D] at hk
    by_cases G:k=id
    ·rw[G] at o;exact .inl ⟨0,lv0,by rw[v0]; exact o⟩
    ·rw[Ê _ G] at hk;refine .inr ?_;show E b;rw[O];exact⟨.inl ⟨k,hk,o⟩,fun q=>G (H.inj k id b hk d o q),fun q=>D (H.inj k bid b hk l o q)⟩
  ·refine .inr ?_;show E b;rw[O];exact⟨.inr W,fun q=>H.ghne id b d q W,fun q=>H.ghne bid b l q W⟩
 obtain⟨ev,hr2⟩:=upd2 (w':=w') (A:=.row r.ty g false ys') (B:=.cells (flat r.mt m2)) (U:=ν id) (V:=ν bid) H T hidl hbl g3.os g3.tape g3.output g3.size
  (fun b hb D G=>(g3.keep b hb fun⟨i,hi,o⟩=>by
   match i,hi,o with
   |0,_,o=>rw[S] at o; exact D d o
   |1,_,o=>rw[R] at o; exact G l o
   |i+2,hi,_=>cases hi).1)
  (fun _ b hb=>.inl ⟨d,hb⟩) (fun _ b hb=>.inr (.inl ⟨l,hb⟩)) (fun _ _ b h1 h2=>T (H.inj id bid b d l h1 h2))
  (by rw[hl]; exact⟨g,false,ys',rfl,bm _,fun _=>⟨C id,hylen⟩⟩)
  (by rw[M]; exact⟨⟨_,rfl⟩,C bid⟩)
  (fun ev=>by
   obtain⟨base,cap,D,G,Q⟩:=b0;refine⟨base,cap,(C id).trans (v0.symm.trans D),G,Q.imp (fun x=>x) fun⟨b,off,c,e',q4,q5,q6,q7⟩=>⟨b,off,c,e',q4,q5,q6,fun i y hy=>?_⟩⟩;obtain⟨us,q8,q9⟩:=q7 i y hy
   exact⟨us,CR.mono hAv' q8,q9⟩)
  (fun ev=>by
   obtain⟨b2,c2,e2,D,G,Q⟩:=b1
   exact⟨b2,c2,e2,(C bid).trans (v1.symm.trans D),G,gy (CR.mono hAv' (ÿ hm' (@Fe _ (Gh E) _ _ _ g2 _ hcs' _ Q)))⟩)
 refine⟨_,_,.tup [],u,rfl,?_,hr2,ev,by rw[É,É]; exact bm _,fun j hj hd=>?_,e⟩
 ·obtain⟨vs,D,G⟩:=g1;exact⟨vs,D,by rw[G.nil_left]; trivial⟩
 ·have j1:j≠bid:=fun q=>by rw[q,M] at hd; cases hd
  have j2:j≠id:=fun q=>by rw[q,hl] at hd; cases hd
  rw[Ê _ j1,Ê _ j2];exact hd
end
def Xu {ρ:Type} (h:th Blk) (args:th AV) (K:AV->th Blk->so ρ):so ρ :=
 match args with
 |[]=>none
 |a::l=>match l with
  |_::_=>none
  |[]=>match a with
   |.str s=>Â (Pz s) fun r=>K (.tup [.int .i64 r.1,.ifc r.2]) h
   |_=>none
structure Tu (P:Program) (f:Nat):Prop where
 body:∃fn c,P.funcs[f]?=some fn/\fn.body=some c
 ok:∀(w:World) (s:ByteArray) (r:Int×Bool),Globs.Φ w->Pz s=some r->Calls P f #[.string s] w fun e w'=>∃u,e=.returned (.tuple #[.int .i64 r.1,u])/\u.oneCell'=true/\(r.2=false->u=.nilIface)/\(r.2=true->∃t x,u=.iface t x)/\RowKit.Below w.heap.size w w'
def UC [È] {ρ:Type} {P:Program} {f:Nat} (i:Tu P f):J7 P f (Xu (ρ:=ρ)):=by
 intro h args K res e ν w vals H a;unfold Xu at e
 split at e<;>try (cases e; done)
 split at e<;>try (cases e; done)
 split at e<;>try (cases e; done)
 rename_i s;unfold Â at e
 split at e<;>try (cases e; done)
 rename_i r g;obtain⟨v,rfl,k⟩:=a.one;have d:v=.string s:=k;subst d;refine⟨i.body,(callsIn_wide (n:=0)).2 ((i.ok w s r H.glob g).mono fun o w' j=>?_)⟩;obtain⟨u,rfl,h0,l,h2,c⟩:=j;obtain⟨ev,m⟩:=H.grow (fun b hb=>c.block b hb) c.size c.os c.tape c.output h.length;exact⟨ν,h,.tup [.int .i64 r.1,.ifc r.2],_,rfl,⟨#[.int .i64 r.1,u],rfl,rfl,⟨h0,l,h2⟩,trivial⟩,m,ev,bm _,fun _ _ hd=>hd,e⟩
def P3 {ρ:Type} (h:th Blk) (args:th AV) (K:AV->th Blk->so ρ):so ρ :=
 match args with
 |a::l=>match a,l with
  |.str s,[.str sep]=>Â (oK s sep) fun y=>K (.own h.length 0) (á (h++List.replicate 1 .dead) h.length (.row .str 0 false y))
  |_,_=>none
 |_=>none
structure LS (P:Program) (f:Nat):Prop where
 body:∃fn c,P.funcs[f]?=some fn/\fn.body=some c
 ok:∀(w:World) (s sep:ByteArray) (y:th ByteArray),Globs.Φ w->oK s sep=some y->Calls P f #[.string s,.string sep] w fun e w'=>e=.returned (.slice (some ⟨w.heap.size,0,none⟩) y.length y.length)/\∃t,w'=w.alloc (.cells (y.map Value.string).toArray t)
def PV {w:World} {av:Nat->Prop}:∀y:th ByteArray,qk w av .str y (y.map Value.string):=fun y=>⟨by simp[Ty.size],fun i x hi=>by
 have a:(y.map Value.string)[i]?=some (.string x):=by
  have hi:(y:th ByteArray)[i]?=some x:=hi;simp[hi]
 have h2:((y.map Value.string).drop (i*Ty.str.size)).take Ty.str.size=[.string x]:=by
  simp only[Ty.size,dL];rw[List.take_one,List.head?_drop,a];rfl
 rw[h2]
 rfl⟩
def RM [È] {ρ:Type} {P:Program} {f:Nat} (o:LS P f):J7 P f (P3 (ρ:=ρ)):=by
 intro h args K res e ν w vals H g;unfold P3 at e
 split at e<;>try (cases e; done)
 split at e<;>try (cases e; done)
 rename_i s k;unfold Â at e
 split at e<;>try (cases e; done)
 rename_i y r
 obtain⟨v1,v2,rfl,x,h2⟩:∃v1 v2,vals=[v1,v2]/\v1=.string s/\v2=.string k:=by
  match vals,g with
  |[a,b],i=>exact⟨a,b,rfl,i.1,i.2.1⟩
  |[_],i=>exact i.2.elim
  |_::_::_::_,i=>exact i.2.2.elim
 subst x; subst h2;refine⟨o.body,(callsIn_wide (n:=0)).2 ((o.ok w s k y H.glob r).mono fun A w' u=>?_)⟩;obtain⟨rfl,t,rfl⟩:=u;have c:=BX h 1;have z:HR ν (h++List.replicate 1 .dead) w:=H.same c rfl rfl rfl rfl;have m:Ev h.length ν h w ν (h++List.replicate 1 .dead) w:=Ev.same c rfl rfl rfl rfl h.length
 have p:h.length<(h++List.replicate 1 Blk.dead).length:=by simp
 have hd:lkB (h++List.replicate 1 .dead) h.length=.dead:=by rw[c]; exact oi _ _ (bm _)
 have d:=sW (w':=w.alloc (.cells (y.map Value.string).toArray t)) z (id:=h.length) (g':=0) (t:=.str) (xs':=y) (cap':=y.length) (c':=(y.map Value.string).toArray) (e:=t) (news:=y.map Value.string) p
  (fun V=>by rw[hd]; trivial) rfl rfl rfl rfl (bm _) (by simp[Ty.size]) (PV y) (fun j v q=>by simpa using q)
 refine⟨_,_,.own h.length 0,_,rfl,oa p rfl,d.2,m.trans d.1 (by simp),by rw[É]; simp,fun j q l=>?_,e⟩;rw[Ê _ (by omega),c];exact l
inductive PB where
 |row (r:Xz)
 |atoi
 |split
def xK {ρ:Type}:PB->th Blk->th AV->(AV->th Blk->so ρ)->so ρ
 |.row r=>rowX r
 |.atoi=>Xu
 |.split=>P3
def XOk (P:Program) (f:Nat):PB->Prop
 |.row r=>RowOk P f r
 |.atoi=>Tu P f
 |.split=>LS P f
def Nk:th (Nat×PB)->Nat->so PB
 |[],_=>none
 |e::l,f=>match Nat.beq e.1 f with
  |true=>some e.2
  |false=>Nk l f
def extT {ρ:Type} (xt:th (Nat×PB)) (f:Nat):so (th Blk->th AV->(AV->th Blk->so ρ)->so ρ) :=
 match Nk xt f with
 |some x=>some (xK x)
 |none=>none
def Cl:∀{l:th (Nat×PB)} {f:Nat} {x:PB},Nk l f=some x->(f,x)∈l
 |[],_,_,e=>by cases e
 |a::l,f,x,e=>by
  simp only[Nk] at e
  split at e
  ·rename_i h;cases e;obtain rfl:=bt h;exact .head _
  ·exact .tail _ (Cl e)
def ext_of [È] {ρ:Type} {P:Program} {xt:th (Nat×PB)} (a:∀e∈xt,XOk P e.1 e.2):∀f X,extT (ρ:=ρ) xt f=some X->J7 P f X:=by
 intro f X h;unfold extT at h
 split at h<;>try (cases h; done)
 rename_i x b;cases h;have:=a (f,x) (Cl b)
 cases x with
 |row r=>exact W7 this
 |atoi=>exact UC this
 |split=>exact RM this
def nO [È] {ρ:Type} {E:Env ρ} (h:E.ext=fun _=>none):∀f X,E.ext f=some X->J7 E.P f X:=fun f X e=>by rw[h] at e; cases e
def Ll [È] {ρ:Type} {P:Program} {E:Env ρ} {xt:th (Nat×PB)} (a:∀e∈xt,XOk P e.1 e.2) (h:E.ext=extT xt) (b:E.P=P:=by rfl):∀f X,E.ext f=some X->J7 E.P f X:=fun f X e=>by
 rw[h] at e;rw[b];exact ext_of a f X e
end Go.Am
end

noncomputable section
namespace Go.Am
open Go
def ik:ą:=⟨[.int .i64],[.str],fun n=>Rq n⟩
def Ω:ą:=⟨[.str,.str],[.str],fun(x:ByteArray×ByteArray)=>PS x.1 x.2⟩
def fI:ą:=⟨[.str,.int .u8],[.int .i64],fun(x:ByteArray×Int)=>indexF x.1 x.2⟩
def oR:ą:=⟨[.str,.str],[.slice .str],fun(x:ByteArray×ByteArray)=>oK x.1 x.2⟩
def rL:ą:=⟨[.slice .str,.str],[.str],fun(x:th ByteArray×ByteArray)=>Ro x.1 x.2⟩
end Go.Am
end
