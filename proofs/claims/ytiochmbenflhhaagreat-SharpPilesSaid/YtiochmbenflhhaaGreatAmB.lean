/- lemmas -/
import Derived.Test.YtiochmbenflhhaaGreatAmA
import Derived.OrdersIn
import Derived.LoopNIn
set_option linter.all false
set_option linter.unusedSectionVars false
set_option linter.unusedVariables false
set_option linter.unusedSimpArgs false
noncomputable section
namespace Go.Am
variable [ø]
section
variable {ν ν':Nat→Value} {h h':List Blk} {w w':World} {P:Program}
def V2 (b:AV):∀(as:List AV) (h:List Blk),ă (BW h as) b=ă h b
 |[],_=>rfl
 |a::as,h=>by rw[BW,V2 b as,JT]
def CY.mono {av av':Nat→Prop} (hm:∀b,av' b→av b) {t:Ty} {xs:List (Val t)} {news:List Value} (hr:CY w av t xs news):CY w av' t xs news :=
 ⟨hr.1,fun i x hi=>CR.mono hm (hr.2 i x hi)⟩
def ae7 {a:AV} {id:Nat} {h:List Blk} (hl:lkB h id=.dead):lkB (yu h a) id=.dead:=by
 have key:∀(j g:Nat) (t:Ty) (fz:Bool) (xs:List (Val t)),lkB h j=.row t g fz xs→lkB (č h j (.row t g true xs)) id=.dead:=fun j g t fz xs hr=>by
  by_cases hj:id=j
  ·subst hj; rw[hl] at hr; cases hr
  ·rw[õ _ hj]; exact hl
 cases a<;>try exact hl
 all_goals
  simp only[yu]
  split
  ·exact key _ _ _ _ _ ‹_›
  ·exact hl
def SC {id:Nat}:∀(as:List AV) {h:List Blk},lkB h id=.dead→lkB (BW h as) id=.dead
 |[],_,hl=>hl
 |_::as,_,hl=>SC as (ae7 hl)
def ai9 {v:AV} {id:Nat} {h:List Blk} (hl:lkB h id=.dead):lkB (frz h v) id=.dead:=by
 unfold frz; split
 ·exact SC _ hl
 ·exact ae7 hl
def SD {id:Nat}:∀(ps:List (Nat×AV)) {h:List Blk},lkB h id=.dead→lkB (frzA h ps) id=.dead
 |[],_,hl=>hl
 |(_,_)::ps,_,hl=>SD ps (ai9 hl)
def aiz {h0:List Blk} {ty:Ty}:∀(ps:List (Nat×AV)) (us:List (Nat×Value)) (k:Nat) (c:Array Value) (xs:List (Val ty)) (h:List Blk),(∀b,ă h b=ă h0 b)→HR ν h w→TL h0 ty k ps=some xs →
 Č (fun(a:Nat×AV) (b:Nat×Value)=>a.1=b.1∧VR ν h w a.2 b.2) ps us→(k+ps.length)*ty.size≤c.size →
 ∃c' news,Instr.fill (fun i=>some (i*ty.size,ty.size)) c us=some c'∧c'.toList=c.toList.take (k*ty.size)++news++c.toList.drop ((k+ps.length)*ty.size)∧CY w (Av ν (frzA h ps)) ty xs news∧xs.length=ps.length ∧
  Ev h.length ν h w ν (frzA h ps) w∧HR ν (frzA h ps) w∧(∀b,Av ν (frzA h ps) b→Av ν h b)∧(frzA h ps).length=h.length
 |[],[],k,c,xs,h,hsn,H,e,_,_=>by
  cases e;exact⟨c,[],rfl,by simp,⟨by simp,fun i x hi=>by simp at hi⟩,rfl,Ev.refl _ _ _ _,H,fun _ hb=>hb,rfl⟩
 |[],_::_,_,_,_,_,_,_,_,hu,_=>hu.elim
 |_::_,[],_,_,_,_,_,_,_,hu,_=>hu.elim
 |(i,v)::ps,(j,u)::us,k,c,xs,h,hsn,H,e,hu,hc=>by
  obtain⟨⟨hij,hvu⟩,hu⟩:=hu;simp only at hij hvu; subst hij;simp only[TL] at e
  split at e<;>try (cases e; done)
  rename_i hik;simp only[dh,beq_iff_eq] at hik;obtain⟨rfl,hnm⟩:=hik
  split at e<;>try (cases e; done)
  rename_i cs hcs
  split at e<;>try (cases e; done)
  rename_i x hx
  split at e<;>try (cases e; done)
  rename_i xs' hxs;cases e;obtain⟨vs,hvs,rfl⟩:=JS hcs;obtain⟨hfe,hfm⟩:=anc hvs h;have hcx:=hvu.cells hvs;have hs:=I2 H (hcx.mono fun _ _ q=>q.1) (hfm hnm);have hmap:vs.map (ă h)=vs.map (ă h0):=fM fun b _=>hsn b;rw[hmap] at hs;have hxc:=Ź hx hs;obtain⟨e1,H1,hlv⟩:=FV vs H;simp only[frzA,hfe]
  have hsz:u.cells.size=ty.size:=by have:=hxc.length; simpa using this
  have hlen:(i+1+ps.length)*ty.size≤c.size:=by rw[show i+1+ps.length=i+(ps.length+1) by omega]; simpa using hc
  have hi:i*ty.size+ty.size≤c.size:=by
   have:=dM ty.size (show i+1≤i+1+ps.length by omega);rw[dJ i 1,fN] at this;omega
  have hcl:u.cells.toList.length=ty.size:=by simpa using hsz
  have hcsz:(c.toList.take (i*ty.size)++u.cells.toList++c.toList.drop (i*ty.size+ty.size)).toArray.size=c.size:=by
   simp only[fp,di,dv,gY,fL,hcl]; omega
  obtain⟨c',news,h1,h2,h3,h4,h5,h6,h7,h8⟩:=aiz ps us (i+1) (c.toList.take (i*ty.size)++u.cells.toList++c.toList.drop (i*ty.size+ty.size)).toArray xs' (BW h vs)
   (fun b=>(V2 b vs h).trans (hsn b)) H1 hxs (hu.mono fun _ _ q=>⟨q.1,q.2.ev e1⟩) (by rw[hcsz]; exact hlen)
  refine⟨c',u.cells.toList++news,?_,?_,?_,by simp[h4],e1.trans h5 (by rw[ψ]; exact dg _),h6,fun b hb=>hlv b (h7 b hb),by rw[h8,ψ]⟩
  ·rw[A9 rfl hsz hi]; exact h1
  ·rw[h2]
   have a1:(c.toList.take (i*ty.size)++u.cells.toList++c.toList.drop (i*ty.size+ty.size)).take ((i+1)*ty.size)=c.toList.take (i*ty.size)++u.cells.toList:=by
    have hl1:(c.toList.take (i*ty.size)++u.cells.toList).length=(i+1)*ty.size:=by
     rw[di,dv,fL,hcl,dJ,fN]; omega
    rw[←hl1,List.take_left]
   have a2:(c.toList.take (i*ty.size)++u.cells.toList++c.toList.drop (i*ty.size+ty.size)).drop ((i+1+ps.length)*ty.size)=c.toList.drop ((i+(ps.length+1))*ty.size):=by
    have hl1:(c.toList.take (i*ty.size)++u.cells.toList).length=i*ty.size+ty.size:=by
     rw[di,dv,fL,hcl]; omega
    rw[show(i+1+ps.length)*ty.size=(c.toList.take (i*ty.size)++u.cells.toList).length+ps.length*ty.size by rw[hl1,dJ,dJ,fN],←gF,List.drop_left,gF];congr 1;rw[dJ,dJ,fN]; omega
   show(List.take ((i+1)*ty.size) _++news++List.drop ((i+1+ps.length)*ty.size) _)=_;rw[a1,a2];simp
  ·have hone:CY w (Av ν (frzA (BW h vs) ps)) ty [x] u.cells.toList:=⟨by simp[hsz],fun q y hq=>by
    cases q with
    |zero =>
     simp at hq; subst hq;simp only[Nat.zero_mul,List.drop_zero];rw[eA (by omega)];exact CR.mono h7 hxc
    |succ q=>simp at hq⟩
   exact hone.append h3
def abq {S:St} {a:Act} {nid n:Nat} {t e:TypeId} {ty:Ty} {ps:Array (Nat×Operand)} {xs:List (Val ty)} (H:Sim ν S a w) (hn:nid<S.h.length) (hd:lkB S.h nid=.dead) (he:LN P t=some e)
 (hrow:Ni P e ty.size=true) (hln:ps.toList.length=n) (hlim:n*ty.size≤65536) (hx:TL S.h ty 0 (ps.toList.map fun p=>(p.1,ev S.t p.2))=some xs) :
 jk P ν S.h w (Instr.buildSlice t n (ps.map fun(i,x)=>(i,a.eval x))) (.own nid 0) (č (frzA S.h (ps.toList.map fun p=>(p.1,ev S.t p.2))) nid (.row ty 0 false xs)):=by
 obtain⟨i,z,hi,hsz,hpos,hby,hz,hzs⟩:=lp hrow;have ht:=kj he
 have hcs:((Array.range (n*ty.size)).map (fun j=>(if n*ty.size=0 then(#[]:Array Value) else z.cells)[j % (if n*ty.size=0 then(#[]:Array Value) else z.cells).size]!)).size=n*ty.size:=by simp
 obtain⟨c',news,h1,h2,h3,h4,h5,h6,h7,h8⟩:=aiz (ν:=ν) (w:=w) (h0:=S.h) _ (ps.toList.map fun p=>(p.1,a.eval p.2)) 0 ((Array.range (n*ty.size)).map (fun j=>(if n*ty.size=0 then(#[]:Array Value) else z.cells)[j % (if n*ty.size=0 then(#[]:Array Value) else z.cells).size]!)) xs S.h (fun _=>rfl) H.heap hx (Gh H ps.toList)
  (by rw[hcs]; simp only[eF]; rw[hln,dC]; exact dg _)
 rw[eF,hln] at h2 h4
 have h2':c'.toList=news:=by
  rw[h2];simp
 have hd':lkB (frzA S.h (ps.toList.map fun p=>(p.1,ev S.t p.2))) nid=.dead:=SD _ hd
 have hnew:=JU (w':=w.alloc (.cells c' e)) h6 (id:=nid) (g':=0) (xs':=xs) (cap':=n) (by rw[h8]; exact hn) (fun V=>by rw[hd']; trivial) rfl rfl rfl rfl (by omega) (by
  have:c'.size=news.length:=by rw[←h2']; simp
  rw[this,h3.1,h4]; exact dg _) h3 (fun j v hj=>by rw[←h2'] at hj; simpa using hj)
 rw[h4] at hnew;refine⟨_,_,_,?_,ze (by rw[h8]; exact hn) rfl,hnew.2,(h5.trans hnew.1 (by rw[h8]; exact dg _)),by rw[Ú,h8]⟩
 have hp:(ps.map fun(x:Nat×Operand)=>(x.1,a.eval x.2)).toList=ps.toList.map fun p=>(p.1,a.eval p.2):=by simp
 have hlt:¬(16777216<n*ty.size):=by omega
 have h1':Instr.fill (fun i=>some (i*ty.size,ty.size)) ((Array.range (n*ty.size)).map (fun j=>(if n*ty.size=0 then(#[]:Array Value) else z.cells)[j % (if n*ty.size=0 then(#[]:Array Value) else z.cells).size]!)) (ps.map fun(x:Nat×Operand)=>(x.1,a.eval x.2)).toList=some c':=by rw[hp]; exact h1
 simp only[Instr.buildSlice,Sem.run_bind,run_underlying ht,Result.andThen_ok,sizeOf,typeInfo,run_program,hi,Sem.run_pure,hsz];rw[show(2:Nat) ^ 24=16777216 from rfl,if_neg (by omega:¬n*ty.size>16777216)]
 by_cases h0:n*ty.size=0
 ·simp only[h0,if_true,Sem.run_bind,Sem.run_pure,Result.andThen_ok] at h1' ⊢
  erw [h1']
  simp[newRow]
 ·simp only[h0,if_false,Sem.run_bind,zeroValue,typeInfo,run_program,hi,hz,Sem.run_pure,Result.andThen_ok] at h1' ⊢
  erw [h1']
  simp[newRow]
end
end Go.Am
end

noncomputable section
namespace Go.Am
variable [ø]
section
variable {ν ν':Nat→Value} {h h':List Blk} {w w':World} {P:Program}
def upd2 (H:HR ν h w) {i j:Nat} {A B:Blk} {U V:Value} (hij:i≠j) (hi:i<h.length) (hj:j<h.length) (hos:w'.os=w.os) (htape:w'.tape=w.tape) (hout:w'.output=w.output)
 (hsize:w.heap.size≤w'.heap.size)
 (hkeep:∀b,b<w.heap.size→((lkB h i).live=true→¬π (ν i) b)→((lkB h j).live=true→¬π (ν j) b)→w'.heap[b]?=w.heap[b]?)
 (hU:A.live=true→∀b,π U b→((lkB h i).live=true∧π (ν i) b)∨((lkB h j).live=true∧π (ν j) b)∨w.heap.size≤b)
 (hV:B.live=true→∀b,π V b→((lkB h i).live=true∧π (ν i) b)∨((lkB h j).live=true∧π (ν j) b)∨w.heap.size≤b)
 (hdis:A.live=true→B.live=true→∀b,π U b→π V b→False)
 (hni:(lkB h i).next ν (Ċ (Ċ ν i U) j V) i A) (hnj:(lkB h j).next ν (Ċ (Ċ ν i U) j V) j B)
 (hbi:Ev h.length ν h w (Ċ (Ċ ν i U) j V) (č (č h i A) j B) w'→BR (Ċ (Ċ ν i U) j V) (č (č h i A) j B) w' i A)
 (hbj:Ev h.length ν h w (Ċ (Ċ ν i U) j V) (č (č h i A) j B) w'→BR (Ċ (Ċ ν i U) j V) (č (č h i A) j B) w' j B) :
 Ev h.length ν h w (Ċ (Ċ ν i U) j V) (č (č h i A) j B) w'∧HR (Ċ (Ċ ν i U) j V) (č (č h i A) j B) w':=by
 have li:lkB (č (č h i A) j B) i=A:=by rw[õ _ hij,ó _ hi]
 have lj:lkB (č (č h i A) j B) j=B:=ó _ (by rw[Ú]; exact hj)
 have lo:∀{m},m≠i→m≠j→lkB (č (č h i A) j B) m=lkB h m:=fun h1 h2=>by rw[õ _ h2,õ _ h1]
 have vi:Ċ (Ċ ν i U) j V i=U:=by rw[ť _ _ hij,à]
 have vj:Ċ (Ċ ν i U) j V j=V:=à _ _ _
 have vo:∀{m},m≠i→m≠j→Ċ (Ċ ν i U) j V m=ν m:=fun h1 h2=>by rw[ť _ _ h2,ť _ _ h1]
 -- who owns a block now owned it, or it is new
 have own:∀m b,(lkB (č (č h i A) j B) m).live=true→π (Ċ (Ċ ν i U) j V m) b →
  (∃q,(lkB h q).live=true∧π (ν q) b∧(q=m∨((q=i∨q=j)∧(m=i∨m=j))))∨(w.heap.size≤b∧(m=i∨m=j)):=by
  intro m b hl hb
  by_cases h1:m=i
  ·subst h1;rw[li] at hl; rw[vi] at hb;rcases hU hl b hb with h2|h2|h2
   ·exact .inl ⟨m,h2.1,h2.2,.inl rfl⟩
   ·exact .inl ⟨j,h2.1,h2.2,.inr ⟨.inr rfl,.inl rfl⟩⟩
   ·exact .inr ⟨h2,.inl rfl⟩
  ·by_cases h2:m=j
   ·subst h2;rw[lj] at hl; rw[vj] at hb;rcases hV hl b hb with h2|h2|h2
    ·exact .inl ⟨i,h2.1,h2.2,.inr ⟨.inl rfl,.inr rfl⟩⟩
    ·exact .inl ⟨m,h2.1,h2.2,.inl rfl⟩
    ·exact .inr ⟨h2,.inr rfl⟩
   ·rw[lo h1 h2] at hl; rw[vo h1 h2] at hb;exact .inl ⟨m,hl,hb,.inl rfl⟩
 have ev:Ev h.length ν h w (Ċ (Ċ ν i U) j V) (č (č h i A) j B) w':=by
  refine⟨hos,htape,hout,hsize,fun b hb hn=>⟨hkeep b hb (fun hl he=>hn ⟨i,hl,he⟩) (fun hl he=>hn ⟨j,hl,he⟩),?_⟩,fun m hm=>?_⟩
  ·rintro⟨m,hl,he⟩;rcases own m b hl he with⟨q,h1,h2,_⟩|⟨h1,_⟩
   ·exact hn ⟨q,h1,h2⟩
   ·omega
  ·by_cases h1:m=i
   ·subst h1; rw[li]; exact hni
   ·by_cases h2:m=j
    ·subst h2; rw[lj]; exact hnj
    ·rw[lo h1 h2]
     cases hB:lkB h m with
     |dead=>trivial
     |cells cs=>exact⟨⟨cs,rfl⟩,vo h1 h2⟩
     |row t g fz xs=>exact⟨g,fz,xs,rfl,dg _,fun _=>⟨vo h1 h2,rfl⟩⟩
     |map k v es=>exact⟨⟨es,rfl⟩,vo h1 h2⟩
     |deep k g xss=>exact⟨g,xss,rfl,dg _,fun _=>⟨vo h1 h2,rfl⟩⟩
 refine⟨ev,fun m=>?_,fun m n b hm hn hbm hbn=>?_,fun b hb=>dI (H.ghlt b hb) hsize,fun m b hl hb hg=>?_⟩
 ·by_cases h1:m=i
  ·subst h1; rw[li]; exact hbi ev
  ·by_cases h2:m=j
   ·subst h2; rw[lj]; exact hbj ev
   ·rw[lo h1 h2];refine BR.ev ev (vo h1 h2) (fun b hl hb hlt=>hkeep b hlt (fun hl' hb'=>h1 (H.inj m i b hl hl' hb hb')) (fun hl' hb'=>h2 (H.inj m j b hl hl' hb hb'))) (H.blk m)
 ·-- one owner alone
  have hd:∀{m n b},(m=i∨m=j)→(n=i∨n=j)→(lkB (č (č h i A) j B) m).live=true→(lkB (č (č h i A) j B) n).live=true→π (Ċ (Ċ ν i U) j V m) b→π (Ċ (Ċ ν i U) j V n) b→m=n:=by
   intro m n b h1 h2 hm hn hbm hbn
   rcases h1 with rfl|rfl<;>rcases h2 with rfl|rfl
   ·rfl
   ·rw[li] at hm; rw[lj] at hn; rw[vi] at hbm; rw[vj] at hbn;exact(hdis hm hn b hbm hbn).elim
   ·rw[lj] at hm; rw[li] at hn; rw[vj] at hbm; rw[vi] at hbn;exact(hdis hn hm b hbn hbm).elim
   ·rfl
  rcases own m b hm hbm with⟨q,h1,h2,h3⟩|⟨h1,h3⟩
  ·rcases own n b hn hbn with⟨r,h4,h5,h6⟩|⟨h4,h6⟩
   ·have hqr:=H.inj q r b h1 h4 h2 h5;subst hqr;rcases h3 with rfl|⟨h3,h3'⟩
    ·rcases h6 with rfl|⟨h6,h6'⟩
     ·rfl
     ·exact hd h6 h6' hm hn hbm hbn
    ·rcases h6 with rfl|⟨h6,h6'⟩
     ·exact hd h3' h3 hm hn hbm hbn
     ·exact hd h3' h6' hm hn hbm hbn
   ·have:=H.lt ⟨q,h1,h2⟩; omega
  ·rcases own n b hn hbn with⟨r,h4,h5,h6⟩|⟨h4,h6⟩
   ·have:=H.lt ⟨r,h4,h5⟩; omega
   ·exact hd h3 h6 hm hn hbm hbn
 ·rcases own m b hl hb with⟨q,h1,h2,_⟩|⟨h1,_⟩
  ·exact H.ghne q b h1 h2 hg
  ·have:=H.ghlt b hg; omega
def qy {l:List Value} {b:Nat}:π (.agg l.toArray) b↔∃u∈l,mw u=some b:=by
 show(∃u∈l.toArray.toList,mw u=some b)↔_;simp
def apj {k:IntKind} {xss:List (List Int)} {us:List Value} (h:Č (alf w k) xss us):∀u∈us,u.oneCell'=true:=by
 intro u hu;obtain⟨i,hi,rfl⟩:=dz.1 hu;obtain⟨xs,_,base,cap,e,_⟩:=h.get' (df hi);rw[e]; rfl
def al0 {k:IntKind} {xss:List (List Int)} {us:List Value} (h:Č (alf w k) xss us):∀u∈us,∀b,mw u=some b→b<w.heap.size:=by
 intro u hu b hb;obtain⟨i,hi,rfl⟩:=dz.1 hu;obtain⟨xs,_,base,cap,e,_,h1⟩:=h.get' (df hi);rw[e] at hb;rcases h1 with⟨rfl,_⟩|⟨b',off,c,e',rfl,h1,_⟩
 ·cases hb
 ·cases hb; exact ę h1
def ap7 (H:HR ν h w) {nid id g n:Nat} {t e:TypeId} {k:IntKind} {xs:List Int} {i:TypeInfo} {z:Value} (hnid:nid<h.length) (hd:lkB h nid=.dead) (ht:P.underlying t=some (.slice e)) (hi:P.info? e=some i) (hsz:i.size=1) (hz:i.zero=some z) (hzs:z.cells.size=1)
 (hl:lkB h id=.row (.int k) g false xs) (hn:n=1) {ux:Value} (hux:ux=ν id) :
 jk P ν h w (Instr.buildSlice t n #[(0,ux)]) (.dp nid 0) (č (č h id (.row (.int k) (g+1) false [])) nid (.deep k 0 [xs])):=by
 subst hn
 have hne:id≠nid:=fun e=>by rw[e,hd] at hl; cases hl
 have hid:id<h.length:=iL hl (by simp);have hB:=H.blk id;rw[hl] at hB;obtain⟨base,cap,h1,h2,h3⟩:=hB
 have hlive:(lkB h id).live=true:=by rw[hl]; rfl
 have h3':(base=none∧cap=0)∨∃b off c e,base=some ⟨b,off,none⟩∧w.heap[b]?=some (.cells c e (0,0))∧off+cap≤c.size∧∀(j:Nat) (x:Int),xs[j]?=some x→c[off+j]?=some (.int k x):=by
  rcases h3 with h3|⟨b,off,c,e',h3,h4,h5,h6⟩
  ·exact .inl h3
  ·refine .inr ⟨b,off,c,e',h3,h4,by simpa[Ty.size] using h5,fun j x hx=>?_⟩;obtain⟨us,q1,q2⟩:=h6 j x hx;have q1':us=[.int k x]:=q1;subst q1';have:=q2 0 _ rfl;simp only[World.cell?,h4] at this;simpa[Ty.size] using this
 have hone:(ν id).oneCell'=true:=by rw[h1]; rfl
 have hheap:(w.alloc (.cells #[ν id] e)).heap=w.heap.push (.cells #[ν id] e (0,0)):=rfl
 have hpush:∀b,b<w.heap.size→(w.alloc (.cells #[ν id] e)).heap[b]?=w.heap[b]?:=fun b hb=>by rw[hheap,fc]; simp[fR hb]
 obtain⟨ev,hr⟩:=upd2 (w':=w.alloc (.cells #[ν id] e)) (A:=.row (.int k) (g+1) false []) (B:=.deep k 0 [xs]) (U:=.slice none 0 0) (V:=.agg [Value.slice (some ⟨w.heap.size,0,none⟩) 1 1,ν id].toArray) H hne hid hnid rfl rfl rfl (by rw[hheap]; simp)
  (fun b hb _ _=>hpush b hb) (fun _ b hb=>by cases hb)
  (fun _ b hb=>by
   obtain⟨u,hu,hb⟩:=qy.1 hb;simp only[dm,gp,or_false] at hu;rcases hu with rfl|rfl
   ·cases hb; exact .inr (.inr (dg _))
   ·exact .inl ⟨hlive,by rw[h1] at hb ⊢; exact hb⟩)
  (fun _ _ b hb _=>by cases hb)
  (by rw[hl]; exact⟨g+1,false,[],rfl,gx _,fun hf=>by omega⟩) (by rw[hd]; trivial)
  (fun ev=>⟨none,0,by rw[ť _ _ hne,à]; rfl,dg _,.inl ⟨rfl,rfl⟩⟩)
  (fun ev=>by
   have hnew:(w.alloc (.cells #[ν id] e)).heap[w.heap.size]?=some (.cells #[ν id] e (0,0)):=by rw[hheap]; simp
   refine⟨some ⟨w.heap.size,0,none⟩,1,[ν id],by rw[à]; rfl,by simp,?_,.inr ⟨w.heap.size,0,#[ν id],e,rfl,hnew,by simp,fun m u hm=>?_⟩,⟨base,cap,h1,h2,?_⟩,trivial⟩
   ·refine List.Pairwise.cons (fun v hv b hb hvb=>?_) (gr _ _);simp at hv;subst hv
    obtain rfl:w.heap.size=b:=by simpa[mw] using hb
    have:=H.lt ⟨id,hlive,by rw[h1] at hvb ⊢; exact hvb⟩;omega
   ·cases m with
    |zero=>simpa using hm
    |succ m=>simp at hm
   ·rcases h3' with h3|⟨b,off,c,e',h3,h4,h5⟩
    ·exact .inl h3
    ·exact .inr ⟨b,off,c,e',h3,by
      rw[hpush b (ę h4),h4],h5⟩)
 refine⟨_,w.alloc (.cells #[ν id] e),.slice (some ⟨w.heap.size,0,none⟩) 1 1,?_,⟨rfl,k,0,[xs],?_,dg _,fun _=>⟨[ν id],à _ _ _⟩⟩,hr,ev,by rw[Ú,Ú]⟩
 ·subst hux;simp only[Instr.buildSlice,Sem.run_bind,run_underlying ht,Result.andThen_ok,sizeOf,typeInfo,run_program,hi,Sem.run_pure,hsz];rw[show(2:Nat) ^ 24=16777216 from rfl,if_neg (by omega:¬1*1>16777216)];simp only[gi,Nat.one_ne_zero,if_false,Sem.run_bind,zeroValue,typeInfo,run_program,hi,hz,Sem.run_pure,Result.andThen_ok]
  have hfill:Instr.fill (fun i=>some (i*1,1)) ((Array.range 1).map (fun j=>z.cells[j % z.cells.size]!)) [(0,ν id)]=some #[ν id]:=by
   have:=A9 (place:=fun i=>some (i*1,1)) (cells:=(Array.range 1).map (fun j=>z.cells[j % z.cells.size]!)) (i:=0) (v:=ν id) (rest:=[]) (off:=0) (size:=1) rfl (by have:=rH hone; simpa using congrArg List.length this) (by simp);rw[this];have hc:=rH hone;simp[Instr.fill,hc]
  simp only[gi] at hfill
  erw [hfill]
  simp[newRow]
 ·exact ó _ (by rw[Ú]; exact hnid)
def abY (H:HR ν h w) {G:Nat→Prop} {id g:Nat} {k:IntKind} {xss:List (List Int)} (hl:lkB h id=.deep k g xss) {v:Value} (hv:∃us,ν id=.agg (v::us).toArray) (hG:∀b,π (ν id) b→¬G b) :
 CR w G (.slice (.slice (.int k))) xss [v]:=by
 obtain⟨us,hν⟩:=hv;obtain⟨base,cap,us',h1,h2,_,h3,h4⟩:=H.table hl;have h1':=h1;rw[hν] at h1;have q:=mA h1
 injection q with q1 q2
 subst q1 q2;have own:∀u∈Value.slice base xss.length cap::us,∀b,mw u=some b→¬G b:=fun u hu b hb=>hG b (by rw[h1']; exact⟨u,by simpa using hu,hb⟩);refine⟨base,cap,rfl,h2,?_⟩;rcases h3 with⟨rfl,rfl⟩|⟨b,off,c,e,rfl,h5,h6,h7⟩
 ·exact .inl (dA.1 (by omega))
 ·refine .inr ⟨b,off,rfl,own _ (.head _) b rfl,ę h5,fun i xs hx=>?_⟩;obtain⟨u,hu,hr⟩:=h4.get hx;refine⟨[u],?_,fun j y hj=>?_⟩
  ·obtain⟨base2,cap2,rfl,h8,h9⟩:=hr;refine⟨base2,cap2,rfl,h8,?_⟩;rcases h9 with⟨rfl,rfl⟩|⟨b2,off2,c2,e2,rfl,h10,h11,h12⟩
   ·exact .inl (dA.1 (by omega))
   ·refine .inr ⟨b2,off2,rfl,own _ (.tail _ (dl hu)) b2 rfl,ę h10,fun m x hm=>⟨[.int k x],rfl,fun j y hj=>?_⟩⟩
    cases j with
    |zero =>
     simp at hj;subst hj;simp only[World.cell?,h10];have:=h12 m x hm;simpa[Ty.size] using this
    |succ j=>simp at hj
  ·cases j with
   |zero =>
    simp at hj;subst hj;simp only[World.cell?,h5];have:=h7 i _ hu;simpa[Ty.size] using this
   |succ j=>simp at hj
def ap6 (H:HR ν h w) {nid id g n:Nat} {t e:TypeId} {k:IntKind} {xss:List (List Int)} {i:TypeInfo} {z:Value} (hnid:nid<h.length) (hd:lkB h nid=.dead) (ht:P.underlying t=some (.slice e)) (hi:P.info? e=some i) (hsz:i.size=1) (hz:i.zero=some z) (hzs:z.cells.size=1)
 (hl:lkB h id=.deep k g xss) (hn:n=1) {ux:Value} (hux:∃us,ν id=.agg (ux::us).toArray) :
 jk P ν h w (Instr.buildSlice t n #[(0,ux)]) (.own nid 0) (č (č h id (.deep k (g+1) [])) nid (.row (.slice (.slice (.int k))) 0 false [xss])):=by
 subst hn;have hux0:=hux;obtain⟨us,hux⟩:=hux
 have hne:id≠nid:=fun e=>by rw[e,hd] at hl; cases hl
 have hid:id<h.length:=iL hl (by simp)
 have hlive:(lkB h id).live=true:=by rw[hl]; rfl
 have hone:ux.oneCell'=true:=by
  obtain⟨base,cap,us',h1,_⟩:=H.table hl;rw[hux] at h1;have q:=mA h1
  injection q with q1 q2
  rw[q1]; rfl
 have hheap:(w.alloc (.cells #[ux] e)).heap=w.heap.push (.cells #[ux] e (0,0)):=rfl
 have hpush:∀b,b<w.heap.size→(w.alloc (.cells #[ux] e)).heap[b]?=w.heap[b]?:=fun b hb=>by rw[hheap,fc]; simp[fR hb]
 have hnew:(w.alloc (.cells #[ux] e)).heap[w.heap.size]?=some (.cells #[ux] e (0,0)):=by rw[hheap]; simp
 obtain⟨ν',hν'⟩:∃ν',ν'=Ċ (Ċ ν id (.agg [Value.slice none 0 0].toArray)) nid (.slice (some ⟨w.heap.size,0,none⟩) 1 1):=⟨_,rfl⟩;obtain⟨h',hh'⟩:∃h',h'=č (č h id (.deep k (g+1) [])) nid (.row (.slice (.slice (.int k))) 0 false [xss]):=⟨_,rfl⟩
 have noav:∀b,π (ν id) b→¬Av ν' h' b:=by
  intro b hb;rintro(⟨m,hm,hb'⟩|hg)
  ·by_cases e1:m=nid
   ·subst e1;rw[hν',à] at hb';obtain rfl:w.heap.size=b:=Option.some.inj hb';have:=H.lt ⟨id,hlive,hb⟩;omega
   ·rw[hν',ť _ _ e1] at hb';rw[hh',õ _ e1] at hm
    by_cases e2:m=id
    ·subst e2;rw[à] at hb';obtain⟨u,hu,hb'⟩:=qy.1 hb';simp at hu;subst hu;cases hb'
    ·rw[ť _ _ e2] at hb';rw[õ _ e2] at hm;exact e2 (H.inj m id b hm hlive hb' hb)
  ·exact H.ghne id b hlive hb hg
 have hcr:CR (w.alloc (.cells #[ux] e)) (Av ν' h') (.slice (.slice (.int k))) xss [ux]:=CR.keep (fun b hb hn=>⟨hpush b hb,hn⟩) (abY H hl hux0 noav)
 obtain⟨ev,hr⟩:=upd2 (w':=w.alloc (.cells #[ux] e)) (A:=.deep k (g+1) []) (B:=.row (.slice (.slice (.int k))) 0 false [xss]) (U:=.agg [Value.slice none 0 0].toArray) (V:=.slice (some ⟨w.heap.size,0,none⟩) 1 1) H hne hid hnid rfl rfl rfl (by rw[hheap]; simp)
  (fun b hb _ _=>hpush b hb)
  (fun _ b hb=>by
   obtain⟨u,hu,hb⟩:=qy.1 hb;simp at hu;subst hu
   cases hb)
  (fun _ b hb=>by
   obtain rfl:w.heap.size=b:=Option.some.inj hb
   exact .inr (.inr (dg _)))
  (fun _ _ b hb _=>by
   obtain⟨u,hu,hb⟩:=qy.1 hb;simp at hu;subst hu
   cases hb)
  (by rw[hl]; exact⟨g+1,[],rfl,gx _,fun hf=>by omega⟩) (by rw[hd]; trivial)
  (fun ev=>⟨none,0,[],by rw[ť _ _ hne,à]; rfl,dg _,gr _ _,.inl ⟨rfl,rfl⟩,trivial⟩)
  (fun ev=>by
   rw[←hν',←hh'];refine⟨some ⟨w.heap.size,0,none⟩,1,by rw[hν',à]; rfl,by simp,.inr ⟨w.heap.size,0,#[ux],e,rfl,hnew,by simp[Ty.size],fun m x hm=>?_⟩⟩
   cases m with
   |zero =>
    simp at hm;subst hm;refine⟨[ux],hcr,?_⟩;have:=Ň.of_cells hnew;simpa using this
   |succ m=>simp at hm)
 refine⟨_,w.alloc (.cells #[ux] e),.slice (some ⟨w.heap.size,0,none⟩) 1 1,?_,⟨rfl,.slice (.slice (.int k)),0,false,[xss],?_,dg _,fun _=>(à _ _ _).symm⟩,hr,ev,by rw[Ú,Ú]⟩
 ·simp only[Instr.buildSlice,Sem.run_bind,run_underlying ht,Result.andThen_ok,sizeOf,typeInfo,run_program,hi,Sem.run_pure,hsz];rw[show(2:Nat) ^ 24=16777216 from rfl,if_neg (by omega:¬1*1>16777216)];simp only[gi,Nat.one_ne_zero,if_false,Sem.run_bind,zeroValue,typeInfo,run_program,hi,hz,Sem.run_pure,Result.andThen_ok]
  have hfill:Instr.fill (fun i=>some (i*1,1)) ((Array.range 1).map (fun j=>z.cells[j % z.cells.size]!)) [(0,ux)]=some #[ux]:=by
   have:=A9 (place:=fun i=>some (i*1,1)) (cells:=(Array.range 1).map (fun j=>z.cells[j % z.cells.size]!)) (i:=0) (v:=ux) (rest:=[]) (off:=0) (size:=1) rfl (by have:=rH hone; simpa using congrArg List.length this) (by simp);rw[this];have hc:=rH hone;simp[Instr.fill,hc]
  simp only[gi] at hfill
  erw [hfill]
  simp[newRow]
 ·exact ó _ (by rw[Ú]; exact hnid)
def af3 {k:IntKind} {base:Option Addr} {cap:Nat} {xss:List (List Int)} {us:List Value} (h10:Č (alf w k) xss us)
 (h9:(base=none∧cap=0)∨∃b off c e,base=some ⟨b,off,none⟩∧w.heap[b]?=some (.cells c e (0,0))∧off+cap≤c.size∧∀(i:Nat) (u:Value),us[i]?=some u→c[off+i]?=some u) (hc:xss.length≤cap) :
 (∀a,base=some a→∀j u,us[j]?=some u→w.cell? (a.add j)=some u)∧(base=none→us=[]):=by
 constructor
 ·intro a ha j u hj;rcases h9 with⟨h9,_⟩|⟨b,off,c,e,h9,h11,_,h13⟩
  ·rw[h9] at ha; cases ha
  ·rw[h9] at ha; cases ha;rw[ņ];simp only[World.cell?,h11];exact h13 j u hj
 ·intro hb;rcases h9 with⟨_,h9⟩|⟨b,off,c,e,h9,_⟩
  ·have:=h10.length;exact dA.1 (by omega)
  ·rw[hb] at h9; cases h9
def abc (H:HR ν h w) {j id2:Nat} (hne:id2≠j) (hj:j<h.length) {k:IntKind} {g2 g':Nat} {xss yss:List (List Int)} (hl2:lkB h id2=.deep k g2 yss) {base2:Option Addr} {cap2:Nat} {us us2:List Value} (hν2:ν id2=.agg (Value.slice base2 yss.length cap2::us2).toArray)
 (hnext:∀W,(lkB h j).next ν W j (.deep k g' (xss++yss)))
 (hrows:Č (alf w k) xss us) (hus:∀u∈us,∀b,mw u=some b→(lkB h j).live=true∧π (ν j) b) (hap:afW us)
 {base':Option Addr} {cap':Nat} {w':World} (hcap:xss.length+yss.length≤cap') (hos:w'.os=w.os) (htape:w'.tape=w.tape) (hout:w'.output=w.output) (hsize:w.heap.size≤w'.heap.size)
 (hblk:∀b,mw (.slice base' (xss.length+yss.length) cap')=some b→((lkB h j).live=true∧π (ν j) b∧∀u∈us,mw u≠some b)∨w.heap.size≤b)
 (hkeep:∀b,b<w.heap.size→mw (.slice base' (xss.length+yss.length) cap')≠some b→w'.heap[b]?=w.heap[b]?)
 (hcells:(base'=none∧cap'=0)∨∃b off c e,base'=some ⟨b,off,none⟩∧w'.heap[b]?=some (.cells c e (0,0))∧off+cap'≤c.size∧∀(m:Nat) (u:Value),(us++us2)[m]?=some u→c[off+m]?=some u) :
 Ev h.length ν h w (Ċ (Ċ ν id2 (.agg [Value.slice none 0 0].toArray)) j (.agg (Value.slice base' (xss.length+yss.length) cap'::(us++us2)).toArray)) (č (č h id2 (.deep k (g2+1) [])) j (.deep k g' (xss++yss))) w' ∧
  HR (Ċ (Ċ ν id2 (.agg [Value.slice none 0 0].toArray)) j (.agg (Value.slice base' (xss.length+yss.length) cap'::(us++us2)).toArray)) (č (č h id2 (.deep k (g2+1) [])) j (.deep k g' (xss++yss))) w':=by
 have hid2:id2<h.length:=iL hl2 (by simp);obtain⟨base2',cap2',us2',q1,q2,q3,q4,q5⟩:=H.table hl2;rw[hν2] at q1;have q:=mA q1
 injection q with e1 e2
 subst e2
 have hlive2:(lkB h id2).live=true:=by rw[hl2]; rfl
 have own2:∀u∈us2,∀b,mw u=some b→π (ν id2) b:=fun u hu b hb=>by rw[hν2]; exact qy.2 ⟨u,by simp[hu],hb⟩
 have hap2:afW us2:=q3.sublist (List.sublist_cons_self _ _)
 have hdiff:∀u∈us,∀v∈us2,∀b,mw u=some b→mw v≠some b:=fun u hu v hv b hb hvb =>
  hne (H.inj id2 j b hlive2 (hus u hu b hb).1 (own2 v hv b hvb) (hus u hu b hb).2)
 have hV0:∀u∈us++us2,∀b,mw (.slice base' (xss.length+yss.length) cap')=some b→mw u≠some b:=fun u hu b hb hub=>by
  rcases hblk b hb with⟨h1,h2,h3⟩|h1
  ·rcases dk.1 hu with hu|hu
   ·exact h3 u hu hub
   ·exact hne (H.inj id2 j b hlive2 h1 (own2 u hu b hub) h2)
  ·rcases dk.1 hu with hu|hu
   ·have:=al0 hrows u hu b hub; omega
   ·have:=al0 q5 u hu b hub; omega
 have hrow':∀u∈us++us2,∀b,mw u=some b→b<w.heap.size→w'.heap[b]?=w.heap[b]?:=fun u hu b hb hlt=>hkeep b hlt fun hv=>hV0 u hu b hv hb;refine upd2 H hne hid2 hj hos htape hout hsize (fun b hb h1 h2=>hkeep b hb fun hv=>?_) (fun _ b hb=>?_) (fun _ b hb=>?_) (fun _ _ b hb _=>?_) ?_ (hnext _) (fun ev=>?_) (fun ev=>?_)
 ·rcases hblk b hv with⟨h3,h4,_⟩|h3
  ·exact h2 h3 h4
  ·omega
 ·obtain⟨u,hu,hb⟩:=qy.1 hb;simp at hu;subst hu;cases hb
 ·obtain⟨u,hu,hb⟩:=qy.1 hb;rcases dm.1 hu with rfl|hu
  ·rcases hblk b hb with⟨h3,h4,_⟩|h3
   ·exact .inr (.inl ⟨h3,h4⟩)
   ·exact .inr (.inr h3)
  ·rcases dk.1 hu with hu|hu
   ·exact .inr (.inl (hus u hu b hb))
   ·exact .inl ⟨hlive2,own2 u hu b hb⟩
 ·obtain⟨u,hu,hb⟩:=qy.1 hb;simp at hu;subst hu;cases hb
 ·rw[hl2]; exact⟨g2+1,[],rfl,gx _,fun hf=>by omega⟩
 ·exact⟨none,0,[],by rw[ť _ _ hne,à]; rfl,dg _,gr _ _,.inl ⟨rfl,rfl⟩,trivial⟩
 ·refine⟨base',cap',us++us2,by rw[à,di],by rw[di]; exact hcap,?_,hcells,?_⟩
  ·rw[di];exact List.Pairwise.cons (fun v hv b hb=>hV0 v hv b hb) (List.pairwise_append.2 ⟨hap,hap2,fun u hu v hv b hb=>hdiff u hu v hv b hb⟩)
  ·exact(hrows.append q5).keepRows hrow'
def ajB {n b:Nat} (h1:n≤4294967296) (h2:b≤32768):n*b≤140737488355328:=by
 have:=gE h1 h2;omega
def afl (H:HR ν h w) (t ty:TypeId) {e:TypeId} {i:TypeInfo} {z:Value} (ht:P.underlying t=some (.slice e)) (hi:P.info? e=some i) (hz:i.zero=some z) (hsz:i.size=1) (hby:i.bytes≤32768) (hzs:z.cells.size=1)
 {j id2:Nat} (hne:id2≠j) (hj:j<h.length) {k:IntKind} {g2 g':Nat} {xss yss:List (List Int)} (hl2:lkB h id2=.deep k g2 yss) {base base2:Option Addr} {cap cap2:Nat} {us us2:List Value} (hν2:ν id2=.agg (Value.slice base2 yss.length cap2::us2).toArray)
 (hnext:∀W,(lkB h j).next ν W j (.deep k g' (xss++yss)))
 (hx:(base=none∧cap=0∧xss=[]∧us=[])∨∃g,lkB h j=.deep k g xss∧ν j=.agg (Value.slice base xss.length cap::us).toArray)
 (hlen:xss.length+yss.length≤4294967296) :
 ∃V w',(Builtin.append_ #[t,t] ty #[.slice base xss.length cap,.slice base2 yss.length cap2]).run P w=.ok V w'∧V.oneCell'=true ∧
  Ev h.length ν h w (Ċ (Ċ ν id2 (.agg [Value.slice none 0 0].toArray)) j (.agg (V::(us++us2)).toArray)) (č (č h id2 (.deep k (g2+1) [])) j (.deep k g' (xss++yss))) w' ∧
  HR (Ċ (Ċ ν id2 (.agg [Value.slice none 0 0].toArray)) j (.agg (V::(us++us2)).toArray)) (č (č h id2 (.deep k (g2+1) [])) j (.deep k g' (xss++yss))) w':=by
 obtain⟨base2',cap2',us2',q1,q2,q3,q4,q5⟩:=H.table hl2;rw[hν2] at q1;have q:=mA q1
 injection q with e1 e2
 injection e1 with e1 e3 e4
 subst e1 e2 e4;obtain⟨c2,n2⟩:=af3 q5 q4 q2;have l2:=q5.length;have hone2:=apj q5
 -- the table that grows
 have hX:Č (alf w k) xss us∧(∀u∈us,∀b,mw u=some b→(lkB h j).live=true∧π (ν j) b)∧afW us ∧
  ((base=none∧cap=0∧us=[]∧xss=[])∨∃b off c e,base=some ⟨b,off,none⟩∧w.heap[b]?=some (.cells c e (0,0))∧off+cap≤c.size∧xss.length≤cap∧(∀(i:Nat) (u:Value),us[i]?=some u→c[off+i]?=some u)∧((lkB h j).live=true∧π (ν j) b∧∀u∈us,mw u≠some b)):=by
  rcases hx with⟨rfl,rfl,rfl,rfl⟩|⟨g,hl,hν⟩
  ·exact⟨trivial,fun u hu=>(by cases hu),List.Pairwise.nil,.inl ⟨rfl,rfl,rfl,rfl⟩⟩
  ·obtain⟨b',c',us',p1,p2,p3,p4,p5⟩:=H.table hl;rw[hν] at p1;have q:=mA p1
   injection q with e1 e2
   injection e1 with e1 e3 e4
   subst e1 e2 e4
   have hlive:(lkB h j).live=true:=by rw[hl]; rfl
   refine⟨p5,fun u hu b hb=>⟨hlive,by rw[hν]; exact qy.2 ⟨u,by simp[hu],hb⟩⟩,p3.sublist (List.sublist_cons_self _ _),?_⟩;rcases p4 with⟨rfl,rfl⟩|⟨b,off,c,e',rfl,p6,p7,p8⟩
   ·have h0:xss=[]:=dA.1 (by omega);subst h0;exact .inl ⟨rfl,rfl,dA.1 p5.length.symm,rfl⟩
   ·exact .inr ⟨b,off,c,e',rfl,p6,p7,p2,p8,hlive,by rw[hν]; exact qy.2 ⟨_,.head _,rfl⟩,fun u hu hub=>(dQ.1 p3).1 u hu b rfl hub⟩
 obtain⟨x1,x2,x3,x4⟩:=hX;have l1:=x1.length
 have hU2:yss≠[]→∃a,base2=some a:=fun hy=>by
  cases hb:base2 with
  |none=>exact absurd (dA.1 (by rw[l2,n2 hb]; rfl)) hy
  |some a=>exact⟨a,rfl⟩
 -- a new array
 have hnew:∀old:Nat,∃V w',(Result.ok (Value.slice (some ⟨w.heap.size,0,none⟩) (xss.length+yss.length) (grownCap w (xss.length+yss.length) old e))
  (w.drew.alloc (.cells (us.toArray++us2.toArray++Builtin.zeroCells z.cells (grownCap w (xss.length+yss.length) old e-(xss.length+yss.length))) e)):Result Value)=.ok V w'∧V.oneCell'=true ∧
  Ev h.length ν h w (Ċ (Ċ ν id2 (.agg [Value.slice none 0 0].toArray)) j (.agg (V::(us++us2)).toArray)) (č (č h id2 (.deep k (g2+1) [])) j (.deep k g' (xss++yss))) w' ∧
  HR (Ċ (Ċ ν id2 (.agg [Value.slice none 0 0].toArray)) j (.agg (V::(us++us2)).toArray)) (č (č h id2 (.deep k (g2+1) [])) j (.deep k g' (xss++yss))) w':=by
  intro old;have hge:=grownCap_ge w (xss.length+yss.length) old e;obtain⟨q,hq⟩:∃q,q=grownCap w (xss.length+yss.length) old e:=⟨_,rfl⟩;rw[←hq] at hge ⊢;obtain⟨cs,hcs⟩:∃cs,cs=us.toArray++us2.toArray++Builtin.zeroCells z.cells (q-(xss.length+yss.length)):=⟨_,rfl⟩
  have hsize:cs.size=q:=by
   rw[hcs];simp only[gW,fp,size_zeroCells,hzs];omega
  have hget:∀(m:Nat) (u:Value),(us++us2)[m]?=some u→cs[m]?=some u:=fun m u hm=>by
   rw[←eP] at hm;rw[hcs,fA,if_pos]
   ·simpa using hm
   ·have:=(eG.1 hm).1;simpa using this
  rw[←hcs];have hheap:(w.drew.alloc (.cells cs e)).heap=w.heap.push (.cells cs e (0,0)):=rfl
  have hlast:(w.drew.alloc (.cells cs e)).heap[w.heap.size]?=some (.cells cs e (0,0)):=by rw[hheap]; exact Array.getElem?_push_size
  exact⟨_,_,rfl,rfl,abc (w':=w.drew.alloc (.cells cs e)) H hne hj hl2 hν2 hnext x1 x2 x3 (base':=some ⟨w.heap.size,0,none⟩) (cap':=q) hge rfl rfl rfl (by rw[hheap]; simp)
   (fun b hb=>.inr (by cases hb; exact dg _)) (fun b hb _=>by rw[hheap,fc]; simp[fR hb]) (.inr ⟨w.heap.size,0,cs,e,rfl,hlast,by omega,fun m u hm=>by rw[dC]; exact hget m u hm⟩)⟩
 rcases x4 with⟨rfl,rfl,rfl,rfl⟩|⟨b,off,c,e',rfl,p6,p7,p8,p9,p10⟩
 ·by_cases hy:yss=[]
  ·subst hy;have hu2:us2=[]:=dA.1 l2.symm;subst hu2;have hrun:=qt (P:=P) (w:=w) t ty e i ht hi base2 cap2;exact⟨_,w,hrun,rfl,abc H hne hj hl2 hν2 hnext x1 x2 x3 (base':=none) (cap':=0) (dg _) rfl rfl rfl (dg _) (fun b hb=>by cases hb) (fun b _ _=>rfl) (.inl ⟨rfl,rfl⟩)⟩
  ·have h0:0<yss.length:=gq.2 hy;obtain⟨a,rfl⟩:=hU2 hy;rw[dH,dC] at hlen;have hb48:=ajB hlen hby;have hrun:=run_append_nil (P:=P) w t ty e i z ht hi hz a yss.length cap2 us2 (by rw[hsz]; omega) (c2 a rfl) h0 (by omega) (by omega);obtain⟨V,w',h1,h2,h3⟩:=hnew 0;refine⟨V,w',?_,h2,h3⟩;rw[←h1];simpa using hrun
 ·by_cases hroom:xss.length+yss.length≤cap
  ·have hrun:=oI (P:=P) (o:=off) (sLen:=xss.length) (sCap:=cap) t ty e i ht hi p6 base2 yss.length cap2 us2 (by rw[hsz]; omega) c2 n2 hone2 hroom (by rw[hsz]; omega);rw[hsz,gi] at hrun;obtain⟨cs,hcs⟩:∃cs,cs=(c.toList.take (off+xss.length)++us2++c.toList.drop (off+xss.length+us2.length)).toArray:=⟨_,rfl⟩
   have hsize:cs.size=c.size:=by
    rw[hcs];simp only[fp,di,dv,gY,fL];omega
   have hget:∀(m:Nat) (u:Value),(us++us2)[m]?=some u→cs[off+m]?=some u:=fun m u hm=>by
    have hs:=pZ c.toList us2 (off+xss.length) (off+m) (by rw[show c.toList.length=c.size from fL]; omega);rw[hcs,eP,hs];rw[fm] at hm
    split at hm
    ·rw[if_pos (by omega)];simpa using p9 m u hm
    ·have hml:=(dj.1 hm).1;rw[if_neg (by omega),if_pos (by omega),show off+m-(off+xss.length)=m-us.length by omega];exact hm
   rw[←hcs] at hrun;have hh:(w.setRow b cs).heap[b]?=some (.cells cs e' (0,0)):=setRow_heap w b c _ e' _ p6
   exact⟨_,_,hrun,rfl,abc (w':=w.setRow b cs) H hne hj hl2 hν2 hnext x1 x2 x3 (base':=some ⟨b,off,none⟩) (cap':=cap) hroom rfl rfl rfl (by rw[vY]; exact dg _)
    (fun b' hb=>.inl (by cases hb; exact p10)) (fun b' hb hne'=>setRow_other w b b' _ fun he=>hne' (by rw[he]; rfl)) (.inr ⟨b,off,cs,e',rfl,hh,by omega,hget⟩)⟩
  ·have hy:yss≠[]:=fun e=>by rw[e,dH] at hroom; omega
   have h0:0<yss.length:=gq.2 hy;obtain⟨a,rfl⟩:=hU2 hy;have hrun:=run_append_grow (P:=P) w t ty e i z ht hi hz ⟨b,off,none⟩ xss.length cap us (by rw[hsz]; omega) (fun m u hm=>by rw[ņ]; simp only[World.cell?,p6]; exact p9 m u hm) a yss.length cap2 us2 (by rw[hsz]; omega) (c2 a rfl) (by omega) (by omega) (growslice_fits (by omega) (ajB hlen hby));obtain⟨V,w',h1,h2,h3⟩:=hnew cap;exact⟨V,w',hrun.trans h1,h2,h3⟩
def ar4 {S:St} {a:Act} {nid n:Nat} {t:TypeId} {ps:Array (Nat×Operand)} {v:AV} (H:Sim ν S a w) (hn:nid<S.h.length) (hd:lkB S.h nid=.dead)
 (e:ahH P S.h nid n t (ps.toList.map fun p=>(p.1,ev S.t p.2)) (fun v h=>some (v,h))=some (v,h')):jk P ν S.h w (Instr.buildSlice t n (ps.map fun(i,x)=>(i,a.eval x))) v h':=by
 cases hps:ps.toList with
 |nil=>rw[hps] at e; cases e
 |cons p l =>
 cases l with
 |cons q l=>rw[hps] at e; cases e
 |nil =>
 obtain⟨p1,x⟩:=p;rw[hps] at e;simp only[fh,fO,ahH] at e;have hv:=ŏ H x
 cases hev:ev S.t x<;>rw[hev] at e<;>simp only at e<;>try (cases e; done)
 ·rename_i id g;rw[hev] at hv
  split at e<;>try (cases e; done)
  rename_i el hel
  split at e<;>try (cases e; done)
  rename_i hc
  split at e<;>try (cases e; done)
  rename_i k g' xs hl
  split at e<;>try (cases e; done)
  rename_i hgg;cases e;simp only[dh] at hc;obtain⟨hrow,h0,h1⟩:=hc;obtain rfl:=du h0;obtain rfl:=du h1
  obtain rfl:g=g':=by simpa using hgg
  obtain⟨ti,z,hi,hsz,_,hby,hz,hzs⟩:=lp hrow;have hpa:ps=#[(0,x)]:=d8.1 (by rw[hps]);subst hpa;obtain⟨_,t2,g2,fz2,xs2,hl2,_,hv2⟩:=hv;rw[hl] at hl2;cases hl2
  have hm:((#[(0,x)]:Array (Nat×Operand)).map fun(i,x)=>(i,a.eval x))=#[(0,a.eval x)]:=by simp
  rw[hm];exact ap7 H.heap hn hd (kj hel) hi hsz hz hzs hl rfl (hv2 rfl)
 ·rename_i id g;rw[hev] at hv
  split at e<;>try (cases e; done)
  rename_i el hel
  split at e<;>try (cases e; done)
  rename_i hc
  split at e<;>try (cases e; done)
  rename_i k g' xss hl
  split at e<;>try (cases e; done)
  rename_i hgg;cases e;simp only[dh] at hc;obtain⟨hrow,h0,h1⟩:=hc;obtain rfl:=du h0;obtain rfl:=du h1
  obtain rfl:g=g':=by simpa using hgg
  obtain⟨ti,z,hi,hsz,_,hby,hz,hzs⟩:=lp hrow;have hpa:ps=#[(0,x)]:=d8.1 (by rw[hps]);subst hpa;obtain⟨_,k2,g2,xss2,hl2,_,hv2⟩:=hv;rw[hl] at hl2;cases hl2
  have hm:((#[(0,x)]:Array (Nat×Operand)).map fun(i,x)=>(i,a.eval x))=#[(0,a.eval x)]:=by simp
  rw[hm];exact ap6 H.heap hn hd (kj hel) hi hsz hz hzs hl rfl (hv2 rfl)
def ar5 {nid:Nat} {t ty:TypeId} {s v:AV} {id2 g2:Nat} {us ux:Value} (H:HR ν h w) (hn:nid<h.length) (hd:lkB h nid=.dead)
 (e:afm P h nid t s id2 g2 (fun v h=>some (v,h))=some (v,h')) (hs:VR ν h w s us) (hx:VR ν h w (.dp id2 g2) ux):jk P ν h w (Builtin.append_ #[t,t] ty #[us,ux]) v h':=by
 unfold afm at e
 split at e<;>try (cases e; done)
 rename_i el hel
 split at e<;>try (cases e; done)
 rename_i hrow
 split at e<;>try (cases e; done)
 rename_i k g2' yss hl2
 split at e<;>try (cases e; done)
 rename_i hgg
 obtain rfl:g2=g2':=by simpa using hgg
 obtain⟨ti,z,hi,hsz,_,hby,hz,hzs⟩:=lp hrow;have ht:=kj hel;have hid2:id2<h.length:=iL hl2 (by simp);obtain⟨_,k2,g3,yss2,hl3,_,hv2⟩:=hx;rw[hl2] at hl3; cases hl3;obtain⟨us2,hν2⟩:=hv2 rfl;obtain⟨base2,cap2,us2',q1,_⟩:=H.table hl2;have q1':=q1;rw[hν2] at q1;have q:=mA q1
 injection q with e1 e2
 subst e1 e2
 split at e
 ·-- nil
  split at e<;>try (cases e; done)
  rename_i hok;cases e;have hus:us=.slice none 0 0:=hs;subst hus
  have hne:id2≠nid:=fun e=>by rw[e,hd] at hl2; cases hl2
  obtain⟨V,w',h1,h2,h3,h4⟩:=afl H t ty ht hi hz hsz hby hzs hne hn (g':=0) (xss:=[]) (us:=[]) hl2 hν2 (fun W=>by rw[hd]; trivial) (.inl ⟨rfl,rfl,rfl,rfl⟩) (by simp[â] at hok; simpa using hok);refine⟨_,w',V,h1,⟨h2,k,0,yss,ó _ (by rw[Ú]; exact hn),dg _,fun _=>⟨_,à _ _ _⟩⟩,h4,h3,by rw[Ú,Ú]⟩
 ·rename_i id g
  split at e<;>try (cases e; done)
  rename_i hid
  split at e<;>try (cases e; done)
  rename_i k' g' xss hl
  split at e<;>try (cases e; done)
  rename_i hg
  split at e<;>try (cases e; done)
  rename_i hk _;subst hk
  split at e<;>try (cases e; done)
  rename_i hok
  obtain rfl:g=g':=by simpa using hg
  cases e
  have hne:id2≠id:=fun e=>by rw[e] at hid; simp at hid
  have hidl:id<h.length:=iL hl (by simp);obtain⟨_,k3,g4,xss3,hl4,_,hv3⟩:=hs;rw[hl] at hl4; cases hl4;obtain⟨us1,hν1⟩:=hv3 rfl;obtain⟨base,cap,us1',p1,_⟩:=H.table hl;rw[hν1] at p1;have q:=mA p1
  injection q with e1 e2
  subst e1 e2;obtain⟨V,w',h1,h2,h3,h4⟩:=afl H t ty ht hi hz hsz hby hzs hne hidl (g':=g+1) (xss:=xss) (us:=us1) hl2 hν2 (fun W=>by rw[hl]; exact⟨g+1,xss++yss,rfl,gx _,fun hf=>by omega⟩) (.inr ⟨g,hl,hν1⟩) (by simpa[â] using hok);refine⟨_,w',V,h1,⟨h2,_,g+1,xss++yss,ó _ (by rw[Ú]; exact hidl),dg _,fun _=>⟨_,à _ _ _⟩⟩,h4,h3,by rw[Ú,Ú]⟩
 ·cases e
end
end Go.Am
end

noncomputable section
namespace Go.Am
variable {ρ:Type}
def F0 (k:IntKind) (n:Int) (K:AV→Option ρ):arK k n K=(arK k n some).bind K:=rfl
def Cq (P:Program) (op:BinOp) (t:TypeId) (x y:AV) (K:AV→Option ρ):binK P op t x y K=(binK P op t x y some).bind K:=by
 unfold binK; (repeat' split)<;>first|rfl|exact F0 _ _ _
def BT (d:Option TypeDesc) (h:List Blk) (x:AV) (K:AV→Option ρ):apL d h x K=(apL d h x some).bind K:=by
 unfold apL; (repeat' split)<;>rfl
def qk (sz:Nat) (h:List Blk) (x i:AV) (K:AV→Option ρ):IY sz h x i K=(IY sz h x i some).bind K:=by
 unfold IY; (repeat' split)<;>rfl
def qe (h:List Blk) (x:AV) (o:Nat) (K:AV→Option ρ):C1 h x o K=(C1 h x o some).bind K:=by
 unfold C1; (repeat' split)<;>rfl
def vy (P:Program) (h:List Blk) (t:TypeId) (a:AV) (K:AV→Option ρ):VL P h t a K=(VL P h t a some).bind K:=by
 unfold VL; (repeat' split)<;>rfl
def pY (P:Program) (h:List Blk) (t:TypeId) (a v:AV) (K:List Blk→Option ρ):xP P h t a v K=(xP P h t a v some).bind K:=by
 unfold xP; (repeat' split)<;>rfl
def BA (sz:Nat) (h:List Blk) (x:AV) (lo hi:Option AV) (eat:Bool) (K:AV→List Blk→Option ρ) :
 rR sz h x lo hi eat K=(rR sz h x lo hi eat fun v h=>some (v,h)).bind fun r=>K r.1 r.2:=by
 unfold rR; (repeat' split)<;>rfl
def xK (P:Program) (h:List Blk) (nid:Nat) (t:TypeId) (s x:AV) (K:AV→List Blk→Option ρ) :
 Bt P h nid t s x K=(Bt P h nid t s x fun v h=>some (v,h)).bind fun r=>K r.1 r.2:=by
 unfold Bt; (repeat' split)<;>rfl
def Jt (P:Program) (h:List Blk) (nid:Nat) (t:TypeId) (s:AV) (id g:Nat) (K:AV→List Blk→Option ρ) :
 afm P h nid t s id g K=(afm P h nid t s id g fun v h=>some (v,h)).bind fun r=>K r.1 r.2:=by
 unfold afm; (repeat' split)<;>rfl
def Jq (P:Program) (h:List Blk) (nid n:Nat) (t:TypeId) (ps:List (Nat×AV)) (K:AV→List Blk→Option ρ) :
 ahH P h nid n t ps K=(ahH P h nid n t ps fun v h=>some (v,h)).bind fun r=>K r.1 r.2:=by
 unfold ahH; (repeat' split)<;>rfl
def Bx (P:Program) (h:List Blk) (nid:Nat) (t:TypeId) (s x:AV) (K:AV→List Blk→Option ρ) :
 Mb P h nid t s x K=(Mb P h nid t s x fun v h=>some (v,h)).bind fun r=>K r.1 r.2:=by
 unfold Mb; (repeat' split)<;>rfl
def Cl (P:Program) (h:List Blk) (t:TypeId) (x:AV) (K:List Blk→Option ρ):M4 P h t x K=(M4 P h t x some).bind K:=by
 unfold M4; (repeat' split)<;>rfl
def nw (P:Program) (h:List Blk) (t:TypeId) (m i:AV) (ok:Bool) (K:AV→Option ρ):oU P h t m i ok K=(oU P h t m i ok some).bind K:=by
 unfold oU; (repeat' split)<;>rfl
def nJ (P:Program) (h:List Blk) (t:TypeId) (m i x:AV) (K:List Blk→Option ρ):lr P h t m i x K=(lr P h t m i x some).bind K:=by
 unfold lr; (repeat' split)<;>rfl
def i5 (gt:Bool) (l:List AV) (K:AV→Option ρ):∀x,lN gt x l K=(lN gt x l some).bind K:=by
 induction l with
 |nil=>intro x; rfl
 |cons y l ih =>
  intro x
  cases x<;>cases y<;>try rfl
  unfold lN; (repeat' split)<;>first|rfl|exact ih _
def opR (P:Program) (S:St) (nid:Nat) (eat:Bool) (o:Op):Option (AV×St):=opK P S nid eat o fun v S=>some (v,S)
def Ι {α β γ:Type} {x:Option α} {y:Option β} {f:α→Option β} {g:β→Option γ} {k:α→Option γ} {z:Option γ}
 (h1:z=x.bind k) (h2:y=x.bind f) (h:∀a,k a=(f a).bind g):z=y.bind g:=by
 subst h1 h2; cases x with
 |none=>rfl
 |some a=>exact h a
def jl (j:Int) (K:Nat→Option ρ):∀(n q:Nat),acj n q j K=(acj n q j some).bind K
 |0,_=>rfl
 |n+1,q=>by
  unfold acj
  split
  ·rfl
  ·exact jl j K n (q+1)
def JW {j:Int} {v:Nat}:∀{n q:Nat},acj n q j some=some v→j=(v:Int)∧q≤v∧v<q+n
 |0,_,h=>by cases h
 |n+1,q,h=>by
  unfold acj at h
  split at h
  ·rename_i hd;cases h;exact⟨of_decide_eq_true hd,dg _,by omega⟩
  ·obtain⟨h1,h2,h3⟩:=JW h;exact⟨h1,by omega,by omega⟩
def Yj (P:Program) (S:St) (nid:Nat) (eat:Bool) (o:Op) (K:AV→St→Option ρ) :
 opK P S nid eat o K=(opR P S nid eat o).bind fun r=>K r.1 r.2:=by
 unfold opR;unfold opK;dsimp only
 (repeat' split)<;>first
  |rfl
  |exact Ι (BT ..) (BT ..) fun _=>rfl
  |exact Ι (vy ..) (vy ..) fun _=>rfl
  |exact Ι (pY ..) (pY ..) fun _=>rfl
  |exact Ι (Cq ..) (Cq ..) fun _=>rfl
  |exact Ι (nJ ..) (nJ ..) fun _=>rfl
  |exact Ι (nw ..) (nw ..) fun _=>rfl
  |exact Ι (xK ..) (xK ..) fun _=>rfl
  |exact Ι (Jt ..) (Jt ..) fun _=>rfl
  |exact Ι (Jq ..) (Jq ..) fun _=>rfl
  |exact Ι (Bx ..) (Bx ..) fun _=>rfl
  |exact Ι (Cl ..) (Cl ..) fun _=>rfl
  |exact Ι (i5 _ _ _ _) (i5 _ _ _ _) fun _=>rfl
  |exact Ι (F0 ..) (F0 ..) fun _=>rfl
  |exact Ι (BA ..) (BA ..) fun _=>rfl
  |exact Ι (qe ..) (qe ..) fun _=>rfl
  |exact Ι (qk ..) (qk ..) fun _=>rfl
  |exact Ι (jl ..) (jl ..) fun _=>rfl
  |exact Ι (jl ..) (jl ..) fun _=>by(repeat' split)<;>rfl
end Go.Am
end

noncomputable section
namespace Go.Am
variable [ø]
section
variable {ν ν':Nat→Value} {w w':World} {P:Program}
def ald (ν:Nat→Value) (S:St) (w:World) (r:Result Next) (v:AV) (S':St):Prop :=
 ∃ν' w' u,(r=.ok (.value u) w'∨(r=.ok .skip w'∧u=undef))∧VR ν' S'.h w' v u∧HR ν' S'.h w'∧Ev S.h.length ν S.h w ν' S'.h w'∧S'.h.length=S.h.length∧S'.t=S.t
def jk.step {S:St} {x:Sem Value} {v:AV} {h':List Blk} (hd:jk P ν S.h w x v h') :
 ald ν S w ((do let u ←x; pure (.value u):Sem Next).run P w) v {t:=S.t,h:=h'}:=by
 obtain⟨ν',w',u,h1,h2,h3,h4,h5⟩:=hd;refine⟨ν',w',u,.inl ?_,h2,h3,h4,h5,rfl⟩;simp[h1]
def ald.still {S:St} {r:Result Next} {v:AV} {u:Value} (H:HR ν S.h w) (hr:r=.ok (.value u) w) (hv:VR ν S.h w v u):ald ν S w r v S :=
 ⟨ν,w,u,.inl hr,hv,H,Ev.refl _ _ _ _,rfl,rfl⟩
def abT {S:St} {x:Sem Unit} {h':List Blk} (hd:∃w',x.run P w=.ok () w'∧HR ν h' w'∧Ev S.h.length ν S.h w ν h' w'∧h'.length=S.h.length) :
 ald ν S w ((do x; pure .skip:Sem Next).run P w) .any {t:=S.t,h:=h'}:=by
 obtain⟨w',h1,h3,h4,h5⟩:=hd;refine⟨ν,w',undef,.inr ⟨?_,rfl⟩,trivial,h3,h4,h5,rfl⟩;simp[h1]
def am3 {a:AV} {v:Value} {h:List Blk} (hi:isV0 a=true) (hv:VR ν h w a v):VR0 ν h w a v:=by
 have h1:a.isFn=false:=by cases a<;>first|rfl|cases hi
 have h2:a.isAgg=false:=by cases a<;>first|rfl|cases hi
 have h3:a.isTup=false:=by cases a<;>first|rfl|cases hi
 rwa [L7 h3,XG h2,Tz h1] at hv
def Č.of_map {α β γ:Type} {R:β→γ→Prop} {f:α→β} {g:α→γ}:∀{l:List α},(∀x∈l,R (f x) (g x))→Č R (l.map f) (l.map g)
 |[],_=>trivial
 |x::l,h=>⟨h x (by simp),Č.of_map fun y hy=>h y (by simp[hy])⟩
def aph (k:IntKind) (a b:Int):(Builtin.max2 (.int k a) (.int k b)).run P w=.ok (.int k (BV a b)) w:=rfl
def apg (k:IntKind) (a b:Int):(Builtin.min2 (.int k a) (.int k b)).run P w=.ok (.int k (yK a b)) w:=rfl
def alY {S:St} {a:Act} {x y:Operand} (h:Ed x y=true):a.eval x=a.eval y:=by
 unfold Ed at h
 split at h
 ·have:=eq_of_beq h; subst this; rfl
 ·have:=of_decide_eq_true h; subst this; rfl
 ·cases h
def Ρ {α β:Type} {x:Option α} {f:α→Option β} {r:β} (h:x.bind f=some r):∃a,x=some a∧f a=some r:=by
 cases x with
 |none=>cases h
 |some a=>exact⟨a,rfl,h⟩
def arr1 {α:Type} {a:Array α} {x:α} (h:a.toList=[x]):a=#[x]:=fI (by simpa using h)
def arr2 {α:Type} {a:Array α} {x y:α} (h:a.toList=[x,y]):a=#[x,y]:=fI (by simpa using h)
def kU {S:St} {a:Act} {o:Oper} {b:Builtin} {args:Array Operand} {tys:Array TypeId} {f:Array TypeId→TypeId→Array Value→Sem Value} (hop:o.op=.call ⟨.builtin b,args,tys⟩)
 (hb:∀consts vs,builtin b tys o.type consts vs=(do pure (.value (←f tys o.type vs)):Sem Next)) :
 execOp a.eval o=(do let u ←f tys o.type (args.map a.eval); pure (.value u)):=by
 unfold execOp;rw[hop];simp only[resolve,pure_bind,invoke,hb]
def apu {S S':St} {a:Act} {o:Oper} {nid:Nat} {eat:Bool} {v:AV} {clone:Nat→Bool} (H:Sim ν S a w) (hn:đ clone o.op=true→nid<S.h.length∧lkB S.h nid=.dead)
 (e:opR P S nid eat o.op=some (v,S')):ald ν S w ((execOp a.eval o).run P w) v S':=by
 have hr:=H.heap
 cases hop:o.op with
 |move x =>
  rw[hop] at e; cases e;exact ald.still hr (by unfold execOp; rw[hop]; rfl) (ŏ H x)
 |assign x =>
  rw[hop] at e; cases e;exact ald.still hr (by unfold execOp; rw[hop]; rfl) (ŏ H x)
 |pick c x y =>
  rw[hop] at e;simp only[opR,opK] at e
  split at e<;>try (cases e; done)
  rename_i b hb;have hc:=ŏ H c;rw[hb] at hc;have hc:a.eval c=.bool b:=hc
  have hx:(execOp a.eval o).run P w=.ok (.value (if b then a.eval x else a.eval y)) w:=by unfold execOp; rw[hop]; simp[asBool,hc]
  split at e
  ·cases e; exact ald.still hr hx (ŏ H x)
  ·cases e; exact ald.still hr hx (ŏ H y)
 |box el x =>
  rw[hop] at e;simp only[opR,opK] at e
  split at e<;>try (cases e; done)
  rename_i cs hcs
  have hx:execOp a.eval o=(do let u ←Instr.box el (a.eval x); pure (.value u)):=by unfold execOp; rw[hop]
  rw[hx]
  split at e
  ·split at e<;>try (cases e; done)
   split at e<;>try (cases e; done)
   rename_i y hy;cases e;exact(asg hr hcs hy (ŏ H x)).step
  ·cases e;obtain⟨h1,h2⟩:=hn (by rw[hop]; rfl);exact(box_ok hr h1 h2 hcs (ŏ H x)).step
 |alloc el =>
  rw[hop] at e;simp only[opR,opK] at e
  split at e<;>try (cases e; done)
  rename_i z hz
  split at e<;>try (cases e; done)
  rename_i cs hcs;cases e;obtain⟨h1,h2⟩:=hn (by rw[hop]; rfl)
  have hx:execOp a.eval o=(do let u ←Instr.alloc el true (.tuple #[]); pure (.value u)):=by unfold execOp; rw[hop]
  rw[hx];exact(aqB hr h1 h2 hz hcs).step
 |build t ps =>
  rw[hop] at e;simp only[opR,opK] at e
  have hx:execOp a.eval o=(do let u ←Instr.build t (ps.map fun(i,x)=>(i,a.eval x)); pure (.value u)):=by unfold execOp; rw[hop]
  rw[hx]
  split at e<;>try (cases e; done)
  ·rename_i fs ht
   split at e<;>try (cases e; done)
   rename_i hfs
   split at e<;>try (cases e; done)
   rename_i z hz
   split at e<;>try (cases e; done)
   rename_i zs hzs
   split at e<;>try (cases e; done)
   rename_i cs hcs;cases e;exact(VS H ht hfs hz hzs hcs).step
  ·rename_i n el ht
   split at e<;>try (cases e; done)
   rename_i sz z hs hz
   split at e<;>try (cases e; done)
   rename_i zs hzs
   split at e<;>try (cases e; done)
   rename_i cs hcs;cases e;exact(ah2 H ht hs hz hzs hcs).step
 |buildSlice t n ps =>
  rw[hop] at e
  have hx:execOp a.eval o=(do let u ←Instr.buildSlice t n (ps.map fun(i,x)=>(i,a.eval x)); pure (.value u)):=by unfold execOp; rw[hop]
  rw[hx];obtain⟨h1,h2⟩:=hn (by rw[hop]; rfl);simp only[opR,opK] at e
  split at e
  ·rw[Jq] at e;obtain⟨⟨v',h'⟩,h3,h4⟩:=Ρ e;cases h4;exact(ar4 H h1 h2 h3).step
  split at e<;>try (cases e; done)
  rename_i el hel
  split at e<;>try (cases e; done)
  rename_i ty hty
  split at e<;>try (cases e; done)
  rename_i hc;simp only[dh,beq_iff_eq,decide_eq_true_eq] at hc
  split at e<;>try (cases e; done)
  rename_i xs hxs;cases e;exact(abq H h1 h2 hel hc.1 hc.2.1 hc.2.2 hxs).step
 |load t x =>
  rw[hop] at e;simp only[opR,opK] at e;rw[vy] at e;obtain⟨v',h1,h2⟩:=Ρ e;cases h2
  have hx:execOp a.eval o=(do let u ←Instr.loadAt t (a.eval x); pure (.value u)):=by unfold execOp; rw[hop]
  rw[hx];obtain⟨u,h3,h4⟩:=amR hr h1 (ŏ H x);exact(jk.still hr h3 h4).step
 |store t x y =>
  rw[hop] at e;simp only[opR,opK] at e
  have hx:execOp a.eval o=(do Instr.storeAt t (a.eval x) (a.eval y); pure .skip):=by unfold execOp; rw[hop]
  rw[hx]
  split at e
  ·split at e<;>try (cases e; done)
   rename_i id g lo n hsub
   split at e<;>try (cases e; done)
   rename_i ty g' xs hl
   split at e<;>try (cases e; done)
   rename_i hc;simp only[dh,beq_iff_eq,decide_eq_true_eq] at hc;obtain⟨rfl,hln⟩:=hc;rw[pY] at e;obtain⟨h',h1,h2⟩:=Ρ e;cases h2;have hy:=ŏ H y;rw[hsub] at hy;obtain⟨ν1,v1,H1,ev1⟩:=ar1 hr hl hln hy;obtain⟨w',k1,k2,k3,k4⟩:=aiu H1 h1 ((ŏ H x).ev ev1) v1;refine⟨ν1,w',undef,.inr ⟨?_,rfl⟩,trivial,k2,ev1.trans k3 (Nat.le_of_eq (Ú _ _ _).symm),k4.trans (Ú _ _ _),rfl⟩;simp[k1]
  ·rw[pY] at e;obtain⟨h',h1,h2⟩:=Ρ e;cases h2;exact abT (aiu hr h1 (ŏ H x) (ŏ H y))
 |nilCheck x =>
  rw[hop] at e;simp only[opR,opK] at e;have hv:=ŏ H x
  split at e<;>try (cases e; done)
  ·rename_i id off he;cases e;rw[he] at hv;have hv':=hv;obtain⟨cs,b,h1,h2,h3⟩:=hv';exact ald.still hr (by unfold execOp; rw[hop]; simp only[h3]; rfl) (h3▸hv)
  ·rename_i t x' off he;cases e;rw[he] at hv;have hv':=hv;obtain⟨b,o',us,h3,h4⟩:=hv';exact ald.still hr (by unfold execOp; rw[hop]; simp only[h3]; rfl) (h3▸hv)
  ·rename_i id g i off he
   split at e<;>try (cases e; done)
   rename_i t g' fz xs hl
   split at e<;>try (cases e; done)
   rename_i hgg;cases e;rw[he] at hv;have hv':=hv;obtain⟨ho,t2,g2,fz2,xs2,hl2,hle,hf⟩:=hv';rw[hl] at hl2; cases hl2;obtain⟨_,b,o',cap,_,h3⟩:=hf (eq_of_beq hgg);exact ald.still hr (by unfold execOp; rw[hop]; simp only[h3]; rfl) (h3▸hv)
 |binOp op t x y yt =>
  rw[hop] at e;simp only[opR,opK] at e;rw[Cq] at e;obtain⟨v',h1,h2⟩:=Ρ e;cases h2
  have hx:execOp a.eval o=(do let u ←(do eqGuard op t x y (a.eval x) (a.eval y); binOp op t (a.eval x) (a.eval y)); pure (.value u)):=by unfold execOp; rw[hop]
  rw[hx];exact(aqy x y hr h1 (ŏ H x) (ŏ H y)).step
 |unOp op t x =>
  rw[hop] at e;simp only[opR,opK] at e
  have hx:execOp a.eval o=(do let u ←Op.unary op (a.eval x); pure (.value u)):=by unfold execOp; rw[hop]
  rw[hx];have hv:=ŏ H x
  split at e<;>try (cases e; done)
  ·rename_i b he;cases e;rw[he] at hv;exact(alC (op:=.not) hr hv rfl).step
  ·rename_i k n he;rw[F0] at e;obtain⟨v',h1,h2⟩:=Ρ e;cases h2;rw[he] at hv;exact(alC (op:=.neg) hr hv h1).step
 |convert src dst x =>
  rw[hop] at e;simp only[opR,opK] at e
  have hx:execOp a.eval o=(do let u ←convert src dst (a.eval x); pure (.value u)):=by unfold execOp; rw[hop]
  rw[hx];have hv:=ŏ H x
  split at e<;>try (cases e; done)
  rename_i d k k' n hs hd he;cases e;rw[he] at hv;have hv:a.eval x=.int k' n:=hv;refine(jk.still (v:=.int k (k.wrap n)) (u:=.int k (k.wrap n)) hr ?_ rfl).step;rw[hv];simp only[convert,Sem.run_bind,run_underlying hs,run_underlying hd,Result.andThen_ok];simp[Conv.intToInt]
 |makeFunc fn first caps =>
  rw[hop] at e;simp only[opR,opK] at e
  split at e<;>try (cases e; done)
  rename_i hc;simp only[dh,dO] at hc;cases e
  have hx:execOp a.eval o=(do let u ←Instr.makeFunc fn (first.map a.eval) (caps.map a.eval); pure (.value u)):=by unfold execOp; rw[hop]
  rw[hx];refine(jk.still (v:=.fn fn (first.toList.map (ev S.t)) (caps.toList.map (ev S.t))) (u:=.func fn (first.map a.eval) (caps.map a.eval)) hr rfl ⟨_,_,rfl,?_,?_⟩).step
  ·rw[gk];exact Č.of_map fun x hx=>am3 (hc.1 _ (List.mem_map_of_mem hx)) (ŏ H x)
  ·rw[gk];exact Č.of_map fun x hx=>am3 (hc.2 _ (List.mem_map_of_mem hx)) (ŏ H x)
 |makeMap t r =>
  rw[hop] at e;simp only[opR,opK] at e
  split at e<;>try (cases e; done)
  rename_i kt et ht
  split at e<;>try (cases e; done)
  rename_i k v' hk hv
  split at e<;>try (cases e; done)
  cases e;obtain⟨h1,h2⟩:=hn (by rw[hop]; rfl)
  have hx:execOp a.eval o=(do let u ←Instr.makeMap t none; pure (.value u)):=by unfold execOp; rw[hop]; rfl
  rw[hx];exact(akf k v' hr h1 h2).step
 |makeSlice t l c =>
  rw[hop] at e;simp only[opR,opK] at e
  split at e<;>try (cases e; done)
  rename_i k n el hsame hl hel
  split at e<;>try (cases e; done)
  rename_i ty hty
  split at e<;>try (cases e; done)
  rename_i hrow
  split at e<;>try (cases e; done)
  rename_i zs hzs
  split at e<;>try (cases e; done)
  rename_i z hz
  split at e<;>try (cases e; done)
  rename_i hb;simp only[dh,decide_eq_true_eq,â] at hb;cases e;obtain⟨h1,h2⟩:=hn (by rw[hop]; rfl);have hv:=ŏ H l;rw[hl] at hv;have hv:a.eval l=.int k n:=hv
  have hc:a.eval c=.int k n:=by rw[←alY (S:=S) hsame,hv]
  have hx:execOp a.eval o=(do let u ←Instr.makeSlice t (.int k n) (.int k n); pure (.value u)):=by unfold execOp; rw[hop]; simp only[hv,hc]
  rw[hx];exact(ac1 hr h1 h2 hel hrow hzs hz hb.1 hb.2).step
 |slice t x lo hi mx =>
  rw[hop] at e;simp only[opR,opK] at e
  split at e<;>try (cases e; done)
  rename_i el ht
  split at e<;>try (cases e; done)
  rename_i sz hs;rw[BA] at e;obtain⟨⟨v',h'⟩,h1,h2⟩:=Ρ e;cases h2
  have hx:execOp a.eval o=(do let u ←Instr.sliceAt t (a.eval x) (lo.map a.eval) (hi.map a.eval) none; pure (.value u)):=by unfold execOp; rw[hop]; rfl
  rw[hx];refine(apb hr ht hs h1 (ŏ H x) (fun y hy=>?_) (fun hy=>?_) (fun y hy=>?_) (fun hy=>?_)).step
  ·cases lo with
   |none=>cases hy
   |some l=>cases hy; exact⟨_,rfl,ŏ H l⟩
  ·cases lo with
   |none=>rfl
   |some l=>cases hy
  ·cases hi with
   |none=>cases hy
   |some l=>cases hy; exact⟨_,rfl,ŏ H l⟩
  ·cases hi with
   |none=>rfl
   |some l=>cases hy
 |fieldAddr t x f =>
  rw[hop] at e;simp only[opR,opK] at e
  split at e<;>try (cases e; done)
  rename_i fs ht
  split at e<;>try (cases e; done)
  rename_i fd hf
  split at e<;>try (cases e; done)
  rename_i n hs;rw[qe] at e;obtain⟨v',h1,h2⟩:=Ρ e;cases h2
  have hx:execOp a.eval o=(do let u ←Instr.fieldAt t (a.eval x) f; pure (.value u)):=by unfold execOp; rw[hop]
  rw[hx];exact(afg hr ht hf hs h1 (ŏ H x)).step
 |field t x f =>
  rw[hop] at e;simp only[opR,opK] at e;have hv:=ŏ H x
  split at e<;>try (cases e; done)
  rename_i fs cs ht hc
  split at e<;>try (cases e; done)
  rename_i fd hf
  split at e<;>try (cases e; done)
  rename_i agg n hl
  split at e<;>try (cases e; done)
  rename_i ds hg
  split at e<;>try (cases e; done)
  rename_i v' hm;cases e;rw[hc] at hv
  have hx:execOp a.eval o=(do let u ←Instr.field t (a.eval x) f; pure (.value u)):=by unfold execOp; rw[hop]
  rw[hx];exact(apZ hr ht hf hl hg hm hv).step
 |indexAddr t x i =>
  rw[hop] at e;simp only[opR,opK] at e
  have hx:execOp a.eval o=(do let u ←Instr.indexAt t (a.eval x) (a.eval i); pure (.value u)):=by unfold execOp; rw[hop]
  rw[hx]
  split at e<;>try (cases e; done)
  ·rename_i el ht
   split at e<;>try (cases e; done)
   rename_i sz hs;rw[qk] at e;obtain⟨v',h1,h2⟩:=Ρ e;cases h2;exact(apR hr ht hs h1 (ŏ H x) (ŏ H i)).step
  ·rename_i n el ht;have hv:=ŏ H x;have hi:=ŏ H i
   split at e<;>try (cases e; done)
   rename_i id off k j hx' hi'
   split at e<;>try (cases e; done)
   rename_i sz hs;rw[jl] at e;obtain⟨q,h1,h2⟩:=Ρ e;obtain⟨rfl,_,hb⟩:=JW h1;cases h2;rw[hx'] at hv;rw[hi'] at hi;have hi:a.eval i=.int k (q:Int):=hi;rw[hi];have:=(Sz hr ht (j:=(q:Int)) (k:=k) ⟨by omega,by omega⟩ hs hv).step;simpa using this
 |index t x i =>
  rw[hop] at e;simp only[opR,opK] at e
  have hx:execOp a.eval o=(do let u ←Instr.index t (a.eval x) (a.eval i); pure (.value u)):=by unfold execOp; rw[hop]
  rw[hx];have hv:=ŏ H x;have hi:=ŏ H i
  split at e<;>try (cases e; done)
  rename_i n el cs k j ht hx' hi';rw[jl] at e;obtain⟨q,h1,h2⟩:=Ρ e;obtain⟨rfl,_,hb⟩:=JW h1
  split at h2<;>try (cases h2; done)
  rename_i agg m hl
  split at h2<;>try (cases h2; done)
  rename_i ds hg
  split at h2<;>try (cases h2; done)
  rename_i v' hm;cases h2;rw[hx'] at hv;rw[hi'] at hi;have hi:a.eval i=.int k (q:Int):=hi;rw[hi];exact(ahv hr ht (j:=(q:Int)) (k:=k) ⟨by omega,by omega⟩ hl (by simpa using hg) hm hv).step
 |lookup t m i ok =>
  rw[hop] at e;simp only[opR,opK] at e;rw[nw] at e;obtain⟨v',h1,h2⟩:=Ρ e;cases h2
  have hx:execOp a.eval o=(do let u ←Instr.lookup t (a.eval m) (a.eval i) ok; pure (.value u)):=by unfold execOp; rw[hop]
  rw[hx];exact(amN hr h1 (ŏ H m) (ŏ H i)).step
 |mapUpdate t m i x =>
  rw[hop] at e;simp only[opR,opK] at e;rw[nJ] at e;obtain⟨h',h1,h2⟩:=Ρ e;cases h2
  have hx:execOp a.eval o=(do Instr.mapUpdate t (a.eval m) (a.eval i) (a.eval x); pure .skip):=by unfold execOp; rw[hop]
  rw[hx];exact abT (acZ hr h1 (ŏ H m) (ŏ H i) (ŏ H x))
 |extract x i =>
  rw[hop] at e;simp only[opR,opK] at e;have hv:=ŏ H x
  split at e<;>try (cases e; done)
  rename_i vs hvs
  split at e<;>try (cases e; done)
  rename_i v' hv';cases e;rw[hvs] at hv;obtain⟨us,hu,h2⟩:=hv;obtain⟨u,h3,h4⟩:=h2.get hv';refine ald.still hr (u:=u) (by unfold execOp; rw[hop]; simp only[hu]; simp at h3; simp[Instr.extract,h3]) ?_
  cases ht:v.isTup with
  |true =>
   cases v<;>try cases ht
   exact h4.elim
  |false=>rw[L7 ht]; exact h4
 |call c =>
  obtain⟨f,args,tys⟩:=c;rw[hop] at e
  cases f with
  |value f=>cases e
  |invoke r n=>cases e
  |builtin b =>
   simp only[opR,opK] at e
   split at e
   ·-- len
    rename_i x t rest hargs htys;rw[BT] at e;obtain⟨v',h1,h2⟩:=Ρ e;cases h2;rw[kU (S:=S) (f:=Builtin.len_) hop (fun _ _=>rfl),arr1 hargs,show Array.map a.eval #[x]=#[a.eval x] by simp]
    have ht0:tys[0]?=some t:=by rw[←gD,htys]; rfl
    exact(len_ok hr h1 (ŏ H x) ht0).step
   ·rename_i s x t t' hargs htys;obtain⟨h1,h2⟩:=hn (by rw[hop]; rfl);rw[kU (S:=S) (f:=Builtin.append_) hop (fun _ _=>rfl),arr2 hargs,arr2 htys,show Array.map a.eval #[s,x]=#[a.eval s,a.eval x] by simp]
    split at e
    ·rename_i htt;have htt:=eq_of_beq htt;subst htt;have hvx:=ŏ H x
     split at e
     ·rename_i id g hdp;rw[hdp] at hvx;rw[Jt] at e;obtain⟨⟨v',h'⟩,h3,h4⟩:=Ρ e;cases h4;exact(ar5 hr h1 h2 h3 (ŏ H s) hvx).step
     ·rw[xK] at e;obtain⟨⟨v',h'⟩,h3,h4⟩:=Ρ e;cases h4;exact(aoo hr h1 h2 h3 (ŏ H s) hvx).step
    ·split at e<;>try (cases e; done)
     rename_i hu;rw[Bx] at e;obtain⟨⟨v',h'⟩,h3,h4⟩:=Ρ e;cases h4;exact(aoT hr h1 h2 hu h3 (ŏ H s) (ŏ H x)).step
   ·rename_i x t hargs htys
    split at e<;>try (cases e; done)
    rename_i d hd;rw[Cl] at e;obtain⟨h',h1,h2⟩:=Ρ e;cases h2;rw[kU (S:=S) (f:=Builtin.clear_) hop (fun _ _=>rfl),arr1 hargs,show Array.map a.eval #[x]=#[a.eval x] by simp]
    have ht0:tys[0]?=some t:=by rw[←gD,htys]; rfl
    exact(aqf ht0 hr h1 (by rw[hd]; rfl) (ŏ H x)).step
   ·rename_i x t rest hargs htys
    split at e<;>try (cases e; done)
    rename_i el ht hx;cases e;have hv:=ŏ H x;rw[hx] at hv;have hv:a.eval x=.slice none 0 0:=hv;rw[kU (S:=S) (f:=Builtin.cap_) hop (fun _ _=>rfl),arr1 hargs]
    have ht0:tys[0]?=some t:=by rw[←gD,htys]; rfl
    exact(jk.still (v:=.int .i64 0) (u:=.int .i64 0) hr (by simp[Builtin.cap_,ht0,hv,run_underlying ht,goInt]) rfl).step
   ·rename_i x xs hargs;rw[i5] at e;obtain⟨v',h1,h2⟩:=Ρ e;cases h2;rw[kU (S:=S) (f:=Builtin.min_) hop (fun _ _=>rfl)];obtain⟨u,h3,h4⟩:=PN (P:=P) (f:=Builtin.min2) (gt:=false) (fun k p q=>apg k p q) (xs.map (ev S.t)) (xs.map a.eval) _ v (a.eval x) h1 (ŏ H x) (Č.of_map fun y _=>ŏ H y);refine(jk.still hr ?_ h4).step;simp only[Builtin.min_,gk,hargs,fh];exact h3
   ·rename_i x xs hargs;rw[i5] at e;obtain⟨v',h1,h2⟩:=Ρ e;cases h2;rw[kU (S:=S) (f:=Builtin.max_) hop (fun _ _=>rfl)];obtain⟨u,h3,h4⟩:=PN (P:=P) (f:=Builtin.max2) (gt:=true) (fun k p q=>aph k p q) (xs.map (ev S.t)) (xs.map a.eval) _ v (a.eval x) h1 (ŏ H x) (Č.of_map fun y _=>ŏ H y);refine(jk.still hr ?_ h4).step;simp only[Builtin.max_,gk,hargs,fh];exact h3
   ·cases e
 |_=>rw[hop] at e; cases e
end
end Go.Am
end

noncomputable section
namespace Go.Am
variable [ø]
def Ŗ (nid:Nat) (h h':List Blk):Prop:=∀j,j≠nid→lkB h j=.dead→lkB h' j=.dead
def Ŗ.refl (nid:Nat) (h:List Blk):Ŗ nid h h:=fun _ _ hd=>hd
def Ŗ.upd {nid id:Nat} {h:List Blk} (B:Blk) (hl:id=nid∨lkB h id≠.dead):Ŗ nid h (č h id B):=fun j hj hd=>by
 rw[õ]
 ·exact hd
 ·rintro rfl;rcases hl with rfl|hl
  ·exact hj rfl
  ·exact hl hd
def Ŗ.trans {nid:Nat} {h h' h'':List Blk} (h1:Ŗ nid h h') (h2:Ŗ nid h' h''):Ŗ nid h h'':=fun j hj hd=>h2 j hj (h1 j hj hd)
def Ŗ.upd2 {nid i j:Nat} {h:List Blk} (A B:Blk) (hi:lkB h i≠.dead) (hl:j=nid∨lkB h j≠.dead):Ŗ nid h (č (č h i A) j B):=fun m hm hd=>by
 have h1:m≠i:=fun e=>hi (by rw[←e]; exact hd);have h2:m≠j:=fun e=>hl.elim (fun q=>hm (e.trans q)) fun q=>q (by rw[←e]; exact hd);rw[õ _ h2,õ _ h1];exact hd
def Ŗ.frz {nid:Nat} {h:List Blk} (v:AV):Ŗ nid h (frz h v):=fun _ _ hd=>ai9 hd
def Ŗ.frzA {nid:Nat} {h:List Blk} (ps:List (Nat×AV)):Ŗ nid h (frzA h ps):=fun _ _ hd=>SD ps hd
def m8 {h:List Blk} {id:Nat} {B:Blk} (hl:lkB h id=B) (hB:B≠.dead):lkB h id≠.dead:=by rw[hl]; exact hB
def arS {v:AV} {id:Nat} {h:List Blk} {k u:Ty} {es:List (Val k×Val u)} (hl:lkB h id=.map k u es):lkB (frz h v) id=.map k u es:=by
 unfold frz; split
 ·exact aaZ _ hl
 ·exact ajb hl
def V0 {P:Program} {h h':List Blk} {t:TypeId} {a v:AV} {nid:Nat} (h1:xP P h t a v some=some h'):Ŗ nid h h':=by
 unfold xP at h1
 (repeat' split at h1)<;>first
  |(cases h1; done)
  |(cases h1; exact Ŗ.upd _ (.inr (m8 ‹lkB h _=.cells _› (by simp))))
  |(cases h1; exact Ŗ.upd _ (.inr (m8 ‹lkB h _=.deep _ _ _› (by simp))))
  |(cases h1; exact(Ŗ.frz _).trans (Ŗ.upd _ (.inr (m8 ‹lkB (frz h _) _=.row _ _ _ _› (by simp)))))
def amj {P:Program} {S S':St} {o:Op} {nid:Nat} {eat:Bool} {v:AV} (e:opR P S nid eat o=some (v,S')):Ŗ nid S.h S'.h:=by
 unfold opR opK at e;dsimp only at e
 (repeat' split at e)<;>first
  |(cases e; done)
  |(cases e; exact Ŗ.refl _ _)
  |(cases e; exact Ŗ.upd _ (.inl rfl))
  |(cases e; exact(Ŗ.frzA _).trans (Ŗ.upd _ (.inl rfl)))
  |(rw[vy] at e; obtain⟨v',h1,h2⟩:=Ρ e; cases h2; exact Ŗ.refl _ _)
  |(rw[Cq] at e; obtain⟨v',h1,h2⟩:=Ρ e; cases h2; exact Ŗ.refl _ _)
  |(rw[F0] at e; obtain⟨v',h1,h2⟩:=Ρ e; cases h2; exact Ŗ.refl _ _)
  |(rw[qe] at e; obtain⟨v',h1,h2⟩:=Ρ e; cases h2; exact Ŗ.refl _ _)
  |(rw[qk] at e; obtain⟨v',h1,h2⟩:=Ρ e; cases h2; exact Ŗ.refl _ _)
  |(rw[nw] at e; obtain⟨v',h1,h2⟩:=Ρ e; cases h2; exact Ŗ.refl _ _)
  |(rw[BT] at e; obtain⟨v',h1,h2⟩:=Ρ e; cases h2; exact Ŗ.refl _ _)
  |(rw[i5] at e; obtain⟨v',h1,h2⟩:=Ρ e; cases h2; exact Ŗ.refl _ _)
  |(rw[pY] at e; obtain⟨h',h1,h2⟩:=Ρ e; cases h2; exact V0 h1)
  | (rw [pY] at e; obtain ⟨h', h1, h2⟩ := Ρ e; cases h2
     exact(Ŗ.upd _ (.inr (m8 ‹lkB S.h _=.row _ _ _ _› (by simp)))).trans (V0 h1))
  | (rw [BA] at e; obtain ⟨⟨v', h'⟩, h1, h2⟩ := Ρ e; cases h2
     unfold rR at h1
     (repeat' split at h1)<;>first
      |(cases h1; done)
      |(cases h1; exact Ŗ.refl _ _)
      |(cases h1; exact Ŗ.upd _ (.inr (m8 ‹lkB S.h _=.row _ _ _ _› (by simp)))))
  | (rw [xK] at e; obtain ⟨⟨v', h'⟩, h1, h2⟩ := Ρ e; cases h2
     unfold Bt at h1
     (repeat' split at h1)<;>first
      |(cases h1; done)
      |(cases h1; exact Ŗ.upd _ (.inl rfl))
      |(cases h1; exact Ŗ.upd _ (.inr (m8 ‹lkB S.h _=.row _ _ _ _› (by simp)))))
  | (rw [Jq] at e; obtain ⟨⟨v', h'⟩, h1, h2⟩ := Ρ e; cases h2
     unfold ahH at h1
     (repeat' split at h1)<;>first
      |(cases h1; done)
      |(cases h1; exact Ŗ.upd2 _ _ (m8 ‹lkB S.h _=.row _ _ _ _› (by simp)) (.inl rfl))
      |(cases h1; exact Ŗ.upd2 _ _ (m8 ‹lkB S.h _=.deep _ _ _› (by simp)) (.inl rfl)))
  | (rw [Jt] at e; obtain ⟨⟨v', h'⟩, h1, h2⟩ := Ρ e; cases h2
     unfold afm at h1
     split at h1<;>try (cases h1; done)
     split at h1<;>try (cases h1; done)
     split at h1<;>try (cases h1; done)
     rename_i hl2
     split at h1<;>try (cases h1; done)
     (repeat' split at h1)<;>first
      |(cases h1; done)
      |(cases h1; exact Ŗ.upd2 _ _ (m8 hl2 (by simp)) (.inl rfl))
      |(cases h1; exact Ŗ.upd2 _ _ (m8 hl2 (by simp)) (.inr (m8 (by assumption) (by simp)))))
  | (rw [Bx] at e; obtain ⟨⟨v', h'⟩, h1, h2⟩ := Ρ e; cases h2
     unfold Mb at h1
     (repeat' split at h1)<;>first
      |(cases h1; done)
      |(cases h1; exact Ŗ.upd _ (.inl rfl)))
  | (rw [Cl] at e; obtain ⟨h', h1, h2⟩ := Ρ e; cases h2
     unfold M4 at h1
     (repeat' split at h1)<;>first
      |(cases h1; done)
      |(cases h1; exact Ŗ.refl _ _)
      |(cases h1; exact Ŗ.upd _ (.inr (m8 ‹lkB S.h _=.row _ _ _ _› (by simp)))))
  | (rw [jl] at e; obtain ⟨q, h1, h2⟩ := Ρ e
     (repeat' split at h2)<;>first
      |(cases h2; done)
      |(cases h2; exact Ŗ.refl _ _))
  | (rw [nJ] at e; obtain ⟨h', h1, h2⟩ := Ρ e; cases h2
     unfold lr at h1
     (repeat' split at h1)<;>first
      |(cases h1; done)
      |(cases h1; exact(Ŗ.frz _).trans (Ŗ.upd _ (.inr (m8 (arS ‹lkB S.h _=.map _ _ _›) (by simp))))))
end Go.Am
end

noncomputable section
namespace Go.Am
variable [ø]
section
variable {ρ:Type} {ν ν':Nat→Value} {h h':List Blk} {w w':World} {P:Program}
def Ev.same (hh:∀id,lkB h' id=lkB h id) (hw:w'.heap=w.heap) (h1:w'.os=w.os) (h2:w'.tape=w.tape) (h3:w'.output=w.output) (m:Nat):Ev m ν h w ν h' w' :=
 ⟨h1,h2,h3,by rw[hw]; exact dg _,fun b _ hb=>⟨by rw[hw],fun⟨id,q1,q2⟩=>hb ⟨id,by rwa [hh] at q1,q2⟩⟩,fun id _=>by rw[hh]; exact Blk.next_refl _ _ _⟩
def HR.same (H:HR ν h w) (hh:∀id,lkB h' id=lkB h id) (hw:w'.heap=w.heap) (h1:w'.os=w.os) (h2:w'.tape=w.tape) (h3:w'.output=w.output):HR ν h' w':=by
 refine⟨fun id=>?_,fun i j b q1 q2=>H.inj i j b (by rwa [hh] at q1) (by rwa [hh] at q2),fun b hb=>by rw[hw]; exact H.ghlt b hb,fun id b q1=>H.ghne id b (by rwa [hh] at q1)⟩;rw[hh];exact BR.ev (Ev.same hh hw h1 h2 h3 _) rfl (fun b _ _ _=>by rw[hw]) (H.blk id)
def Sim.same {S:St} {a:Act} (H:Sim ν S a w) (hh:∀id,lkB h' id=lkB S.h id) (hw:w'.heap=w.heap) (h1:w'.os=w.os) (h2:w'.tape=w.tape) (h3:w'.output=w.output):Sim ν {t:=S.t,h:=h'} a w' :=
 ⟨H.defers,H.len,fun i=>(H.tmps i).ev (Ev.same hh hw h1 h2 h3 _),H.heap.same hh hw h1 h2 h3⟩
def W5:∀(h:List Blk) (d:Nat),h.length≤d→lkB h d=.dead
 |[],_,_=>rfl
 |x::xs,0,h=>by simp at h
 |x::xs,d+1,h=>by simpa[lkB] using W5 xs d (by simpa using h)
def aaQ:∀(h:List Blk) (n id:Nat),lkB (h++List.replicate n .dead) id=lkB h id
 |[],0,_=>rfl
 |[],n+1,0=>rfl
 |[],n+1,id+1=>by simpa[gM,lkB] using aaQ [] n id
 |x::xs,n,0=>rfl
 |x::xs,n,id+1=>by simpa[lkB] using aaQ xs n id
abbrev fen:Fence:={Fence.wide with round:=ø.Q}
def afU (P:Program) (L:Nat) (call:List Nat→Bool→Nat→List AV→List Blk→(AV→List Blk→Option ρ)→Option ρ):Prop :=
 ∀path draw g args h (K:AV→List Blk→Option ρ) r,path.length=L→call path draw g args h K=some r→∀ν w vals,HR ν h w→Č (VR ν h w) args vals →
  (∃fn c,P.funcs[g]?=some fn∧fn.body=some c) ∧
  CallsIn Fence.wide 0 P g vals.toArray w fun e w'=>∃ν' h' v u,e=.returned u∧VR ν' h' w' v u∧HR ν' h' w'∧Ev h.length ν h w ν' h' w'∧h.length≤h'.length∧(∀j,j<h.length→lkB h j=.dead→lkB h' j=.dead)∧K v h'=some r
def Ma (P:Program) (clone:Nat→Bool):Prop :=
 ∀g,clone g=true→∀fz S nid x v S',Bm P g fz S nid x (fun v S=>some (v,S))=some (v,S')→∀ν w u,HR ν S.h w→VR ν S.h w x u→nid<S.h.length→lkB S.h nid=.dead →
  (∃fn c,P.funcs[g]?=some fn∧fn.body=some c) ∧
  CallsIn Fence.wide 0 P g #[u] w fun e w'=>∃ν' u',e=.returned u'∧VR ν' S'.h w' v u'∧HR ν' S'.h w'∧Ev S.h.length ν S.h w ν' S'.h w'∧S.h.length≤S'.h.length∧Ŗ nid S.h S'.h∧S'.t=S.t
def LS (P:Program) (g:Nat) (fz:Bool) (S:St) (nid:Nat) (x:AV) (K:AV→St→Option ρ):Bm P g fz S nid x K=(Bm P g fz S nid x fun v S=>some (v,S)).bind fun r=>K r.1 r.2:=by
 unfold Bm; (repeat' split)<;>rfl
def Aft (m:Nat) (ν:Nat→Value) (h:List Blk) (w:World) (K:St→Option ρ) (r:ρ) (a':Act) (w':World):Prop :=
 ∃ν' S',Sim ν' S' a' w'∧Ev m ν h w ν' S'.h w'∧h.length≤S'.h.length∧K S'=some r
def Aft.trans {m m':Nat} {K:St→Option ρ} {r:ρ} {a':Act} {ν ν₁:Nat→Value} {h h₁:List Blk} {w w₁ w':World} (e:Ev m ν h w ν₁ h₁ w₁) (hl:h.length≤h₁.length) (hm:m≤m') (ha:Aft m' ν₁ h₁ w₁ K r a' w'):Aft m ν h w K r a' w':=by
 obtain⟨ν',S',h1,h2,h3,h4⟩:=ha;exact⟨ν',S',h1,e.trans h2 hm,dL hl h3,h4⟩
def op_nid {S:St} {o:Op} {nid nid':Nat} {eat:Bool} {clone:Nat→Bool} (hal:đ clone o=false):opR P S nid eat o=opR P S nid' eat o:=by
 cases o<;>try first|rfl|(cases hal; done)
 rename_i c;obtain⟨f,args,tys⟩:=c
 cases f<;>try rfl
 rename_i b
 cases b<;>first|(cases hal; done)|rfl|(unfold opR opK; dsimp only; (repeat' split)<;>first|rfl|simp_all)
def agf {E : Env ρ} {call : List Nat → Bool → Nat → List AV → List Blk → (AV → List Blk → Option ρ) → Option ρ} {L : Nat} (hcall : afU E.P L call) (hP : ∀ (f : Nat) (fn : Func), E.P.funcs[f]? = some fn → (fn.name == "runtime.NumGoroutine") = false)
 (hclone:Ma E.P E.clone)
 {fid:Nat} {path:List Nat} {draw:Bool} {S:St} {a:Act} {nid:Nat} {o:Oper} {K:AV→St→Option ρ} {r:ρ} (hp:path.length=L) (H:Sim ν S a w) (hn:đ E.clone o.op=true→nid<S.h.length∧lkB S.h nid=.dead)
 (e:iH E call fid path draw S nid o K=some r) {next:Act→World→Prop} {Q:Exit→Act→World→Prop}
 (hk:∀(ν':Nat→Value) (w':World) (u:Value) (v:AV) (S':St),VR ν' S'.h w' v u→HR ν' S'.h w'→Ev S.h.length ν S.h w ν' S'.h w'→S.h.length≤S'.h.length→(∀j,j<S.h.length→j≠nid∨đ E.clone o.op=false→lkB S.h j=.dead→lkB S'.h j=.dead)→S'.t=S.t→K v S'=some r→next (a.put o.dst u) w') :
 o.wpIn fen 0 E.P a w next Q:=by
 refine⟨fun _ _=>trivial,?_⟩
 have hnd:∀c,o.op≠.defer c:=by
  intro c hc;unfold iH at e
  split at e<;>try (cases e; done)
  split at e
  ·rename_i hop;rw[hc] at hop; cases hop
  ·rw[hc] at e;cases e
 rw[Oper.semAt_eq _ _ _ hnd]
 have plain:∀v S',opR E.P S nid (aa9 E draw fid o) o.op=some (v,S')→K v S'=some r→o.uponIn fen 0 E.P a next Q ((execOp a.eval o).run E.P w):=by
  intro v S' h1 h2;obtain⟨ν',w',u,h3,h4,h5,h6,h7,h8⟩:=apu (clone:=E.clone) H hn h1
  have:=hk ν' w' u v S' h4 h5 h6 (Nat.le_of_eq h7.symm) (fun j _ hj hd=>by
   rcases hj with hj|hal
   ·exact amj h1 j hj hd
   ·rw[op_nid (nid':=j+1) hal] at h1
    exact amj h1 j (by omega) hd) h8 h2
  rcases h3 with h3|⟨h3,rfl⟩
  ·rw[h3]; exact this
  ·rw[h3]; exact this
 unfold iH at e
 split at e<;>try (cases e; done)
 split at e
 ·rename_i f args tys hop
  split at e<;>try (cases e; done)
  rename_i g first caps hf;have hfv:=ŏ H f;rw[hf] at hfv;obtain⟨fs,cs,hfe,hfirst,hcaps⟩:=hfv
  split at e
  ·rename_i hcl
   split at e<;>try (cases e; done)
   rename_i x hargs;rw[LS] at e;obtain⟨⟨v,S'⟩,h1,h2⟩:=Ρ e;simp only[dh] at hcl;obtain⟨hcl,hlit⟩:=hcl
   have hfg:f=.func g:=by
    cases f<;>try (cases hlit; done)
    simp only[ev] at hf
    injection hf with q1
    injection q1 with q1
    rw[q1]
   subst hfg;obtain⟨hn1,hn2⟩:=hn (by rw[hop]; exact hcl);obtain⟨⟨fn,c,hfn,hbody⟩,hc⟩:=hclone g hcl _ S nid _ v S' h1 ν w _ H.heap (ŏ H x) hn1 hn2
   have hx:(execOp a.eval o).run E.P w=.ok (.enter g #[a.eval x]) w:=by
    unfold execOp;rw[hop,arr1 hargs];simp only[resolve,Act.eval,Deferred.ofValue,pure_bind,invoke,callFunc,Sem.run_bind,run_program,Result.andThen_ok,hfn,hP g fn hfn,hbody];simp only[Bool.false_eq_true,if_false,Option.isNone_some];show Result.ok (Next.enter g _) w=_;congr 2;apply Array.ext'
    cases x<;>simp[Act.eval]
   rw[hx,Oper.uponIn_enter];refine⟨fun hf=>(by cases hf),hc.mono fun e' w' hw=>?_⟩;obtain⟨ν',u',rfl,g1,g2,g3,g4,g6,g5⟩:=hw;exact hk ν' w' u' v S' g1 g2 g3 g4 (fun j _ hj hd=>g6 j (hj.resolve_right (by rw[hop]; exact fun hf=>by rw[show đ E.clone (.call ⟨.value (.func g),args,tys⟩)=E.clone g from rfl,hcl] at hf; cases hf)) hd) g5 h2
  ·rename_i hcl
   have hargs:Č (VR ν S.h w) (first++(args.toList.map (ev S.t)++caps)) (fs.toList++(args.toList.map a.eval++cs.toList)) :=
    (hfirst.mono fun _ _ q=>q.up.up).append ((Č.of_map fun x _=>ŏ H x).append (hcaps.mono fun _ _ q=>q.up.up))
   obtain⟨⟨fn,c,hfn,hbody⟩,hc⟩:=hcall path draw g _ _ _ r hp e ν w _ H.heap hargs
   have hx:(execOp a.eval o).run E.P w=.ok (.enter g (fs.toList++(args.toList.map a.eval++cs.toList)).toArray) w:=by
    unfold execOp;rw[hop];simp only[resolve,hfe,Deferred.ofValue,pure_bind,invoke,callFunc,Sem.run_bind,run_program,Result.andThen_ok,hfn,hP g fn hfn,hbody];simp only[Bool.false_eq_true,if_false,Option.isNone_some];show Result.ok (Next.enter g _) w=_;congr 2;apply Array.ext';simp
   rw[hx,Oper.uponIn_enter];refine⟨fun hf=>(by cases hf),hc.mono fun e' w' hw=>?_⟩;obtain⟨ν',h',v,u,rfl,h1,h2,h3,h4,h6,h5⟩:=hw;exact hk ν' w' u v {t:=S.t,h:=h'} h1 h2 h3 h4 (fun j hj _ hd=>h6 j hj hd) rfl h5
 ·rename_i op hne;rw[Yj] at e;obtain⟨⟨v,S'⟩,h1,h2⟩:=Ρ e;exact plain v S' h1 h2
def F2:∀(t:List AV) (d:Nat),upd t d (lk t d)=t
 |[],_=>rfl
 |_::_,0=>rfl
 |x::t,d+1=>by simp[upd,lk,F2 t d]
def aqG (n nid:Nat) (h:List Blk):Prop:=∀j,nid≤j→j<nid+n→j<h.length∧lkB h j=.dead
def nV {clone:Nat→Bool} {o:Oper} {os:List Oper}:iZ clone (o::os)=bif đ clone o.op then iZ clone os+1 else iZ clone os:=rfl
def Xi {all:List Oper} {o:Oper} {j:Nat} {want:Bool}:∀{l:List Oper},tc all l=true→o∈l→o.guard=some (j,want)→∃p d,all[j]?=some p∧p.dst=some d
 |[],_,hm,_=>by cases hm
 |x::l,hg,hm,he=>by
  simp only[tc,dh] at hg;rcases dm.1 hm with rfl|hm
  ·have h1:=hg.1;rw[he] at h1;simp only at h1
   split at h1
   ·rename_i p hp;obtain⟨d,hd⟩:=gR.1 h1;exact⟨p,d,hp,hd⟩
   ·cases h1
  ·exact Xi hg.2 hm he
def ajS {ops:Array Oper} {tmps:Array Value} {j d:Nat} {p:Oper} (hp:ops.toList[j]?=some p) (hd:p.dst=some d) :
 (∀b,tmps.getD d undef=.bool b→yielded ops tmps j=some b)∧(tmps.getD d undef=undef→yielded ops tmps j=none):=by
 have hp':ops[j]?=some p:=by simpa using hp
 constructor
 ·intro b hb;unfold yielded;rw[hp'];simp only[Option.bind_some,hd]
  cases ht:tmps[d]? with
  |none=>simp[dY,ht,undef] at hb
  |some v=>simp[dY,ht] at hb; subst hb; rfl
 ·intro hb;unfold yielded;rw[hp'];simp only[Option.bind_some,hd]
  cases ht:tmps[d]? with
  |none=>rfl
  |some v=>simp[dY,ht] at hb; subst hb; rfl
def qq (E:Env ρ) (call:List Nat→Bool→Nat→List AV→List Blk→(AV→List Blk→Option ρ)→Option ρ) (fid:Nat) (path:List Nat) (draw:Bool) (all:List Oper) (i nid:Nat) (o:Oper) (S:St) (K:St→Option ρ):Option ρ :=
 match o.guard with
 |none=>iH E call fid (path++[i]) draw S nid o fun v S=>K {t:=ÿ S.t o.dst v,h:=S.h}
 |some (j,want)=>match lk S.t (pK all j) with
  |.bool b=>match b==want with
   |true=>iH E call fid (path++[i]) draw S nid o fun v S=>K {t:=ÿ S.t o.dst v,h:=S.h}
   |false=>K {t:=ÿ S.t o.dst .und,h:=S.h}
  |.und=>K {t:=ÿ S.t o.dst .und,h:=S.h}
  |_=>none
def ame {E:Env ρ} {call:List Nat→Bool→Nat→List AV→List Blk→(AV→List Blk→Option ρ)→Option ρ} {fid:Nat} {path:List Nat} {draw:Bool} {all:List Oper} {o:Oper} {os:List Oper} {i nid:Nat} {S:St} {K:St→Option ρ} :
 aj9 E call fid path draw all (o::os) i nid S K=qq E call fid path draw all i nid o S fun S'=>aj9 E call fid path draw all os (i+1) (bif đ E.clone o.op then nid+1 else nid) S' K:=by
 simp only[aj9,qq]
 have hself:∀d b,lk S.t d=.bool b→({t:=upd S.t d (.bool b),h:=S.h}:St)=S:=fun d b hb=>by rw[←hb,F2]
 have htself:∀d b,lk S.t d=.bool b→upd S.t d (.bool b)=S.t:=fun d b hb=>by rw[←hb,F2]
 cases o.guard with
 |none=>rfl
 |some g =>
  obtain⟨j,want⟩:=g;simp only
  cases hb:lk S.t (pK all j)<;>try rfl
  rename_i b;have h1:=hself _ b hb;have h2:=htself _ b hb
  cases b<;>cases want<;>simp only[h1,h2]<;>rfl
def Pe {E : Env ρ} {call : List Nat → Bool → Nat → List AV → List Blk → (AV → List Blk → Option ρ) → Option ρ} {L : Nat} (hcall : afU E.P L call) (hP : ∀ (f : Nat) (fn : Func), E.P.funcs[f]? = some fn → (fn.name == "runtime.NumGoroutine") = false)
 (hclone:Ma E.P E.clone) {fid:Nat} {path:List Nat} {draw:Bool} {ops:Array Oper} (hg:tc ops.toList ops.toList=true)
 {S:St} {a:Act} {nid i:Nat} {o:Oper} {K:St→Option ρ} {r:ρ} (hp:path.length+1=L) (ho:ops[i]?=some o) (H:Sim ν S a w) (hn:đ E.clone o.op=true→nid<S.h.length∧lkB S.h nid=.dead)
 (e:qq E call fid path draw ops.toList i nid o S K=some r) {next:Act→World→Prop} {Q:Exit→Act→World→Prop}
 (hk:∀(ν':Nat→Value) (w':World) (u:Value) (v:AV) (S':St),VR ν' S'.h w' v u→HR ν' S'.h w'→Ev S.h.length ν S.h w ν' S'.h w'→S.h.length≤S'.h.length→(∀j,j<S.h.length→j≠nid∨đ E.clone o.op=false→lkB S.h j=.dead→lkB S'.h j=.dead)→S'.t=S.t →
  K {t:=ÿ S'.t o.dst v,h:=S'.h}=some r→next (a.put o.dst u) w') :
 wpOpIn fen 0 E.P ops Q i next a w:=by
 have run:iH E call fid (path++[i]) draw S nid o (fun v S=>K {t:=ÿ S.t o.dst v,h:=S.h})=some r →
  o.wpIn fen 0 E.P a w next Q:=fun h1=>agf hcall hP hclone (by simpa using hp) H hn h1 hk
 -- it is left out
 have skip:K {t:=ÿ S.t o.dst .und,h:=S.h}=some r→next (a.put o.dst undef) w :=
  fun h1=>hk ν w undef .und S rfl H.heap (Ev.refl _ _ _ _) (dg _) (fun _ _ _ hd=>hd) rfl h1
 have hmem:o∈ops.toList:=by
  have:ops.toList[i]?=some o:=by simpa using ho
  exact dl this
 unfold wpOpIn;rw[ho];simp only[qq] at e
 split at e
 ·rename_i hgd
  have hw:Region.wanted o (yielded ops a.tmps)=true:=by simp[Region.wanted,hgd]
  simp only[hw,if_true];exact run e
 ·rename_i j want hgd;obtain⟨p,d,hp,hd⟩:=Xi hg hmem hgd;obtain⟨hy1,hy2⟩:=ajS (tmps:=a.tmps) hp hd
  have hslot:pK ops.toList j=d:=by simp[pK,hp,hd]
  rw[hslot] at e;have hv:=H.tmps d
  split at e
  ·rename_i b hb;rw[hb] at hv;have hyb:=hy1 b hv
   split at e
   ·rename_i hbw
    have hw:Region.wanted o (yielded ops a.tmps)=true:=by
     simp only[beq_iff_eq] at hbw;simp[Region.wanted,hgd,hyb,hbw]
    simp only[hw,if_true];exact run e
   ·rename_i hbw
    have hw:Region.wanted o (yielded ops a.tmps)=false:=by
     simp only[beq_eq_false_iff_ne] at hbw;simpa[Region.wanted,hgd,hyb] using hbw
    simp only[hw,dw,if_false];exact⟨fun _ _=>trivial,skip e⟩
  ·rename_i hb;rw[hb] at hv
   have hw:Region.wanted o (yielded ops a.tmps)=false:=by simp[Region.wanted,hgd,hy2 hv]
   simp only[hw,dw,if_false];exact⟨fun _ _=>trivial,skip e⟩
  ·cases e
def amd {E : Env ρ} {call : List Nat → Bool → Nat → List AV → List Blk → (AV → List Blk → Option ρ) → Option ρ} {L : Nat} (hcall : afU E.P L call) (hP : ∀ (f : Nat) (fn : Func), E.P.funcs[f]? = some fn → (fn.name == "runtime.NumGoroutine") = false)
 (hclone:Ma E.P E.clone) {fid:Nat} {path:List Nat} {draw:Bool} {ops:Array Oper} (hg:tc ops.toList ops.toList=true)
 {S:St} {a:Act} {nid i:Nat} {o:Oper} {os:List Oper} {K:St→Option ρ} {r:ρ} (hp:path.length+1=L) (ho:ops[i]?=some o) (H:Sim ν S a w) (hn:aqG (iZ E.clone (o::os)) nid S.h)
 (e:aj9 E call fid path draw ops.toList (o::os) i nid S K=some r) {next:Act→World→Prop} {Q:Exit→Act→World→Prop}
 (hk:∀(ν':Nat→Value) (w':World) (u:Value) (v:AV) (S':St),VR ν' S'.h w' v u→HR ν' S'.h w'→Ev S.h.length ν S.h w ν' S'.h w'→S.h.length≤S'.h.length→aqG (iZ E.clone os) (bif đ E.clone o.op then nid+1 else nid) S'.h→(∀j,j<S.h.length→j<nid→lkB S.h j=.dead→lkB S'.h j=.dead)→S'.t=S.t →
  aj9 E call fid path draw ops.toList os (i+1) (bif đ E.clone o.op then nid+1 else nid) {t:=ÿ S'.t o.dst v,h:=S'.h} K=some r→next (a.put o.dst u) w') :
 wpOpIn fen 0 E.P ops Q i next a w:=by
 have hn0:đ E.clone o.op=true→nid<S.h.length∧lkB S.h nid=.dead:=fun hal=>hn nid (dg _) (by rw[nV,hal]; simp)
 have hrest:aqG (iZ E.clone os) (bif đ E.clone o.op then nid+1 else nid) S.h:=fun j h1 h2=>by
  cases hal:đ E.clone o.op with
  |true=>rw[hal] at h1 h2; exact hn j (by simp at h1; omega) (by rw[nV,hal]; simp at h2 ⊢; omega)
  |false=>rw[hal] at h1 h2; exact hn j (by simpa using h1) (by rw[nV,hal]; simpa using h2)
 rw[ame] at e;refine Pe hcall hP hclone hg hp ho H hn0 e fun ν' w' u v S' g1 g2 g3 g4 g5 g6 g7=>hk ν' w' u v S' g1 g2 g3 g4 (fun j h2 h3=>?_) (fun j hj hlt hd=>g5 j hj (.inl (by omega)) hd) g6 g7;obtain⟨h4,h5⟩:=hrest j h2 h3;refine⟨by omega,g5 j h4 ?_ h5⟩
 cases hal:đ E.clone o.op with
 |true=>left; rw[hal] at h2; simp at h2; omega
 |false=>exact .inr rfl
end
end Go.Am
end

noncomputable section
namespace Go.Am
variable [ø]
section
variable {ρ:Type} {ν ν':Nat→Value} {h h':List Blk} {w w':World} {P:Program}
def Dd (m:Nat) (h h':List Blk):Prop:=∀j,j<m→lkB h j=.dead→lkB h' j=.dead
def Dd.refl (m:Nat) (h:List Blk):Dd m h h:=fun _ _ hd=>hd
def Dd.trans {m m':Nat} {h h' h'':List Blk} (h1:Dd m h h') (h2:Dd m' h' h'') (hm:m≤m'):Dd m h h'':=fun j hj hd=>h2 j (dI hj hm) (h1 j hj hd)
def alp (m:Nat) (ν:Nat→Value) (h:List Blk) (w:World) (K:Exit→St→Option ρ) (r:ρ) (e:Exit) (a':Act) (w':World):Prop :=
 ∃ν' S',Sim ν' S' a' w'∧Ev m ν h w ν' S'.h w'∧m≤S'.h.length∧Dd m h S'.h∧K e S'=some r
def alp.trans {m m':Nat} {K:Exit→St→Option ρ} {r:ρ} {e:Exit} {a':Act} {ν₁:Nat→Value} {h₁:List Blk} {w₁:World} (ev:Ev m ν h w ν₁ h₁ w₁) (hd:Dd m h h₁) (hm:m≤m') (ha:alp m' ν₁ h₁ w₁ K r e a' w'):alp m ν h w K r e a' w':=by
 obtain⟨ν',S',h1,h2,h3,h4,h5⟩:=ha;exact⟨ν',S',h1,ev.trans h2 hm,dL hm h3,hd.trans h4 hm,h5⟩
def aoG (E:Env ρ) (call:List Nat→Bool→Nat→List AV→List Blk→(AV→List Blk→Option ρ)→Option ρ):Prop :=
 (∀path draw g args h K,call path draw g args h K=none) ∨
 ((∀ f p, E.pure f = some p → ∀ path draw args h K, call path draw f args h K = XZ (draw && !E.fz f) p h args K) ∧
  (∀f,E.pure f=none→E.sort f=true→∀path draw args h K,call path draw f args h K=match args with|[x]=>XQ h x K|_=>none) ∧
  (∀f,E.pure f=none→E.sort f=false→E.compact f=true→∀path draw args h K,call path draw f args h K=match args with|[x]=>pS h x K|_=>none))
def NormOk (m:Nat) (N:St→Option St):Prop:=∀(S S':St) (ν:Nat→Value) (a:Act) (w:World),N S=some S'→Sim ν S a w→m≤S.h.length→∃ν',Sim ν' S' a w∧Ev m ν S.h w ν' S'.h w∧m≤S'.h.length∧Dd m S.h S'.h
def ajO (E:Env ρ):Prop:=∀path fid rid m J,E.joins path fid rid m=some J→∃N,NormOk m N∧∀body rest,J body rest=body (fun S=>match N S with|some S'=>rest S'|none=>none)
def iM {E:Env ρ} (h:E.joins=fun _ _ _ _=>none):ajO E:=by
 intro path fid rid m J e;rw[h] at e;cases e
structure mB (E:Env ρ) (L:Nat) (call:List Nat→Bool→Nat→List AV→List Blk→(AV→List Blk→Option ρ)→Option ρ):Prop where
 pureEq:aoG E call
 call:afU E.P L call
 plain : ∀ (f : Nat) (fn : Func), E.P.funcs[f]? = some fn → (fn.name == "runtime.NumGoroutine") = false
 clone:Ma E.P E.clone
 joins:ajO E
def acH {E:Env ρ} {call:List Nat→Bool→Nat→List AV→List Blk→(AV→List Blk→Option ρ)→Option ρ} {L:Nat} (hE:mB E L call) {fid:Nat} {path:List Nat} {draw:Bool} {ops:Array Oper} (hp:path.length+1=L) (hg:tc ops.toList ops.toList=true)
 {K:St→Option ρ} {r:ρ} {Q:Exit→Act→World→Prop} {m:Nat}:∀(os:List Oper) (i nid:Nat) (S:St) (a:Act) (ν:Nat→Value) (w:World),(∀k,os[k]?=ops[i+k]?)→Sim ν S a w→aqG (iZ E.clone os) nid S.h→m≤nid→m≤S.h.length →
  aj9 E call fid path draw ops.toList os i nid S K=some r →
  (∀ν' S' a' w',Sim ν' S' a' w'→Ev m ν S.h w ν' S'.h w'→m≤S'.h.length→Dd m S.h S'.h→K S'=some r→Q .normal a' w') →
  wpOpsIn fen 0 E.P ops Q (List.range' i os.length) a w
 |[],i,nid,S,a,ν,w,_,H,_,_,hm,e,hQ=>hQ ν S a w H (Ev.refl _ _ _ _) hm (Dd.refl _ _) e
 |o::os,i,nid,S,a,ν,w,ho,H,hn,hmn,hm,e,hQ=>by
  rw[dn,List.range'_succ,wpOpsIn_cons]
  have ho0:ops[i]?=some o:=by have:=ho 0; simpa using this.symm
  refine amd hE.call hE.plain hE.clone hg hp ho0 H hn e fun ν' w' u v S' h1 h2 h3 h4 h5 h8 h6 h7=>?_;have hput:=H.put h3 h2 o.dst h1
  refine acH hE hp hg os (i+1) _ {t:=ÿ S'.t o.dst v,h:=S'.h} _ ν' w' (fun k=>by have:=ho (k+1); rw[show i+1+k=i+(k+1) by omega]; simpa using this) (by rw[h6]; exact hput) h5 (by cases đ E.clone o.op<;>simp<;>omega) (by simp; omega) h7
   fun ν'' S'' a'' w'' g1 g2 g3 g4 g5=>hQ ν'' S'' a'' w'' g1 ((h3.mono hm).trans g2 (dg _)) g3 (fun j hj hd=>g4 j hj (h8 j (by omega) (by omega) hd)) g5
def agk {E:Env ρ} {call:List Nat→Bool→Nat→List AV→List Blk→(AV→List Blk→Option ρ)→Option ρ} {L:Nat} (hE:mB E L call) {fid rid:Nat} {path:List Nat} {ops:Array Oper} {S:St} {a:Act} {K:Exit→St→Option ρ} {r:ρ} {m:Nat} (hp:path.length+1=L)
 (e:Po E call fid path false ops.toList S (K .normal)=some r) (H:Sim ν S a w) (hm:m≤S.h.length):(Code.region rid ops false).wpIn fen 0 E.P (alp m ν S.h w K r) a w:=by
 unfold Po at e
 split at e<;>try (cases e; done)
 rename_i hg;simp only[Bool.false_and,Bool.false_or,fB] at hg;apply wpIn_region;have hpre:=fun id=>aaQ S.h (iZ E.clone ops.toList) id;have H1:Sim ν {t:=S.t,h:=S.h++List.replicate (iZ E.clone ops.toList) .dead} a w:=H.same hpre rfl rfl rfl rfl;have ev0:Ev m ν S.h w ν (S.h++List.replicate (iZ E.clone ops.toList) .dead) w:=Ev.same hpre rfl rfl rfl rfl m
 have:=acH (m:=m) (Q:=alp m ν S.h w K r) hE hp hg ops.toList 0 S.h.length _ a ν w (fun k=>by simp) H1 (fun j h1 h2=>⟨by simp; omega,by simp only[hpre]; exact W5 _ _ h1⟩) hm (by simp; omega) e
  (fun ν' S' a' w' g1 g2 g3 g4 g5=>⟨ν',S',g1,ev0.trans g2 (dg _),g3,fun j hj hd=>g4 j hj (by simp only[hpre]; exact hd),g5⟩)
 rw[List.range_eq_range'];simpa using this
def mV (E:Env ρ) (L:Nat) (call:List Nat→Bool→Nat→List AV→List Blk→(AV→List Blk→Option ρ)→Option ρ):Prop :=
 ∀(fid rid:Nat) (path:List Nat) (ops:Array Oper) (S:St) (a:Act) (K:Exit→St→Option ρ) (r:ρ) (m:Nat) (ν:Nat→Value) (w:World),path.length+1=L →
  Po E call fid path true ops.toList S (K .normal)=some r→Sim ν S a w→m≤S.h.length→(Code.region rid ops true).wpIn fen 0 E.P (alp m ν S.h w K r) a w
def drawn:Code→Bool
 |.region _ _ d=>d
 |.seq a b=>drawn a||drawn b
 |.cond _ a b=>drawn a||drawn b
 |.block _ b=>drawn b
 |.scope b=>drawn b
 |_=>false
def noGoto (Q:Exit→Act→World→Prop):Exit→Act→World→Prop
 |.goto _,_,_=>False
 |e,a,w=>Q e a w
section
variable {F:Fence} {n:Nat} {P:Program} {Q:Exit→Act→World→Prop} {a:Act} {w:World}
def mW {b:Frame} {k:List Item} {cs:List Frame} {c:Code}:step P (lone (b.atR a (.code (.scope c)::k)) cs w)=.next (lone (b.atR a (.code c::.inScope c::k)) cs w) :=
 step_lone_go (by simp[stepG,stepG.exec,Frame.atR])
def XK {b:Frame} {k:List Item} {cs:List Frame} {c:Code}:step P (lone (b.atR a (.inScope c::k)) cs w)=.next (lone (b.atR a k) cs w) :=
 step_lone_go (by simp[stepG,stepG.exec,Frame.atR])
def ajT {c:Code} (h:c.wpIn F n P (noGoto Q) a w):(Code.scope c).wpIn F n P Q a w:=by
 intro b k cs hro hb hr;have h0:(lone (b.atR a (.code (.scope c)::k)) cs w).fenced P F:=fenced_calm hb hr rfl;obtain⟨e,a₁,w₁,hq,harr⟩:=h b (.inScope c::k) cs hro hb hr
 cases e with
 |normal=>exact⟨.normal,a₁,w₁,hq,.head h0 mW (StepsIn.trans harr (.one (fenced_calm hb hr rfl) XK))⟩
 |exit id =>
  have hx:exitTo id (.inScope c::k)=exitTo id k:=by simp[exitTo]
  exact⟨.exit id,a₁,w₁,hq,fun k' hk=>.head h0 mW (harr.1 k' (by rw[hx]; exact hk)),
   fun hr' hk=>let ⟨k₁,h1,h2⟩:=harr.2 hr' (by rw[hx]; exact hk); ⟨k₁,h1,.head h0 mW h2⟩⟩
 |goto l=>exact hq.elim
 |ret=>exact⟨_,a₁,w₁,hq,.of_steps (.one h0 mW) harr⟩
 |panic ch=>exact⟨_,a₁,w₁,hq,.of_steps (.one h0 mW) harr⟩
 |outgrown=>exact⟨_,a₁,w₁,hq,.of_steps (.one h0 mW) harr⟩
end
def rL (E:Env ρ) (path:List Nat) (fid bid:Nat) (b:Code):Prop :=
 ∀(m:Nat) (S:St) (K:Exit→St→Option ρ) (r:ρ) (ν:Nat→Value) (a:Act) (w:World),E.loops path fid bid m S K=some r→Sim ν S a w→m≤S.h.length→(Code.loop b).wpIn fen 0 E.P (alp m ν S.h w K r) a w
def LD {E:Env ρ} {call:List Nat→Bool→Nat→List AV→List Blk→(AV→List Blk→Option ρ)→Option ρ} {L:Nat} (hE:mB E L call) {fid:Nat} {path:List Nat} (hp:path.length+2=L) {m:Nat} {r:ρ}:∀(c:Code) (bid:Nat) (S:St) (K:Exit→St→Option ρ) (ν:Nat→Value) (a:Act) (w:World),
 (drawn c=true→mV E L call)→(∀x∈í bid c,rL E path fid x.1 x.2)→goC E call fid path m bid c S K=some r→Sim ν S a w→m≤S.h.length→c.wpIn fen 0 E.P (alp m ν S.h w K r) a w:=by
 intro c
 induction c with
 |skip=>exact fun bid S K ν a w _ _ e H hm=>wpIn_skip ⟨ν,S,H,Ev.refl _ _ _ _,hm,Dd.refl _ _,e⟩
 |label l=>exact fun bid S K ν a w _ _ e H hm=>wpIn_label ⟨ν,S,H,Ev.refl _ _ _ _,hm,Dd.refl _ _,e⟩
 |exit id=>exact fun bid S K ν a w _ _ e H hm=>wpIn_exit ⟨ν,S,H,Ev.refl _ _ _ _,hm,Dd.refl _ _,e⟩
 |ret=>exact fun bid S K ν a w _ _ e H hm=>wpIn_ret ⟨ν,S,H,Ev.refl _ _ _ _,hm,Dd.refl _ _,e⟩
 |region rid ops draw =>
  intro bid S K ν a w hD _ e H hm;simp only[goC,anh] at e
  cases draw with
  |false=>exact agk hE (by simpa using hp) e H hm
  |true=>exact hD rfl fid rid _ ops S a K r m ν w (by simpa using hp) e H hm
 |seq x y ihx ihy =>
  intro bid S K ν a w hD hL e H hm;simp only[goC] at e
  cases hj:E.joins path fid (SB y) m with
  |none =>
   rw[hj] at e;simp only at e;refine wpIn_seq (wpIn_mono (ihx bid S _ ν a w (fun h=>hD (by simp[drawn,h])) (fun z hz=>hL z (eM _ hz)) e H hm) fun e' a' w' ha=>?_);obtain⟨ν',S',h1,h2,h3,h4,h5⟩:=ha
   cases e' with
   |normal =>
    exact wpIn_mono (ihy bid S' K ν' a' w' (fun h=>hD (by simp[drawn,h])) (fun z hz=>hL z (ee _ hz)) h5 h1 h3) fun e'' a'' w'' ha=>ha.trans h2 h4 (dg _)
   |exit id=>exact⟨ν',S',h1,h2,h3,h4,h5⟩
   |goto l=>exact⟨ν',S',h1,h2,h3,h4,h5⟩
   |ret=>exact⟨ν',S',h1,h2,h3,h4,h5⟩
   |panic ch=>exact⟨ν',S',h1,h2,h3,h4,h5⟩
   |outgrown=>exact⟨ν',S',h1,h2,h3,h4,h5⟩
  |some J =>
   rw[hj] at e;simp only at e;obtain⟨N,hN,hJ⟩:=hE.joins _ _ _ _ _ hj;rw[hJ] at e;refine wpIn_seq (wpIn_mono (ihx bid S _ ν a w (fun h=>hD (by simp[drawn,h])) (fun z hz=>hL z (eM _ hz)) e H hm) fun e' a' w' ha=>?_);obtain⟨ν',S',h1,h2,h3,h4,h5⟩:=ha
   cases e' with
   |normal =>
    simp only at h5
    split at h5<;>try (cases h5; done)
    rename_i S'' hn;obtain⟨ν'',g1,g2,g3,g4⟩:=hN S' S'' ν' a' w' hn h1 h3;exact wpIn_mono (ihy bid S'' K ν'' a' w' (fun h=>hD (by simp[drawn,h])) (fun z hz=>hL z (ee _ hz)) h5 g1 g3) fun e'' a'' w'' ha=>ha.trans (h2.trans g2 (dg _)) (h4.trans g4 (dg _)) (dg _)
   |exit id=>exact⟨ν',S',h1,h2,h3,h4,h5⟩
   |goto l=>exact⟨ν',S',h1,h2,h3,h4,h5⟩
   |ret=>exact⟨ν',S',h1,h2,h3,h4,h5⟩
   |panic ch=>exact⟨ν',S',h1,h2,h3,h4,h5⟩
   |outgrown=>exact⟨ν',S',h1,h2,h3,h4,h5⟩
 |cond c x y ihx ihy =>
  intro bid S K ν a w hD hL e H hm;simp only[goC] at e
  split at e<;>try (cases e; done)
  rename_i b hb;have hv:=ŏ H c;rw[hb] at hv;have hv:a.eval c=.bool b:=hv
  split at e
  ·exact wpIn_cond_true hv (ihx bid S K ν a w (fun h=>hD (by simp[drawn,h])) (fun z hz=>hL z (eM _ hz)) e H hm)
  ·exact wpIn_cond_false hv (ihy bid S K ν a w (fun h=>hD (by simp[drawn,h])) (fun z hz=>hL z (ee _ hz)) e H hm)
 |block id b ih =>
  intro bid S K ν a w hD hL e H hm;simp only[goC] at e;refine wpIn_block (wpIn_mono (ih id S _ ν a w (fun h=>hD (by simpa[drawn] using h)) hL e H hm) fun e' a' w' ha=>?_);obtain⟨ν',S',h1,h2,h3,h4,h5⟩:=ha
  cases e' with
  |exit j =>
   simp only[Exit.inBlock];simp only at h5
   split at h5
   ·rename_i hj;rw[if_pos (eq_of_beq hj)];exact⟨ν',S',h1,h2,h3,h4,h5⟩
   ·rename_i hj
    have:¬j=id:=by simpa using hj
    rw[if_neg this];exact⟨ν',S',h1,h2,h3,h4,h5⟩
  |normal=>exact⟨ν',S',h1,h2,h3,h4,h5⟩
  |goto l=>exact⟨ν',S',h1,h2,h3,h4,h5⟩
  |ret=>exact⟨ν',S',h1,h2,h3,h4,h5⟩
  |panic ch=>exact⟨ν',S',h1,h2,h3,h4,h5⟩
  |outgrown=>exact⟨ν',S',h1,h2,h3,h4,h5⟩
 |loop b ih =>
  intro bid S K ν a w hD hL e H hm;simp only[goC] at e;exact hL (bid,b) (by simp[í]) m S K r ν a w e H hm
 |scope b ih =>
  intro bid S K ν a w hD hL e H hm;simp only[goC] at e;refine ajT (wpIn_mono (ih bid S _ ν a w (fun h=>hD (by simpa[drawn] using h)) hL e H hm) fun e' a' w' ha=>?_);obtain⟨ν',S',h1,h2,h3,h4,h5⟩:=ha
  cases e' with
  |goto l=>cases h5
  |normal=>exact⟨ν',S',h1,h2,h3,h4,h5⟩
  |exit id=>exact⟨ν',S',h1,h2,h3,h4,h5⟩
  |ret=>exact⟨ν',S',h1,h2,h3,h4,h5⟩
  |panic ch=>exact⟨ν',S',h1,h2,h3,h4,h5⟩
  |outgrown=>exact⟨ν',S',h1,h2,h3,h4,h5⟩
 |_=>intro bid S K ν a w hD hL e H hm; cases e
def mi {E:Env ρ} {call:List Nat→Bool→Nat→List AV→List Blk→(AV→List Blk→Option ρ)→Option ρ} {L:Nat} (hE:mB E L call) (hD:mV E L call) {fid:Nat} {path:List Nat} (hp:path.length+2=L) {m:Nat} {r:ρ} (c:Code) (bid:Nat) (S:St) (K:Exit→St→Option ρ) (ν:Nat→Value) (a:Act) (w:World)
 (hL:∀x∈í bid c,rL E path fid x.1 x.2) (e:goC E call fid path m bid c S K=some r) (H:Sim ν S a w) (hm:m≤S.h.length):c.wpIn fen 0 E.P (alp m ν S.h w K r) a w :=
 LD hE hp c bid S K ν a w (fun _=>hD) hL e H hm
end
end Go.Am
end

noncomputable section
namespace Go.Am
variable [ø]
section
variable {ρ:Type} {ν ν':Nat→Value} {h h':List Blk} {w w':World} {P:Program}
def aoE:Prop:=∀(T:Tpl) (pin:Nat) (cs vs:List Ty) (S:St) (p:Val (tyL cs)) (v:Val (tyL vs)) (ν:Nat→Value) (a:Act) (w:World),Db T pin cs vs S=some (p,v)→Sim ν S a w →
 ∃ν',Sim ν' (jA T cs vs p v) a w∧Ev pin ν S.h w ν' (jA T cs vs p v).h w∧pin≤(jA T cs vs p v).h.length∧Dd pin S.h (jA T cs vs p v).h
def Xo:∀(l:List (Exit×Tpl×List Ty)) (e:Exit) (i j:Nat),apX l e i=some j→∃x,i≤j∧l[j-i]?=some x∧OH x.1 e=true
 |[],_,_,_,h=>by cases h
 |x::l,e,i,j,h=>by
  unfold apX at h
  split at h
  ·rename_i hs;cases h;exact⟨x,dg _,by simp,hs⟩
  ·obtain⟨y,h1,h2,h3⟩:=Xo l e (i+1) j h;refine⟨y,by omega,?_,h3⟩;rw[show j-i=(j-(i+1))+1 by omega];simpa using h2
def age {a b:Exit} (h:OH a b=true):a=b:=by
 unfold OH at h
 split at h
 ·rw[eq_of_beq h]
 ·rfl
 ·cases h
def apH (hM:aoE) {E:Env ρ} {call:List Nat→Bool→Nat→List AV→List Blk→(AV→List Blk→Option ρ)→Option ρ} {N:Nat} (hE:mB E N call) (hD:mV E N call) {fid bid:Nat} {path:List Nat} (hpath:path.length+2=N) {b:Code}
 (hin:∀x∈í bid b,rL E path fid x.1 x.2) (L:Æ)
 (bF:Val (tyL L.cs)→Val (tyL L.vs)→(Val (tyL L.vs)→Option ρ)→((i:Nat)→Val (tyL (L.zs i))→Option ρ)→Option ρ)
 (law:∀p v kn kx,goC E call fid path L.pin bid b (jA L.head L.cs L.vs p v) (XM L kn kx)=bF p v (kn p) (fun i=>kx i p)) {m:Nat} {S:St} {K:Exit→St→Option ρ} {r:ρ} {ν:Nat→Value} {a:Act} {w:World} (e:agh L bF m S K=some r) (H:Sim ν S a w) (hm:m≤S.h.length):(Code.loop b).wpIn fen 0 E.P (alp m ν S.h w K r) a w:=by
 unfold agh at e
 split at e<;>try (cases e; done)
 rename_i hpin;have hpin:m≤L.pin:=f6 hpin
 split at e<;>try (cases e; done)
 rename_i p v hmt;obtain⟨n,hn⟩:=akr e;obtain⟨ν₁,H1,ev1,hp1,dd1⟩:=hM _ _ _ _ _ _ _ ν a w hmt H;apply wpIn_loop_rounds n
 have key:∀(n:Nat) (p:Val (tyL L.cs)) (v:Val (tyL L.vs)) (ν₁:Nat→Value) (a₁:Act) (w₁:World),aoP (fun v kn=>bF p v kn fun i z=>K (L.xk i) (jA (L.tpl i) L.cs (L.zs i) p z)) n v=some r →
  Sim ν₁ (jA L.head L.cs L.vs p v) a₁ w₁→Ev m ν S.h w ν₁ (jA L.head L.cs L.vs p v).h w₁→L.pin≤(jA L.head L.cs L.vs p v).h.length→Dd m S.h (jA L.head L.cs L.vs p v).h →
  Code.roundsIn fen 0 E.P b (alp m ν S.h w K r) n a₁ w₁:=by
  intro n
  induction n with
  |zero=>intro p v ν₁ a₁ w₁ e; cases e
  |succ n ih =>
   intro p v ν₁ a₁ w₁ e H1 ev1 hp1 dd1;rw[roundsIn_succ];have hl:=law p v (fun p v=>aoP (fun v kn=>bF p v kn fun i z=>K (L.xk i) (jA (L.tpl i) L.cs (L.zs i) p z)) n v) (fun i p z=>K (L.xk i) (jA (L.tpl i) L.cs (L.zs i) p z))
   have e':goC E call fid path L.pin bid b (jA L.head L.cs L.vs p v) (XM L (fun p v=>aoP (fun v kn=>bF p v kn fun i z=>K (L.xk i) (jA (L.tpl i) L.cs (L.zs i) p z)) n v) (fun i p z=>K (L.xk i) (jA (L.tpl i) L.cs (L.zs i) p z)))=some r:=by
    rw[hl]; exact e
   refine wpIn_mono (mi hE hD hpath b bid _ _ ν₁ a₁ w₁ hin e' H1 hp1) fun x a₂ w₂ ha=>?_;obtain⟨ν₂,S₂,H2,ev2,hp2,dd2,hk⟩:=ha;have ev12:Ev m ν S.h w ν₂ S₂.h w₂:=ev1.trans ev2 hpin;have dd12:Dd m S.h S₂.h:=dd1.trans dd2 hpin
   have out:∀x,x≠.normal→XM L (fun p v=>aoP (fun v kn=>bF p v kn fun i z=>K (L.xk i) (jA (L.tpl i) L.cs (L.zs i) p z)) n v) (fun i p z=>K (L.xk i) (jA (L.tpl i) L.cs (L.zs i) p z)) x S₂=some r→alp m ν S.h w K r x a₂ w₂:=by
    intro x hx hk;unfold XM at hk
    split at hk
    ·exact absurd rfl hx
    ·split at hk<;>try (cases hk; done)
     rename_i i hi
     split at hk<;>try (cases hk; done)
     rename_i p' z hmt;obtain⟨y,_,h1,h2⟩:=Xo _ _ _ _ hi
     have hxk:L.xk i=x:=by
      have:L.exits[i]?=some y:=by simpa using h1
      unfold Æ.xk;rw[this];exact age h2
     obtain⟨ν₃,H3,ev3,hp3,dd3⟩:=hM _ _ _ _ _ _ _ ν₂ a₂ w₂ hmt H2;have hk:K (L.xk i) (jA (L.tpl i) L.cs (L.zs i) p' z)=some r:=hk;rw[hxk] at hk;exact⟨ν₃,_,H3,ev12.trans ev3 hpin,dL hpin hp3,dd12.trans dd3 hpin,hk⟩
   cases x with
   |normal =>
    simp only[XM] at hk
    split at hk<;>try (cases hk; done)
    rename_i p' v' hmt;obtain⟨ν₃,H3,ev3,hp3,dd3⟩:=hM _ _ _ _ _ _ _ ν₂ a₂ w₂ hmt H2;exact ih p' v' ν₃ a₂ w₂ hk H3 (ev12.trans ev3 hpin) hp3 (dd12.trans dd3 hpin)
   |exit id=>exact out _ (by simp) hk
   |ret=>exact out _ (by simp) hk
   |goto l=>exact out _ (by simp) hk
   |panic ch=>exact out _ (by simp) hk
   |outgrown=>exact out _ (by simp) hk
 exact key n p v ν₁ a w hn H1 (ev1.mono hpin) hp1 (fun j hj hd=>dd1 j (by omega) hd)
end
end Go.Am
end

noncomputable section
namespace Go.Am
variable [ø]
section
variable {ν:Nat→Value} {h h':List Blk} {w:World}
def afs {t:Ty} {d:DV} {x:Val t} (e:Td t d=some x):d=⟨t,x⟩:=by
 unfold Td at e
 split at e<;>try (cases e; done)
 rename_i ht _;obtain⟨ty,val⟩:=d;simp only at ht;subst ht;cases e;rfl
def ajU (u:Ty) (l:List Ty) (t:Ty) (d:DV) (ds:List DV):ajV (u::l) t (d::ds)=(match Td t d with
 |some x=>match ajV l u ds with
  |some y=>some ((x,y):Val t×Val (tys u l))
  |none=>none
 |none=>none):=rfl
def amo (t:Ty) (x:Val t):akc t [] x=[⟨t,x⟩]:=rfl
def akb (t u:Ty) (l:List Ty) (x:Val t) (y:Val (tys u l)):akc t (u::l) ((x,y):Val t×Val (tys u l))=⟨t,x⟩::akc u l y:=rfl
def aoZ (l:List Ty):∀(t:Ty) (ds:List DV) (x:Val (tys t l)),ajV l t ds=some x→akc t l x=ds:=by
 induction l with
 |nil =>
  intro t ds x e
  match ds,e with
  |[],e=>exact absurd (show(none:Option (Val t))=some x from e) (fun h=>by cases h)
  |[d],e =>
   have e:Td t d=some x:=e;rw[afs e]; exact amo t x
  |_::_::_,e=>exact absurd (show(none:Option (Val t))=some x from e) (fun h=>by cases h)
 |cons u l ih =>
  intro t ds x e
  match ds,e with
  |[],e=>exact absurd (show(none:Option (Val t×Val (tys u l)))=some x from e) (fun h=>by cases h)
  |d::ds,e =>
   rw[ajU] at e
   cases hy:Td t d with
   |none=>rw[hy] at e; exact absurd (show(none:Option (Val t×Val (tys u l)))=some x from e) (fun h=>by cases h)
   |some y =>
    cases hz:ajV l u ds with
    |none=>rw[hy,hz] at e; exact absurd (show(none:Option (Val t×Val (tys u l)))=some x from e) (fun h=>by cases h)
    |some z =>
     rw[hy,hz] at e;have e:((y,z):Val t×Val (tys u l))=x:=Option.some.inj e;rw[←e,afs hy,←ih u ds z hz];exact akb t u l y z
def aiq (l:List Ty) (ds:List DV) (x:Val (tyL l)) (e:arn l ds=some x):ags l x=ds:=by
 cases l with
 |nil=>cases ds with
  |nil=>rfl
  |cons=>cases e
 |cons t l=>exact aoZ l t ds x e
def νb (B:List Bd) (ν:Nat→Value) (i:Nat):Value :=
 match jQ B i with
 |some (.at_ id)=>ν id
 |some .new=>.slice none 0 0
 |some .newd=>.agg [Value.slice none 0 0].toArray
 |_=>undef
structure Ext (M M':Mt):Prop where
 bd:∀i id,jQ M.bd i=some (.at_ id)→jQ M'.bd i=some (.at_ id)
 new:∀i,jQ M.bd i=some .new→jQ M'.bd i=some .new
 newd:∀i,jQ M.bd i=some .newd→jQ M'.bd i=some .newd
 cons:M.cons <+: M'.cons
 vars:M.vars <+: M'.vars
 freed:∀i∈M.freed,i∈M'.freed
 len:M'.bd.length=M.bd.length
def Ext.refl (M:Mt):Ext M M:=⟨fun _ _ h=>h,fun _ h=>h,fun _ h=>h,eD,eD,fun _ h=>h,rfl⟩
def Ext.trans {M M' M'':Mt} (h:Ext M M') (k:Ext M' M''):Ext M M'' :=
 ⟨fun i id q=>k.bd i id (h.bd i id q),fun i q=>k.new i (h.new i q),fun i q=>k.newd i (h.newd i q),h.cons.trans k.cons,h.vars.trans k.vars,fun i q=>k.freed i (h.freed i q),k.len.trans h.len⟩
def ź:∀(l:List Bd) (d:Nat) (b:Bd) (i:Nat),jQ (Nf l d b) i=if i=d∧d<l.length then some b else jQ l i
 |[],d,v,i=>by simp[Nf,jQ]
 |x::xs,0,v,0=>by simp[Nf,jQ]
 |x::xs,0,v,i+1=>by simp[Nf,jQ]
 |x::xs,d+1,v,0=>by simp[Nf,jQ]
 |x::xs,d+1,v,i+1=>by simp[Nf,jQ,ź xs d v i]
def ta:∀(l:List Bd) (d:Nat) (b:Bd),(Nf l d b).length=l.length
 |[],_,_=>rfl
 |_::_,0,_=>rfl
 |_::xs,d+1,v=>by simp[Nf,ta xs d v]
def A2:∀{l:List Bd} {i:Nat} {b:Bd},jQ l i=some b→i<l.length
 |[],_,_,h=>by cases h
 |_::_,0,_,_=>gS _
 |_::_,i+1,_,h=>Nat.succ_lt_succ (A2 (by simpa[jQ] using h))
def ji {M M':Mt} {i id:Nat} (e:Ts M i id=some M'):Ext M M'∧jQ M'.bd i=some (.at_ id)∧M'.cons=M.cons∧M'.vars=M.vars:=by
 unfold Ts at e
 split at e<;>try (cases e; done)
 ·rename_i ho;cases e;have hlt:=A2 ho;refine⟨⟨fun j id' q=>?_,fun j q=>?_,fun j q=>?_,eD,eD,fun _ q=>q,ta _ _ _⟩,by simp[ź,hlt],rfl,rfl⟩
  ·simp only[ź]
   by_cases hj:j=i
   ·subst hj; rw[ho] at q; cases q
   ·simp[hj,q]
  ·simp only[ź]
   by_cases hj:j=i
   ·subst hj; rw[ho] at q; cases q
   ·simp[hj,q]
  ·simp only[ź]
   by_cases hj:j=i
   ·subst hj; rw[ho] at q; cases q
   ·simp[hj,q]
 ·rename_i id' ho
  split at e<;>try (cases e; done)
  rename_i hi;cases e;rw[eq_of_beq hi] at ho;exact⟨Ext.refl _,ho,rfl,rfl⟩
def M7 {M M':Mt} {i:Nat} (e:ah4 M i=some M'):Ext M M'∧jQ M'.bd i=some .new∧M'.cons=M.cons∧M'.vars=M.vars:=by
 unfold ah4 at e
 split at e<;>try (cases e; done)
 rename_i ho;cases e;have hlt:=A2 ho;refine⟨⟨fun j id' q=>?_,fun j q=>?_,fun j q=>?_,eD,eD,fun _ q=>q,ta _ _ _⟩,by simp[ź,hlt],rfl,rfl⟩
 ·simp only[ź]
  by_cases hj:j=i
  ·subst hj; rw[ho] at q; cases q
  ·simp[hj,q]
 ·simp only[ź]
  by_cases hj:j=i
  ·subst hj; rw[ho] at q; cases q
  ·simp[hj,q]
 ·simp only[ź]
  by_cases hj:j=i
  ·subst hj; rw[ho] at q; cases q
  ·simp[hj,q]
def JE {M M':Mt} {i:Nat} (e:abt M i=some M'):Ext M M'∧jQ M'.bd i=some .newd∧M'.cons=M.cons∧M'.vars=M.vars:=by
 unfold abt at e
 split at e<;>try (cases e; done)
 rename_i ho;cases e;have hlt:=A2 ho;refine⟨⟨fun j id' q=>?_,fun j q=>?_,fun j q=>?_,eD,eD,fun _ q=>q,ta _ _ _⟩,by simp[ź,hlt],rfl,rfl⟩
 ·simp only[ź]
  by_cases hj:j=i
  ·subst hj; rw[ho] at q; cases q
  ·simp[hj,q]
 ·simp only[ź]
  by_cases hj:j=i
  ·subst hj; rw[ho] at q; cases q
  ·simp[hj,q]
 ·simp only[ź]
  by_cases hj:j=i
  ·subst hj; rw[ho] at q; cases q
  ·simp[hj,q]
def kin:Blk→Blk→Prop
 |.row t _ false xs,B=>B=.row t 0 false xs
 |.row t g true xs,B=>B=.row t g true xs
 |.map k v es,B=>B=.map k v es
 |.cells _,B=>∃cs',B=.cells cs'
 |.dead,B=>B=.dead
 |.deep k _ xss,B=>B=.deep k 0 xss
structure Fin (ν:Nat→Value) (h:List Blk) (w:World) (M:Mt) (h':List Blk):Prop where
 at_:∀i id,jQ M.bd i=some (.at_ id)→kin (lkB h id) (lkB h' i)
 new:∀i,jQ M.bd i=some .new→∃t,lkB h' i=.row t 0 false []
 newd:∀i,jQ M.bd i=some .newd→∃k,lkB h' i=.deep k 0 []
 out:∀i,(∀id,jQ M.bd i≠some (.at_ id))→jQ M.bd i≠some .new→jQ M.bd i≠some .newd→lkB h' i=.dead
 freed:∀id∈M.freed,∀i,jQ M.bd i≠some (.at_ id)
 inj:∀i j id,jQ M.bd i=some (.at_ id)→jQ M.bd j=some (.at_ id)→i=j
def Fin.live {M:Mt} (F:Fin ν h w M h') {b:Nat} (hb:aia (νb M.bd ν) h' b):∃i id,jQ M.bd i=some (.at_ id)∧(lkB h id).live=true∧π (ν id) b:=by
 obtain⟨i,hl,hn⟩:=hb
 cases hB:jQ M.bd i with
 |none=>rw[F.out i (by simp[hB]) (by simp[hB]) (by simp[hB])] at hl; cases hl
 |some bd =>
  cases bd with
  |open_=>rw[F.out i (by simp[hB]) (by simp[hB]) (by simp[hB])] at hl; cases hl
  |new=>simp only[νb,hB] at hn; cases hn
  |newd =>
   simp only[νb,hB] at hn;obtain⟨u,hu,hb⟩:=hn;simp at hu;subst hu;cases hb
  |at_ id =>
   refine⟨i,id,hB,?_,by simpa[νb,hB] using hn⟩;have hk:=F.at_ i id hB
   cases hB':lkB h id with
   |dead=>rw[hB'] at hk; rw[show lkB h' i=_ from hk] at hl; cases hl
   |cells=>rfl
   |map=>rfl
   |deep=>rfl
   |row t g fz xs =>
    cases fz with
    |false=>rfl
    |true=>rw[hB'] at hk; rw[show lkB h' i=_ from hk] at hl; cases hl
def Fin.subL {M:Mt} (F:Fin ν h w M h') (b:Nat) (hb:aia (νb M.bd ν) h' b):aia ν h b:=by
 obtain⟨i,id,_,h2,h3⟩:=F.live hb;exact⟨id,h2,h3⟩
def Fin.sub {M:Mt} (F:Fin ν h w M h') (b:Nat) (hb:Av (νb M.bd ν) h' b):Av ν h b:=hb.imp_left (F.subL b)
def ajm (H:HR ν h w) {M:Mt} (F:Fin ν h w M h') {t:Ty} {v:AV} {u:Value} {x:Val t} (hf:∀i∈Xm h v,i∈M.freed) (e:ç t [ă h v]=some x) (hv:VR ν h w v u) :
 VR (νb M.bd ν) h' w (anp ⟨t,x⟩) u:=by
 have main:∀(hag:v.isAgg=false) (htu:v.isTup=false),CR w (Av (νb M.bd ν) h') t x [u]:=by
  intro hag htu;have h1:=hv.one hag htu;refine Ź e ⟨F7 H F.sub h1 fun id b hc hl hb=>?_,trivial⟩;rintro(hlive|hgh)
  rotate_left
  ·exact H.ghne id b hl hb hgh
  obtain⟨i,id',h2,h3,h4⟩:=F.live hlive;have hid:id=id':=H.inj id id' b hl h3 hb h4;subst hid;refine F.freed id (hf id ?_) i h2;rcases hc with⟨g,rfl⟩|⟨g,lo,n,rfl⟩|rfl
  ·obtain⟨_,t',g',fz,xs,hl',_⟩:=h1;rw[hl'] at hl
   cases fz with
   |true=>cases hl
   |false=>simp[Xm,hl']
  ·obtain⟨_,t',g',fz,xs,hl',_⟩:=h1;rw[hl'] at hl
   cases fz with
   |true=>cases hl
   |false=>simp[Xm,hl']
  ·simp[Xm]
 have fin:(t≠.unit∧∀a b,t≠.pair a b)→v.isAgg=false∧v.isTup=false:=fun⟨h1,h2⟩=>by
  constructor
  ·cases v<;>try rfl
   cases t<;>first|(exact absurd rfl h1)|(exact absurd rfl (h2 _ _))|(simp[ă,ç,Λ] at e)
  ·cases v<;>try rfl
   cases t<;>first|(exact absurd rfl h1)|(exact absurd rfl (h2 _ _))|(simp[ă,ç,Λ] at e)
 cases t with
 |unit=>trivial
 |pair a b=>trivial
 |bool=>obtain⟨q1,q2⟩:=fin ⟨by simp,by simp⟩; exact MZ (main q1 q2)
 |int k=>obtain⟨q1,q2⟩:=fin ⟨by simp,by simp⟩; exact MZ (main q1 q2)
 |str=>obtain⟨q1,q2⟩:=fin ⟨by simp,by simp⟩; exact MZ (main q1 q2)
 |slice t=>obtain⟨q1,q2⟩:=fin ⟨by simp,by simp⟩; exact MZ (main q1 q2)
 |map k v=>obtain⟨q1,q2⟩:=fin ⟨by simp,by simp⟩; exact MZ (main q1 q2)
 |ptr t=>obtain⟨q1,q2⟩:=fin ⟨by simp,by simp⟩; exact MZ (main q1 q2)
def ĺ {α:Type} {l C:List α} {d:α} (h:(l++[d]) <+: C):C.drop l.length=d::C.drop (l.length+1):=by
 obtain⟨t,rfl⟩:=h;simp[dF]
def qp {B:List Bd} {i id:Nat} (h:jQ B i=some (.at_ id)):νb B ν i=ν id:=by simp[νb,h]
def alx {B:List Bd} {i:Nat} (h:jQ B i=some .new):νb B ν i=.slice none 0 0:=by simp[νb,h]
def aid {B:List Bd} {i:Nat} (h:jQ B i=some .newd):νb B ν i=.agg [Value.slice none 0 0].toArray:=by simp[νb,h]
def kw:∀(ps:List (Nat×Nat)) (vs:List AV) (us:List Value) (M M1:Mt),zf h ps vs M=some M1→Ext M M1∧M1.cons=M.cons∧M1.vars=M.vars ∧
 ∀Mf,Ext M1 Mf→Fin ν h w Mf h'→Č (VR0 ν h w) vs us→Č (VR0 (νb Mf.bd ν) h' w) (ps.map fun c=>.box c.1 c.2) us
 |[],[],us,M,M1,e=>by
  cases e;exact⟨Ext.refl _,rfl,rfl,fun Mf _ _ hv=>by cases us with|nil=>trivial|cons=>exact hv.elim⟩
 |[],_::_,_,_,_,e=>by cases e
 |_::_,[],_,_,_,e=>by cases e
 |(i,o)::ps,v::vs,us,M,M1,e=>by
  cases v<;>try (simp[zf] at e; done)
  rename_i id off;simp only[zf] at e
  split at e<;>try (cases e; done)
  rename_i ho
  split at e<;>try (cases e; done)
  rename_i cs hl
  split at e<;>try (cases e; done)
  rename_i M2 hb;obtain⟨e1,b1,c1,v1⟩:=ji hb;obtain⟨e2,c2,v2,_⟩:=kw ps vs us M2 M1 e;refine⟨e1.trans e2,c2.trans c1,v2.trans v1,fun Mf he F hv=>?_⟩
  cases us with
  |nil=>exact hv.elim
  |cons u us =>
   refine⟨?_,(kw ps vs us M2 M1 e).2.2.2 Mf he F hv.2⟩;obtain⟨cs',b,h1,h2,h3⟩:=hv.1;have hat:=he.bd i id (e2.bd i id b1);have hk:=F.at_ i id hat;rw[hl] at hk;obtain⟨cs2,hk⟩:=hk;exact⟨cs2,b,hk,(qp hat).trans h2,by rw[eq_of_beq ho]; exact h3⟩
def PQ (H:HR ν h w) {p:Pat} {v:AV} {M M1:Mt} (e:jD h p v M=some M1):Ext M M1∧∀Mf u,Ext M1 Mf→Fin ν h w Mf h'→VR ν h w v u →
 VR (νb Mf.bd ν) h' w (tW p ⟨Mf.cons.drop M.cons.length,Mf.vars.drop M.vars.length⟩).1 u ∧
  (tW p ⟨Mf.cons.drop M.cons.length,Mf.vars.drop M.vars.length⟩).2=⟨Mf.cons.drop M1.cons.length,Mf.vars.drop M1.vars.length⟩:=by
 cases p with
 |any=>cases e; exact⟨Ext.refl _,fun Mf u _ _ _=>⟨trivial,rfl⟩⟩
 |con t =>
  simp only[jD] at e
  split at e<;>try (cases e; done)
  rename_i x hx;cases e;refine⟨⟨fun _ _ q=>q,fun _ q=>q,fun _ q=>q,eV _ _,eD,fun _ q=>ee _ q,rfl⟩,fun Mf u he F hv=>?_⟩;have hd:=ĺ he.cons;simp only[tW,hd];exact⟨ajm H F (fun i hi=>he.freed i (eM _ hi)) hx hv,by simp⟩
 |var t =>
  simp only[jD] at e
  split at e<;>try (cases e; done)
  rename_i x hx;cases e;refine⟨⟨fun _ _ q=>q,fun _ q=>q,fun _ q=>q,eD,eV _ _,fun _ q=>ee _ q,rfl⟩,fun Mf u he F hv=>?_⟩;have hd:=ĺ he.vars;simp only[tW,hd];exact⟨ajm H F (fun i hi=>he.freed i (eM _ hi)) hx hv,by simp⟩
 |own i =>
  simp only[jD] at e
  split at e<;>try (cases e; done)
  ·rename_i id g
   split at e<;>try (cases e; done)
   rename_i t g' xs hl
   split at e<;>try (cases e; done)
   rename_i hg;obtain⟨e1,b1,c1,v1⟩:=ji e;refine⟨e1,fun Mf u he F hv=>⟨?_,by simp only[tW,c1,v1]⟩⟩;have hat:=he.bd i id b1;have hk:=F.at_ i id hat;rw[hl] at hk;obtain⟨ho,t2,g2,fz2,xs2,hl2,_,hq⟩:=hv;rw[hl] at hl2; cases hl2;exact⟨ho,t,0,false,xs,hk,dg _,fun _=>(hq (eq_of_beq hg)).trans (qp hat).symm⟩
  ·obtain⟨e1,b1,c1,v1⟩:=M7 e;refine⟨e1,fun Mf u he F hv=>⟨?_,by simp only[tW,c1,v1]⟩⟩;have hnw:=he.new i b1;obtain⟨t,hk⟩:=F.new i hnw;have hu:u=.slice none 0 0:=hv;exact⟨by rw[hu]; rfl,t,0,false,[],hk,dg _,fun _=>hu.trans (alx hnw).symm⟩
 |dp i =>
  simp only[jD] at e
  split at e<;>try (cases e; done)
  ·rename_i id g
   split at e<;>try (cases e; done)
   rename_i k g' xss hl
   split at e<;>try (cases e; done)
   rename_i hg;obtain⟨e1,b1,c1,v1⟩:=ji e;refine⟨e1,fun Mf u he F hv=>⟨?_,by simp only[tW,c1,v1]⟩⟩;have hat:=he.bd i id b1;have hk:=F.at_ i id hat;rw[hl] at hk;obtain⟨ho,k2,g2,xss2,hl2,_,hq⟩:=hv;rw[hl] at hl2; cases hl2;exact⟨ho,k,0,xss,hk,dg _,fun _=>by rw[qp hat]; exact hq (eq_of_beq hg)⟩
  ·obtain⟨e1,b1,c1,v1⟩:=JE e;refine⟨e1,fun Mf u he F hv=>⟨?_,by simp only[tW,c1,v1]⟩⟩;have hnw:=he.newd i b1;obtain⟨k,hk⟩:=F.newd i hnw;have hu:u=.slice none 0 0:=hv;exact⟨by rw[hu]; rfl,k,0,[],hk,dg _,fun _=>⟨[],by rw[aid hnw,hu]⟩⟩
 |omp i =>
  simp only[jD] at e
  split at e<;>try (cases e; done)
  rename_i id
  split at e<;>try (cases e; done)
  rename_i k v' es hl;obtain⟨e1,b1,c1,v1⟩:=ji e;refine⟨e1,fun Mf u he F hv=>⟨?_,by simp only[tW,c1,v1]⟩⟩;have hat:=he.bd i id b1;have hk:=F.at_ i id hat;rw[hl] at hk;obtain⟨ho,k2,v2,es2,hl2,hq⟩:=hv;exact⟨ho,k,v',es,hk,hq.trans (qp hat).symm⟩
 |box i off =>
  simp only[jD] at e
  split at e<;>try (cases e; done)
  rename_i id off'
  split at e<;>try (cases e; done)
  rename_i hoff
  split at e<;>try (cases e; done)
  rename_i cs hl;obtain⟨e1,b1,c1,v1⟩:=ji e;refine⟨e1,fun Mf u he F hv=>⟨?_,by simp only[tW,c1,v1]⟩⟩;have hat:=he.bd i id b1;have hk:=F.at_ i id hat;rw[hl] at hk;obtain⟨cs2,hk⟩:=hk;obtain⟨cs',b,h1,h2,h3⟩:=hv;exact⟨cs2,b,hk,(qp hat).trans h2,by rw[eq_of_beq hoff]; exact h3⟩
 |nils =>
  simp only[jD] at e
  split at e<;>try (cases e; done)
  cases e;exact⟨Ext.refl _,fun Mf u _ _ hv=>⟨hv,rfl⟩⟩
 |nilp =>
  simp only[jD] at e
  split at e<;>try (cases e; done)
  cases e;exact⟨Ext.refl _,fun Mf u _ _ hv=>⟨hv,rfl⟩⟩
 |nilfn =>
  simp only[jD] at e
  split at e<;>try (cases e; done)
  cases e;exact⟨Ext.refl _,fun Mf u _ _ hv=>⟨hv,rfl⟩⟩
 |fn f caps =>
  simp only[jD] at e
  split at e<;>try (cases e; done)
  rename_i f' vs
  split at e<;>try (cases e; done)
  rename_i hf;obtain⟨e1,c1,v1,_⟩:=kw (ν:=ν) (w:=w) (h':=h') caps vs [] M M1 e;refine⟨e1,fun Mf u he F hv=>⟨?_,by simp only[tW,c1,v1]⟩⟩;obtain⟨fs,cs,rfl,q1,q2⟩:=hv;have:=(kw (ν:=ν) (w:=w) (h':=h') caps vs cs.toList M M1 e).2.2.2 Mf he F q2;exact⟨fs,cs,by rw[eq_of_beq hf],by rw[q1.nil_left]; trivial,this⟩
def rest (Mf M:Mt):It:=⟨Mf.cons.drop M.cons.length,Mf.vars.drop M.vars.length⟩
def Eg {Mf M M1:Mt} (h1:M1.cons=M.cons) (h2:M1.vars=M.vars):rest Mf M=rest Mf M1:=by simp only[rest,h1,h2]
def wh {p:Pat} {v:AV} {M M1:Mt} (e:jD h p v M=some M1):Ext M M1∧∀Mf,Ext M1 Mf→(tW p (rest Mf M)).2=rest Mf M1:=by
 cases p with
 |any=>cases e; exact⟨Ext.refl _,fun Mf _=>rfl⟩
 |con t =>
  simp only[jD] at e
  split at e<;>try (cases e; done)
  rename_i x hx;cases e;refine⟨⟨fun _ _ q=>q,fun _ q=>q,fun _ q=>q,eV _ _,eD,fun _ q=>ee _ q,rfl⟩,fun Mf he=>?_⟩;have hd:=ĺ he.cons;simp only[rest,tW,hd]; simp
 |var t =>
  simp only[jD] at e
  split at e<;>try (cases e; done)
  rename_i x hx;cases e;refine⟨⟨fun _ _ q=>q,fun _ q=>q,fun _ q=>q,eD,eV _ _,fun _ q=>ee _ q,rfl⟩,fun Mf he=>?_⟩;have hd:=ĺ he.vars;simp only[rest,tW,hd]; simp
 |own i =>
  simp only[jD] at e
  split at e<;>try (cases e; done)
  ·split at e<;>try (cases e; done)
   split at e<;>try (cases e; done)
   obtain⟨e1,b1,c1,v1⟩:=ji e;exact⟨e1,fun Mf he=>Eg c1 v1⟩
  ·obtain⟨e1,b1,c1,v1⟩:=M7 e;exact⟨e1,fun Mf he=>Eg c1 v1⟩
 |dp i =>
  simp only[jD] at e
  split at e<;>try (cases e; done)
  ·split at e<;>try (cases e; done)
   split at e<;>try (cases e; done)
   obtain⟨e1,b1,c1,v1⟩:=ji e;exact⟨e1,fun Mf he=>Eg c1 v1⟩
  ·obtain⟨e1,b1,c1,v1⟩:=JE e;exact⟨e1,fun Mf he=>Eg c1 v1⟩
 |omp i =>
  simp only[jD] at e
  split at e<;>try (cases e; done)
  split at e<;>try (cases e; done)
  obtain⟨e1,b1,c1,v1⟩:=ji e;exact⟨e1,fun Mf he=>Eg c1 v1⟩
 |box i off =>
  simp only[jD] at e
  split at e<;>try (cases e; done)
  split at e<;>try (cases e; done)
  split at e<;>try (cases e; done)
  obtain⟨e1,b1,c1,v1⟩:=ji e;exact⟨e1,fun Mf he=>Eg c1 v1⟩
 |nils =>
  simp only[jD] at e
  split at e<;>try (cases e; done)
  cases e; exact⟨Ext.refl _,fun Mf _=>rfl⟩
 |nilp =>
  simp only[jD] at e
  split at e<;>try (cases e; done)
  cases e; exact⟨Ext.refl _,fun Mf _=>rfl⟩
 |nilfn =>
  simp only[jD] at e
  split at e<;>try (cases e; done)
  cases e; exact⟨Ext.refl _,fun Mf _=>rfl⟩
 |fn f caps =>
  simp only[jD] at e
  split at e<;>try (cases e; done)
  rename_i f' vs
  split at e<;>try (cases e; done)
  obtain⟨e1,c1,v1,_⟩:=kw (ν:=fun _=>undef) (w:=default) (h':=[]) caps vs [] M M1 e;exact⟨e1,fun Mf he=>Eg c1 v1⟩
def vz (p:Pat) (ps:List Pat) (I:It):LA (p::ps) I=((tW p I).1::(LA ps (tW p I).2).1,(LA ps (tW p I).2).2):=rfl
def Ep:∀{ps:List Pat} {vs:List AV} {M M1:Mt},WB h ps vs M=some M1→Ext M M1∧∀Mf,Ext M1 Mf→(LA ps (rest Mf M)).2=rest Mf M1
 |[],vs,M,M1,e=>by cases e; exact⟨Ext.refl _,fun Mf _=>rfl⟩
 |p::ps,vs,M,M1,e=>by
  simp only[WB] at e
  split at e<;>try (cases e; done)
  rename_i M2 h1;obtain⟨e1,t1⟩:=wh h1;obtain⟨e2,t2⟩:=Ep e;exact⟨e1.trans e2,fun Mf he=>by rw[vz,t1 Mf (e2.trans he)]; exact t2 Mf he⟩
def acW (H:HR ν h w):∀{ps:List Pat} {vs:List AV} {M M1:Mt},WB h ps vs M=some M1→∀Mf,Ext M1 Mf→Fin ν h w Mf h'→∀f:Nat→Value,(∀k,VR ν h w (lk vs k) (f k)) →
 ∀k,VR (νb Mf.bd ν) h' w (lk (LA ps (rest Mf M)).1 k) (f k)
 |[],vs,M,M1,e,Mf,_,_,f,_,k=>trivial
 |p::ps,vs,M,M1,e,Mf,he,F,f,hf,k=>by
  simp only[WB] at e
  split at e<;>try (cases e; done)
  rename_i M2 h1;obtain⟨e1,t1⟩:=wh h1;obtain⟨e2,t2⟩:=Ep e;rw[vz,t1 Mf (e2.trans he)]
  cases k with
  |zero=>exact((PQ H h1).2 Mf (f 0) (e2.trans he) F (hf 0)).1
  |succ k =>
   have ht:∀k,lk vs.tail k=lk vs (k+1):=fun k=>by cases vs<;>rfl
   exact acW H e Mf he F (fun k=>f (k+1)) (fun k=>by rw[ht]; exact hf (k+1)) k
def qz:∀{ps:List Pat} {vs:List AV} {M M1:Mt},qg h ps vs M=some M1→Ext M M1∧∀Mf,Ext M1 Mf→(LA ps (rest Mf M)).2=rest Mf M1
 |[],[],M,M1,e=>by cases e; exact⟨Ext.refl _,fun Mf _=>rfl⟩
 |[],_::_,M,M1,e=>by cases e
 |_::_,[],M,M1,e=>by cases e
 |p::ps,v::vs,M,M1,e=>by
  simp only[qg] at e
  split at e<;>try (cases e; done)
  rename_i M2 h1;obtain⟨e1,t1⟩:=wh h1;obtain⟨e2,t2⟩:=qz e;exact⟨e1.trans e2,fun Mf he=>by rw[vz,t1 Mf (e2.trans he)]; exact t2 Mf he⟩
def aky (p:Pat) (I:It):(tW p I).1.isAgg=false∧(tW p I).1.isTup=false:=by
 have henc:∀d:DV,(anp d).isAgg=false∧(anp d).isTup=false:=fun d=>by
  obtain⟨t,x⟩:=d
  cases t<;>exact⟨rfl,rfl⟩
 cases p<;>simp only[tW]<;>try exact⟨rfl,rfl⟩
 ·split<;>first|exact henc _|exact⟨rfl,rfl⟩
 ·split<;>first|exact henc _|exact⟨rfl,rfl⟩
def GA (H:HR ν h w):∀{ps:List Pat} {vs:List AV} {us:List Value} {M M1:Mt},qg h ps vs M=some M1→∀Mf,Ext M1 Mf→Fin ν h w Mf h'→Č (VRc ν h w) vs us →
 Č (VRc (νb Mf.bd ν) h' w) (LA ps (rest Mf M)).1 us
 |[],[],us,M,M1,e,Mf,_,_,hv=>by cases us with|nil=>trivial|cons=>exact hv.elim
 |[],_::_,_,M,M1,e,_,_,_,_=>by cases e
 |_::_,[],_,M,M1,e,_,_,_,_=>by cases e
 |p::ps,v::vs,us,M,M1,e,Mf,he,F,hv=>by
  simp only[qg] at e
  split at e<;>try (cases e; done)
  rename_i M2 h1;obtain⟨e1,t1⟩:=wh h1;obtain⟨e2,t2⟩:=qz e;rw[vz,t1 Mf (e2.trans he)]
  cases us with
  |nil=>exact hv.elim
  |cons u us =>
   have h2:=((PQ H h1).2 Mf u (e2.trans he) F hv.1.1.up).1;have hfl:=aky p (rest Mf M);exact⟨⟨h2.one hfl.1 hfl.2,hv.1.2⟩,GA H e Mf he F hv.2⟩
def Cg (M:Mt) (d:DV):Ext M {M with cons:=M.cons++[d]}:=⟨fun _ _ q=>q,fun _ q=>q,fun _ q=>q,eV _ _,eD,fun _ q=>q,rfl⟩
def Jo (M:Mt) (d:DV):Ext M {M with vars:=M.vars++[d]}:=⟨fun _ _ q=>q,fun _ q=>q,fun _ q=>q,eD,eV _ _,fun _ q=>q,rfl⟩
def PP {p:iQ} {i:Nat} {M M1:Mt} (e:ky h p i M=some M1):Ext M M1∧∀Mf,Ext M1 Mf→(vA p (rest Mf M)).2=rest Mf M1 ∧
 ((∃id,jQ M.bd i=some (.at_ id)∧kin (lkB h id) (vA p (rest Mf M)).1)∨(jQ M.bd i=some .new∧∃t,(vA p (rest Mf M)).1=.row t 0 false [])∨(jQ M.bd i=some .newd∧∃k,(vA p (rest Mf M)).1=.deep k 0 [])):=by
 cases p with
 |dead =>
  simp only[ky] at e
  split at e<;>try (cases e; done)
  rename_i id hb
  split at e<;>try (cases e; done)
  rename_i hl;cases e;exact⟨Ext.refl _,fun Mf _=>⟨rfl,.inl ⟨id,hb,by rw[hl]; rfl⟩⟩⟩
 |cells ps =>
  simp only[ky] at e
  split at e<;>try (cases e; done)
  rename_i id hb
  split at e<;>try (cases e; done)
  rename_i cs hl;obtain⟨e1,t1⟩:=qz e;exact⟨e1,fun Mf he=>⟨t1 Mf he,.inl ⟨id,hb,by rw[hl]; exact⟨_,rfl⟩⟩⟩⟩
 |rowc t =>
  simp only[ky] at e
  split at e<;>try (cases e; done)
  ·rename_i id hb
   split at e<;>try (cases e; done)
   rename_i t' g xs hl
   split at e<;>try (cases e; done)
   cases e;refine⟨Cg _ _,fun Mf he=>?_⟩;have hd:=ĺ he.cons;simp only[rest,vA,hd];exact⟨by simp,.inl ⟨id,hb,by rw[hl]; rfl⟩⟩
  ·rename_i hb;cases e;refine⟨Cg _ _,fun Mf he=>?_⟩;have hd:=ĺ he.cons;simp only[rest,vA,hd];exact⟨by simp,.inr (.inl ⟨hb,t,rfl⟩)⟩
 |rowf t g =>
  simp only[ky] at e
  split at e<;>try (cases e; done)
  rename_i id hb
  split at e<;>try (cases e; done)
  rename_i t' g' xs hl
  split at e<;>try (cases e; done)
  split at e<;>try (cases e; done)
  rename_i hg _;subst hg;cases e;refine⟨Cg _ _,fun Mf he=>?_⟩;have hd:=ĺ he.cons;simp only[rest,vA,hd];exact⟨by simp,.inl ⟨id,hb,by rw[hl]; rfl⟩⟩
 |rowv t =>
  simp only[ky] at e
  split at e<;>try (cases e; done)
  ·rename_i id hb
   split at e<;>try (cases e; done)
   rename_i t' g xs hl
   split at e<;>try (cases e; done)
   cases e;refine⟨Jo _ _,fun Mf he=>?_⟩;have hd:=ĺ he.vars;simp only[rest,vA,hd];exact⟨by simp,.inl ⟨id,hb,by rw[hl]; rfl⟩⟩
  ·rename_i hb;cases e;refine⟨Jo _ _,fun Mf he=>?_⟩;have hd:=ĺ he.vars;simp only[rest,vA,hd];exact⟨by simp,.inr (.inl ⟨hb,t,rfl⟩)⟩
 |mapc k v =>
  simp only[ky] at e
  split at e<;>try (cases e; done)
  rename_i id hb
  split at e<;>try (cases e; done)
  rename_i k' v' es hl
  split at e<;>try (cases e; done)
  cases e;refine⟨Cg _ _,fun Mf he=>?_⟩;have hd:=ĺ he.cons;simp only[rest,vA,hd];exact⟨by simp,.inl ⟨id,hb,by rw[hl]; rfl⟩⟩
 |mapv k v =>
  simp only[ky] at e
  split at e<;>try (cases e; done)
  rename_i id hb
  split at e<;>try (cases e; done)
  rename_i k' v' es hl
  split at e<;>try (cases e; done)
  cases e;refine⟨Jo _ _,fun Mf he=>?_⟩;have hd:=ĺ he.vars;simp only[rest,vA,hd];exact⟨by simp,.inl ⟨id,hb,by rw[hl]; rfl⟩⟩
 |deepc k =>
  simp only[ky] at e
  split at e<;>try (cases e; done)
  ·rename_i id hb
   split at e<;>try (cases e; done)
   rename_i k' g xss hl
   split at e<;>try (cases e; done)
   cases e;refine⟨Cg _ _,fun Mf he=>?_⟩;have hd:=ĺ he.cons;simp only[rest,vA,hd];exact⟨by simp,.inl ⟨id,hb,by rw[hl]; rfl⟩⟩
  ·rename_i hb;cases e;refine⟨Cg _ _,fun Mf he=>?_⟩;have hd:=ĺ he.cons;simp only[rest,vA,hd];exact⟨by simp,.inr (.inr ⟨hb,k,rfl⟩)⟩
 |deepv k =>
  simp only[ky] at e
  split at e<;>try (cases e; done)
  ·rename_i id hb
   split at e<;>try (cases e; done)
   rename_i k' g xss hl
   split at e<;>try (cases e; done)
   cases e;refine⟨Jo _ _,fun Mf he=>?_⟩;have hd:=ĺ he.vars;simp only[rest,vA,hd];exact⟨by simp,.inl ⟨id,hb,by rw[hl]; rfl⟩⟩
  ·rename_i hb;cases e;refine⟨Jo _ _,fun Mf he=>?_⟩;have hd:=ĺ he.vars;simp only[rest,vA,hd];exact⟨by simp,.inr (.inr ⟨hb,k,rfl⟩)⟩
def amB (H:HR ν h w) {p:iQ} {i id:Nat} {M M1:Mt} {cs:List AV} (e:ky h p i M=some M1) (hb:jQ M.bd i=some (.at_ id)) (hl:lkB h id=.cells cs) {Mf:Mt} (he:Ext M1 Mf) (F:Fin ν h w Mf h') {us:List Value} (hv:Č (VRc ν h w) cs us) :
 ∃cs',(vA p (rest Mf M)).1=.cells cs'∧Č (VRc (νb Mf.bd ν) h' w) cs' us:=by
 cases p with
 |cells ps =>
  simp only[ky,hb,hl] at e;exact⟨_,rfl,GA H e Mf he F hv⟩
 |dead=>simp[ky,hb,hl] at e
 |rowc t=>simp[ky,hb,hl] at e
 |rowf t g=>simp[ky,hb,hl] at e
 |rowv t=>simp[ky,hb,hl] at e
 |mapc k v=>simp[ky,hb,hl] at e
 |mapv k v=>simp[ky,hb,hl] at e
 |deepc k=>simp[ky,hb,hl] at e
 |deepv k=>simp[ky,hb,hl] at e
def LB (p:iQ) (ps:List iQ) (I:It):FT (p::ps) I=((vA p I).1::(FT ps (vA p I).2).1,(FT ps (vA p I).2).2):=rfl
def MW:∀(ps:List iQ) (I:It),(FT ps I).1.length=ps.length
 |[],_=>rfl
 |p::ps,I=>by rw[LB]; simp[MW ps]
def Er:∀{ps:List iQ} {i:Nat} {M M1:Mt},WC h ps i M=some M1→Ext M M1∧∀Mf,Ext M1 Mf→∀k,k<ps.length →
 (∃id,jQ Mf.bd (i+k)=some (.at_ id)∧kin (lkB h id) (lkB (FT ps (rest Mf M)).1 k))∨(jQ Mf.bd (i+k)=some .new∧∃t,lkB (FT ps (rest Mf M)).1 k=.row t 0 false [])∨(jQ Mf.bd (i+k)=some .newd∧∃q,lkB (FT ps (rest Mf M)).1 k=.deep q 0 [])
 |[],i,M,M1,e=>by cases e; exact⟨Ext.refl _,fun Mf _ k hk=>by simp at hk⟩
 |p::ps,i,M,M1,e=>by
  simp only[WC] at e
  split at e<;>try (cases e; done)
  rename_i M2 h1;obtain⟨e1,t1⟩:=PP h1;obtain⟨e2,t2⟩:=Er e;refine⟨e1.trans e2,fun Mf he k hk=>?_⟩;obtain⟨t3,t4⟩:=t1 Mf (e2.trans he);rw[LB,t3]
  cases k with
  |zero =>
   rcases t4 with⟨id,q1,q2⟩|⟨q1,q2⟩|⟨q1,q2⟩
   ·exact .inl ⟨id,(e1.trans (e2.trans he)).bd _ _ q1,q2⟩
   ·exact .inr (.inl ⟨(e1.trans (e2.trans he)).new _ q1,q2⟩)
   ·exact .inr (.inr ⟨(e1.trans (e2.trans he)).newd _ q1,q2⟩)
  |succ k =>
   have:=t2 Mf he k (by simpa using hk);rw[show i+(k+1)=i+1+k by omega];exact this
def acY (H:HR ν h w):∀{ps:List iQ} {i:Nat} {M M1:Mt},WC h ps i M=some M1→∀Mf,Ext M1 Mf→Fin ν h w Mf h'→∀k id cs us,k<ps.length→jQ Mf.bd (i+k)=some (.at_ id)→lkB h id=.cells cs→Č (VRc ν h w) cs us →
 ∃cs',lkB (FT ps (rest Mf M)).1 k=.cells cs'∧Č (VRc (νb Mf.bd ν) h' w) cs' us
 |[],i,M,M1,e,Mf,_,_,k,_,_,_,hk,_,_,_=>by simp at hk
 |p::ps,i,M,M1,e,Mf,he,F,k,id,cs,us,hk,hb,hl,hv=>by
  simp only[WC] at e
  split at e<;>try (cases e; done)
  rename_i M2 h1;obtain⟨e1,t1⟩:=PP h1;obtain⟨e2,t2⟩:=Er e;obtain⟨t3,t4⟩:=t1 Mf (e2.trans he);rw[LB,t3]
  cases k with
  |zero =>
   rcases t4 with⟨id',q1,q2⟩|⟨q1,q2⟩|⟨q1,q2⟩
   ·have:=(e1.trans (e2.trans he)).bd _ _ q1;have hb':jQ Mf.bd i=some (.at_ id):=hb;rw[this] at hb';cases hb';exact amB H h1 q1 hl (e2.trans he) F hv
   ·have:=(e1.trans (e2.trans he)).new _ q1;have hb':jQ Mf.bd i=some (.at_ id):=hb;rw[this] at hb';cases hb'
   ·have:=(e1.trans (e2.trans he)).newd _ q1;have hb':jQ Mf.bd i=some (.at_ id):=hb;rw[this] at hb';cases hb'
  |succ k=>exact acY H e Mf he F k id cs us (by simpa using hk) (by rw[show i+1+k=i+(k+1) by omega]; exact hb) hl hv
def I0:∀{l:List Bd} {i id:Nat},jQ l i=some (.at_ id)→id∈Ot l
 |[],_,_,h=>by cases h
 |x::l,0,id,h=>by
  simp only[jQ,Option.some.injEq] at h;subst h; simp[Ot]
 |x::l,i+1,id,h=>by
  have:=I0 (l:=l) (i:=i) (id:=id) h
  cases x<;>simp[Ot,this]
def M3:∀{l:List Bd} {i j id:Nat},xF (Ot l)=true→jQ l i=some (.at_ id)→jQ l j=some (.at_ id)→i=j
 |[],_,_,_,_,h,_=>by cases h
 |x::l,0,0,_,_,_,_=>rfl
 |x::l,0,j+1,id,hd,h1,h2=>by
  simp only[jQ,Option.some.injEq] at h1;subst h1;simp only[Ot,xF,dh] at hd;have:=I0 (l:=l) (i:=j) (id:=id) h2;simp[this] at hd
 |x::l,i+1,0,id,hd,h1,h2=>by
  simp only[jQ,Option.some.injEq] at h2;subst h2;simp only[Ot,xF,dh] at hd;have:=I0 (l:=l) (i:=i) (id:=id) h1;simp[this] at hd
 |x::l,i+1,j+1,id,hd,h1,h2=>by
  have hd':xF (Ot l)=true:=by
   cases x<;>simp only[Ot,xF,dh] at hd<;>first|exact hd|exact hd.2
  rw[M3 (l:=l) hd' h1 h2]
def ajX {pin n i:Nat} (hi:i<pin) (hn:pin≤n):jQ (D7 pin n) i=some (.at_ i):=by
 have key:∀(l:List Bd) (k:Nat),jQ l k=l[k]?:=by
  intro l
  induction l with
  |nil=>intro k; simp[jQ]
  |cons x l ih=>intro k; cases k with
   |zero=>rfl
   |succ k=>simpa[jQ] using ih k
 rw[key,D7,gd,fe (by omega)];simp[hi]
def LF:∀{pin:Nat},am9 h pin=true→∀i,i<pin→(∀t g xs,lkB h i=.row t g false xs→g=0)∧∀k g xss,lkB h i=.deep k g xss→g=0
 |0,_,i,hi=>by omega
 |pin+1,hg,i,hi=>by
  have hrec:am9 h pin=true∧(∀t g xs,lkB h pin=.row t (g+1) false xs→False)∧∀k g xss,lkB h pin=.deep k (g+1) xss→False:=by
   simp only[am9] at hg
   split at hg<;>try (cases hg; done)
   rename_i hne1 hne2;exact⟨hg,fun t g xs e=>hne1 _ _ _ e,fun k g xss e=>hne2 _ _ _ e⟩
  rcases Nat.lt_succ_iff_lt_or_eq.1 hi with h1|rfl
  ·exact LF hrec.1 i h1
  ·refine⟨fun t g xs hl=>?_,fun k g xss hl=>?_⟩
   ·cases g with
    |zero=>rfl
    |succ g=>exact(hrec.2.1 _ _ _ hl).elim
   ·cases g with
    |zero=>rfl
    |succ g=>exact(hrec.2.2 _ _ _ hl).elim
def Sn:∀(l:List AV) (n k:Nat),lk (l++List.replicate n .any) k=lk l k
 |[],0,_=>rfl
 |[],n+1,0=>rfl
 |[],n+1,k+1=>by simpa[gM,lk] using Sn [] n k
 |x::l,n,0=>rfl
 |x::l,n,k+1=>by simpa[lk] using Sn l n k
def MV:∀(ps:List Pat) (I:It),(LA ps I).1.length=ps.length
 |[],_=>rfl
 |p::ps,I=>by rw[vz]; simp[MV ps]
def match_ok:aoE:=by
 intro T pin cs vs S p v ν a w e H;unfold Db at e
 split at e<;>try (cases e; done)
 rename_i hc;simp only[dh,decide_eq_true_eq] at hc;obtain⟨c1,c2,c3,c4⟩:=hc
 split at e<;>try (cases e; done)
 rename_i M0 hL
 split at e<;>try (cases e; done)
 rename_i M hH
 split at e<;>try (cases e; done)
 rename_i hd;simp only[dh,dO] at hd;obtain⟨d1,d2⟩:=hd
 split at e<;>try (cases e; done)
 rename_i p' v' hp hv;cases e;have ep:ags cs p=M.cons:=aiq cs _ _ hp;have ev:ags vs v=M.vars:=aiq vs _ _ hv;obtain⟨eL,tL⟩:=Ep hL;obtain⟨eH,tH⟩:=Er hH
 -- the state of the pattern
 have hI0:({cons:=ags cs p,vars:=ags vs v}:It)=rest M {bd:=D7 pin T.heap.length,cons:=[],vars:=[],freed:=[]}:=by
  simp[rest,ep,ev]
 have hinst:jA T cs vs p v={t:=(LA T.slots (rest M {bd:=D7 pin T.heap.length,cons:=[],vars:=[],freed:=[]})).1++List.replicate (T.n-T.slots.length) .any,h:=(FT T.heap (rest M M0)).1}:=by
  unfold jA;rw[hI0];have:=tL M eH;show(St.mk _ _)=_;rw[show(LA T.slots (rest M {bd:=D7 pin T.heap.length,cons:=[],vars:=[],freed:=[]})).2=rest M M0 from this]
 rw[hinst]
 have hblen:M.bd.length=T.heap.length:=by rw[eH.len,eL.len]; simp[D7]
 have hhlen:(FT T.heap (rest M M0)).1.length=T.heap.length:=MW _ _
 have F:Fin ν S.h w M (FT T.heap (rest M M0)).1:=by
  refine⟨fun i id hb=>?_,fun i hb=>?_,fun i hb=>?_,fun i h1 h2 h3=>?_,fun id hid i hb=>?_,fun i j id=>M3 d1⟩
  ·have hi:i<T.heap.length:=by rw[←hblen]; exact A2 hb
   rcases tH M (Ext.refl _) i hi with⟨id',q1,q2⟩|⟨q1,_⟩|⟨q1,_⟩
   ·rw[dC,hb] at q1; cases q1; exact q2
   ·rw[dC,hb] at q1; cases q1
   ·rw[dC,hb] at q1; cases q1
  ·have hi:i<T.heap.length:=by rw[←hblen]; exact A2 hb
   rcases tH M (Ext.refl _) i hi with⟨id',q1,q2⟩|⟨q1,q2⟩|⟨q1,q2⟩
   ·rw[dC,hb] at q1; cases q1
   ·exact q2
   ·rw[dC,hb] at q1; cases q1
  ·have hi:i<T.heap.length:=by rw[←hblen]; exact A2 hb
   rcases tH M (Ext.refl _) i hi with⟨id',q1,q2⟩|⟨q1,q2⟩|⟨q1,q2⟩
   ·rw[dC,hb] at q1; cases q1
   ·rw[dC,hb] at q1; cases q1
   ·exact q2
  ·rcases dG i T.heap.length with hi|hi
   ·rcases tH M (Ext.refl _) i hi with⟨id',q1,q2⟩|⟨q1,q2⟩|⟨q1,q2⟩
    ·rw[dC] at q1; exact absurd q1 (h1 id')
    ·rw[dC] at q1; exact absurd q1 h2
    ·rw[dC] at q1; exact absurd q1 h3
   ·exact W5 _ _ (by rw[hhlen]; exact hi)
  ·have:=d2 id hid;have hm:=I0 hb;simp[hm] at this
 have hHR:HR (νb M.bd ν) (FT T.heap (rest M M0)).1 w:=by
  refine⟨fun i=>?_,fun i j b hi hj hbi hbj=>?_,H.heap.ghlt,fun i b hl hb hg=>?_⟩
  rotate_left 2
  ·obtain⟨id,q1,q2⟩:=F.subL b ⟨i,hl,hb⟩;exact H.heap.ghne id b q1 q2 hg
  ·cases hb:jQ M.bd i with
   |none=>rw[F.out i (by simp[hb]) (by simp[hb]) (by simp[hb])]; trivial
   |some x =>
    cases x with
    |open_=>rw[F.out i (by simp[hb]) (by simp[hb]) (by simp[hb])]; trivial
    |newd =>
     obtain⟨k,hk⟩:=F.newd i hb;rw[hk];exact⟨none,0,[],aid hb,dg _,gr _ _,.inl ⟨rfl,rfl⟩,trivial⟩
    |new =>
     obtain⟨t,ht⟩:=F.new i hb;rw[ht];exact⟨none,0,alx hb,dg _,.inl ⟨rfl,rfl⟩⟩
    |at_ id =>
     have hk:=F.at_ i id hb;have hB:=H.heap.blk id
     cases hl:lkB S.h id with
     |dead=>rw[hl] at hk; rw[show lkB _ i=_ from hk]; trivial
     |cells c =>
      rw[hl] at hB;obtain⟨b,arr,e',q1,q2,q3⟩:=hB
      have hi:i<T.heap.length:=by rw[←hblen]; exact A2 hb
      obtain⟨cs',q4,q5⟩:=acY H.heap hH M (Ext.refl _) F i id c arr.toList hi (by rw[dC]; exact hb) hl q3;rw[q4];exact⟨b,arr,e',(qp hb).trans q1,q2,q5⟩
     |row t g fz xs =>
      rw[hl] at hk hB
      cases fz with
      |true =>
       rw[show lkB _ i=_ from hk];show CR w _ (.slice t) xs [_];rw[qp hb];exact CR.mono F.sub hB
      |false =>
       rw[show lkB _ i=_ from hk];obtain⟨base,cap,q1,q2,q3⟩:=hB;refine⟨base,cap,(qp hb).trans q1,q2,?_⟩;rcases q3 with q3|⟨b,off,c,e',q4,q5,q6,q7⟩
       ·exact .inl q3
       ·refine .inr ⟨b,off,c,e',q4,q5,q6,fun j x hx=>?_⟩;obtain⟨us,q8,q9⟩:=q7 j x hx;exact⟨us,CR.mono F.sub q8,q9⟩
     |map k u es =>
      rw[hl] at hk hB;rw[show lkB _ i=_ from hk];obtain⟨b,entries,clock,q1,q2,q3,q4⟩:=hB;refine⟨b,entries,clock,(qp hb).trans q1,q2,q3,fun j x hx=>?_⟩;obtain⟨m,us,q5,q6,q7,q8⟩:=q4 j x hx;exact⟨m,us,q5,CR.mono F.sub q6,CR.mono F.sub q7,q8⟩
     |deep k g xss =>
      rw[hl] at hk hB;rw[show lkB _ i=_ from hk];obtain⟨base,cap,us,q1,q2⟩:=hB;exact⟨base,cap,us,(qp hb).trans q1,q2⟩
  ·have at1:∀i,(lkB (FT T.heap (rest M M0)).1 i).live=true→π (νb M.bd ν i) b→∃id,jQ M.bd i=some (.at_ id)∧(lkB S.h id).live=true∧π (ν id) b:=fun i hi hbi=>by
    cases hb:jQ M.bd i with
    |none=>rw[F.out i (by simp[hb]) (by simp[hb]) (by simp[hb])] at hi; cases hi
    |some x =>
     cases x with
     |open_=>rw[F.out i (by simp[hb]) (by simp[hb]) (by simp[hb])] at hi; cases hi
     |new=>simp only[νb,hb] at hbi; cases hbi
     |newd =>
      simp only[νb,hb] at hbi;obtain⟨u,hu,hbi⟩:=hbi;simp at hu;subst hu;cases hbi
     |at_ id =>
      refine⟨id,rfl,?_,by simpa[νb,hb] using hbi⟩;have hk:=F.at_ i id hb
      cases hB':lkB S.h id with
      |dead=>rw[hB'] at hk; rw[show lkB _ i=_ from hk] at hi; cases hi
      |cells=>rfl
      |map=>rfl
      |deep=>rfl
      |row t g fz xs =>
       cases fz with
       |false=>rfl
       |true=>rw[hB'] at hk; rw[show lkB _ i=_ from hk] at hi; cases hi
   obtain⟨id,q1,q2,q3⟩:=at1 i hi hbi;obtain⟨id',q4,q5,q6⟩:=at1 j hj hbj;have:=H.heap.inj id id' b q2 q5 q3 q6;subst this;exact F.inj i j id q1 q4
 have hpin:∀i,i<pin→jQ M.bd i=some (.at_ i):=fun i hi=>(eL.trans eH).bd i i (ajX hi c1);refine⟨νb M.bd ν,⟨H.defers,?_,fun i=>?_,hHR⟩,⟨rfl,rfl,rfl,dg _,fun b _ hb=>⟨rfl,fun hb'=>hb (F.subL b hb')⟩,fun i hi=>?_⟩,by rw[hhlen]; exact c1,fun i hi hdead=>?_⟩
 ·have:=H.len;simp only[di,f9,MV];omega
 ·simp only[Sn];exact acW H.heap hL M eH F (fun k=>a.tmps.getD k undef) (fun k=>H.tmps k) i
 ·have hb:=hpin i hi;have hk:=F.at_ i i hb
  cases hl:lkB S.h i with
  |dead=>trivial
  |cells c=>rw[hl] at hk; exact⟨hk,qp hb⟩
  |row t g fz xs =>
   rw[hl] at hk
   cases fz with
   |true=>exact⟨g,true,xs,hk,dg _,fun _=>⟨qp hb,rfl⟩⟩
   |false =>
    have hg:=(LF c4 i hi).1 t g xs hl;exact⟨0,false,xs,hk,by omega,fun _=>⟨qp hb,rfl⟩⟩
  |map k u es=>rw[hl] at hk; exact⟨⟨es,hk⟩,qp hb⟩
  |deep k g xss =>
   rw[hl] at hk;have hg:=(LF c4 i hi).2 k g xss hl;exact⟨0,xss,hk,by omega,fun _=>⟨qp hb,rfl⟩⟩
 ·have hk:=F.at_ i i (hpin i hi);rw[hdead] at hk;exact hk
end
end Go.Am
end

noncomputable section
namespace Go.Am
variable [ø]
section
variable {ρ:Type} {ν ν':Nat→Value} {h h':List Blk} {w w':World} {P:Program}
def lI (w:World) (G:Nat→Prop) (t:Ty) (x:Val t) (v:Value):Prop:=∃us,CR w G t x us∧v=yM t us
def AT (w:World) (G:Nat→Prop):(l:List Ty)→(t:Ty)→Val (tys t l)→List Value→Prop
 |[],t,x,vs=>∃v,vs=[v]∧lI w G t x v
 |u::l,t,x,vs=>∃v vs',vs=v::vs'∧lI w G t (x:Val t×Val (tys u l)).1 v∧AT w G l u (x:Val t×Val (tys u l)).2 vs'
def AL (w:World) (G:Nat→Prop):(l:List Ty)→Val (tyL l)→List Value→Prop
 |[],_,vs=>vs=[]
 |t::l,x,vs=>AT w G l t x vs
def RR (w:World) (G:Nat→Prop):(l:List Ty)→Val (tyL l)→Value→Prop
 |[],_,u=>u=.tuple #[]
 |[t],x,u=>lI w G t x u
 |t::u'::l,x,u=>∃vs,u=.tuple vs∧AT w G (u'::l) t x vs.toList
def jt (P:Program) (f:Nat) (p:Ö):Prop :=
 ∀(G:Nat→Prop) (x:Val (tyL p.ts)) (y:Val (tyL p.rs)),p.F x=some y→∀(w:World) (vals:List Value),(∀b,G b→b<w.heap.size)→AL w G p.ts x vals →
  (∃fn c,P.funcs[f]?=some fn∧fn.body=some c) ∧
  CallsIn Fence.wide 0 P f vals.toArray w fun e w'=>∃u,e=.returned u∧RR w' G p.rs y u∧(∀b,b<w.heap.size→w'.heap[b]?=w.heap[b]?)∧w.heap.size≤w'.heap.size∧w'.os=w.os∧w'.tape=w.tape∧w'.output=w.output
def abg {a:AV} {vs:List AV} (e:Ţ a=some vs):mu a=vs:=by
 cases a<;>simp only[Ţ,Option.some.injEq,reduceCtorEq] at e<;>exact e
def Bs {G:Nat→Prop} {t:Ty} {x:Val t} {a:AV} {v:Value} {vs:List AV} (hag:(Xf a==t.isAgg)=true) (hc:Ţ a=some vs) (hv:VR ν h w a v)
 (hs:∀c∈mu a,∀u,VR1 ν h w c u→VRs w G (ă h c) u) (e:ç t (vs.map (ă h))=some x):lI w G t x v:=by
 have h1:=hv.cells hc;have h2:Č (VRs w G) (vs.map (ă h)) v.cells.toList:=Č.map_left (aux vs _ h1 fun c hm u hu=>hs c (by rw[abg hc]; exact hm) u hu.1);refine⟨_,Ź e h2,?_⟩
 cases ha:a.isAgg with
 |true =>
  cases a<;>try cases ha
  obtain⟨us,rfl,_⟩:=hv
  have:t.isAgg=true:=by simpa[Xf] using hag
  simp[yM,this,Value.cells]
 |false =>
  have hn:Xf a=false:=by cases a<;>first|rfl|cases ha
  have htf:t.isAgg=false:=by rw[hn] at hag; simpa using hag
  have htu:a.isTup=false:=by cases a<;>first|rfl|cases hc
  have h3:=(hv.one ha htu).oneCell hc;simp[yM,htf,rH h3]
where
 aux {w:World} {G:Nat→Prop} {ν:Nat→Value} {h:List Blk} (vs:List AV) (us:List Value) (h1:Č (VRc ν h w) vs us) (hh:∀c∈vs,∀u,VRc ν h w c u→VRs w G (ă h c) u):Č (fun c b=>VRs w G (ă h c) b) vs us:=by
  induction vs generalizing us with
  |nil=>cases us with
   |nil=>trivial
   |cons=>exact h1.elim
  |cons c vs ih=>cases us with
   |nil=>exact h1.elim
   |cons u us=>exact⟨hh c (by simp) u h1.1,ih us h1.2 fun c hm u hu=>hh c (by simp[hm]) u hu⟩
def abw (H:HR ν h w) {G:Nat→Prop} {t:Ty} {x:Val t} {a:AV} {v:Value} (hv:VR ν h w a v)
 (hs:∀c∈mu a,∀u,VR1 ν h w c u→VRs w G (ă h c) u) (hb:∀id cs,a=.box id 0→lkB h id=.cells cs→(∀b,π (ν id) b→¬G b)∧∀c∈cs,∀u,VR1 ν h w c u→VRs w G (ă h c) u) (hd:∀id g,a=.dp id g→(lkB h id).live=true→∀b,π (ν id) b→¬G b) (e:aoQ h t a=some x):lI w G t x v:=by
 cases ht:(match t with|.ptr _=>true|_=>false) with
 |false =>
  by_cases hdp:∃id g,a=.dp id g
  ·obtain⟨id,g,rfl⟩:=hdp
   have e':(match lkB h id with
    |.deep k g' xss=>match g==g' with
     |true=>match decEq (Ty.slice (.slice (.int k))) t with
      |isTrue e=>some (Ou (F:=Val) e xss)
      |isFalse _=>none
     |false=>none
    |_=>none)=some x:=by
    cases t<;>first|exact e|cases ht
   split at e'<;>try (cases e'; done)
   rename_i k g' xss hl
   split at e'<;>try (cases e'; done)
   rename_i hg
   split at e'<;>try (cases e'; done)
   rename_i hty _;subst hty;cases e';obtain⟨ho,k2,g2,xss2,hl2,_,hq⟩:=hv;rw[hl] at hl2; cases hl2;have hcr:=abY H hl (hq (by simpa using hg)) (hd id g rfl (by rw[hl]; rfl));exact⟨[v],hcr,rfl⟩
  have e':(match Xf a==t.isAgg with|true=>(match Ţ (aiv h a) with|some cs=>ç t cs|none=>none)|false=>none)=some x:=by
   have hn:∀id g,a≠.dp id g:=fun id g q=>hdp ⟨id,g,q⟩
   cases t<;>first|(cases ht; done)|(cases a<;>first|exact e|exact absurd rfl (hn _ _))
  split at e'<;>try (cases e'; done)
  rename_i hag
  split at e'<;>try (cases e'; done)
  rename_i cs hcs;obtain⟨vs,h1,rfl⟩:=JS hcs;exact Bs hag h1 hv hs e'
 |true =>
  cases t<;>try cases ht
  rename_i u;simp only[aoQ] at e
  split at e<;>try (cases e; done)
  ·rename_i id
   split at e<;>try (cases e; done)
   rename_i cs hl;obtain⟨cs',b,h1,h2,h3⟩:=hv.one rfl rfl;have hB:=H.blk id;rw[hl] at hB;obtain⟨b',c,e',h4,h5,h6⟩:=hB;rw[h2] at h4; cases h4;obtain⟨hG,hcs⟩:=hb id cs rfl hl;have hcr:CR w G u x c.toList:=Ź e (Č.map_left (Bs.aux cs _ h6 fun c hc u hu=>hcs c hc u hu.1));refine⟨[v],⟨b,0,c.toList,by rw[h3],hG b (by rw[h2]; rfl),ę h5,hcr,Ň.of_cells h5⟩,rfl⟩
  ·rename_i t' y
   split at e<;>try (cases e; done)
   rename_i heq _;subst heq;cases e;have h1:=hs _ (by simp[mu]) v (hv.one rfl rfl);obtain⟨b,o,us,h2,h3,h4,h5,h6⟩:=h1;exact⟨[v],⟨b,o,us,by rw[h2]; rfl,h3,h4,h5,h6⟩,rfl⟩
def Tv (H:HR ν h w) {G:Nat→Prop}:∀(l:List Ty) (t:Ty) (x:Val (tys t l)) (as:List AV) (vs:List Value),Č (VR ν h w) as vs →
 (∀a∈as,∀c∈mu a,∀u,VR1 ν h w c u→VRs w G (ă h c) u)→(∀a∈as,∀id cs,a=.box id 0→lkB h id=.cells cs→(∀b,π (ν id) b→¬G b)∧∀c∈cs,∀u,VR1 ν h w c u→VRs w G (ă h c) u)→(∀a∈as,∀id g,a=.dp id g→(lkB h id).live=true→∀b,π (ν id) b→¬G b)→abv h l t as=some x→AT w G l t x vs
 |[],t,x,[],vs,_,_,_,_,e=>by cases e
 |[],t,x,[a],vs,hv,hs,hb,hd,e=>by
  obtain⟨v,rfl,h1⟩:=hv.one;exact⟨v,rfl,abw H h1 (hs a (by simp)) (hb a (by simp)) (hd a (by simp)) e⟩
 |[],t,x,_::_::_,vs,_,_,_,_,e=>by cases e
 |u::l,t,x,[],vs,_,_,_,_,e=>by cases e
 |u::l,t,x,a::as,[],hv,_,_,_,e=>hv.elim
 |u::l,t,x,a::as,v::vs,hv,hs,hb,hd,e=>by
  simp only[abv] at e
  split at e<;>try (cases e; done)
  rename_i y hy
  split at e<;>try (cases e; done)
  rename_i z hz;cases e;exact⟨v,vs,rfl,abw H hv.1 (hs a (by simp)) (hb a (by simp)) (hd a (by simp)) hy,Tv H l u z as vs hv.2 (fun a ha=>hs a (by simp[ha])) (fun a ha=>hb a (by simp[ha])) (fun a ha=>hd a (by simp[ha])) hz⟩
def Tw (H:HR ν h w) {G:Nat→Prop} {l:List Ty} {x:Val (tyL l)} {as:List AV} {vs:List Value} (hv:Č (VR ν h w) as vs)
 (hs:∀a∈as,∀c∈mu a,∀u,VR1 ν h w c u→VRs w G (ă h c) u) (hb:∀a∈as,∀id cs,a=.box id 0→lkB h id=.cells cs→(∀b,π (ν id) b→¬G b)∧∀c∈cs,∀u,VR1 ν h w c u→VRs w G (ă h c) u) (hd:∀a∈as,∀id g,a=.dp id g→(lkB h id).live=true→∀b,π (ν id) b→¬G b) (e:JF h l as=some x):AL w G l x vs:=by
 cases l with
 |nil=>cases as with
  |nil=>exact hv.nil_left
  |cons=>cases e
 |cons t l=>exact Tv H l t x as vs hv hs hb hd e
def lI.mono {G G':Nat→Prop} (hm:∀b,G' b→G b) {t:Ty} {x:Val t} {v:Value} (hv:lI w G t x v):lI w G' t x v:=by
 obtain⟨us,h1,h2⟩:=hv;exact⟨us,CR.mono hm h1,h2⟩
def LH {av av':Nat→Prop}:∀{t:Ty} {x:Val t} {us:List Value},(flat t x).all C3=true→CR w av t x us→CR w av' t x us
 |.unit,_,_,_,hc=>hc
 |.bool,_,_,_,hc=>hc
 |.int _,_,_,_,hc=>hc
 |.str,_,_,_,hc=>hc
 |.slice _,_,_,hp,_=>by simp[flat,C3] at hp
 |.map _ _,_,_,hp,_=>by simp[flat,C3] at hp
 |.ptr _,_,_,hp,_=>by simp[flat,C3] at hp
 |.pair a b,x,us,hp,hc=>by
  simp only[flat,List.all_append,dh] at hp;obtain⟨u1,u2,e,h1,h2⟩:=hc;exact⟨u1,u2,e,LH hp.1 h1,LH hp.2 h2⟩
def ann {t:Ty} {x:Val t} (hp:plain (enc t x)=true):(flat t x).all C3=true:=by
 cases t<;>first|exact hp|(simp only[enc,plain,C3] at hp; simp[flat,C3])|(simp[enc,plain,C3] at hp)
def lI.plain {G G':Nat→Prop} {t:Ty} {x:Val t} {v:Value} (hp:plain (enc t x)=true) (hv:lI w G t x v):lI w G' t x v:=by
 obtain⟨us,h1,h2⟩:=hv;exact⟨us,LH (ann hp) h1,h2⟩
def AT.plain {G G':Nat→Prop}:∀{l:List Ty} {t:Ty} {x:Val (tys t l)} {vs:List Value},(ano l t x).all Go.Am.plain=true→AT w G l t x vs→AT w G' l t x vs
 |[],t,x,vs,hp,⟨v,h1,h2⟩=>⟨v,h1,h2.plain (by simpa[ano] using hp)⟩
 |u::l,t,x,vs,hp,⟨v,vs',h1,h2,h3⟩=>by
  simp only[ano,gc,dh] at hp;exact⟨v,vs',h1,h2.plain hp.1,AT.plain hp.2 h3⟩
def ach {v:AV} (hp:v.isTup=false):Pq v=Go.Am.plain v:=by cases v<;>first|rfl|cases hp
def LM {t:Ty} {x:Val t}:(enc t x).isTup=false:=by cases t<;>rfl
def RR.plain {G G':Nat→Prop}:∀{l:List Ty} {x:Val (tyL l)} {u:Value},Pq (afY l x)=true→RR w G l x u→RR w G' l x u
 |[],_,_,_,h=>h
 |[t],x,u,hp,h=>lI.plain ((ach (LM (t:=t) (x:=x))).symm.trans hp) h
 |t::u'::l,x,u,hp,⟨vs,h1,h2⟩=>⟨vs,h1,h2.plain hp⟩
def lI.VR {t:Ty} {x:Val t} {v:Value} (hv:lI w (Av ν h) t x v):VR ν h w (enc t x) v:=by
 obtain⟨us,h1,rfl⟩:=hv;exact MZ h1
def AT.VR:∀{l:List Ty} {t:Ty} {x:Val (tys t l)} {vs:List Value},AT w (Av ν h) l t x vs→Č (VR ν h w) (ano l t x) vs
 |[],t,x,_,⟨v,rfl,h2⟩=>⟨h2.VR,trivial⟩
 |u::l,t,x,_,⟨v,vs',rfl,h2,h3⟩=>⟨h2.VR,AT.VR h3⟩
def SW:∀{l:List Ty} {t:Ty} {x:Val (tys t l)},∀a∈ano l t x,a.isTup=false
 |[],t,x,a,hm=>by simp only[ano,dt] at hm; rw[hm]; exact LM
 |u::l,t,x,a,hm=>by
  simp only[ano,dm] at hm;rcases hm with rfl|hm
  ·exact LM
  ·exact SW a hm
def Č.VR2:∀{as:List AV} {vs:List Value},Č (VR ν h w) as vs→(∀a∈as,a.isTup=false)→Č (VR2 ν h w) as vs
 |[],[],_,_=>trivial
 |a::as,v::vs,hv,hn=>⟨by rw[←L7 (hn a (by simp))]; exact hv.1,Č.VR2 hv.2 fun a ha=>hn a (by simp[ha])⟩
 |[],_::_,hv,_=>hv.elim
 |_::_,[],hv,_=>hv.elim
def RR.VR:∀{l:List Ty} {x:Val (tyL l)} {u:Value},RR w (Av ν h) l x u→VR ν h w (afY l x) u
 |[],_,_,h=>by cases h; exact⟨#[],rfl,trivial⟩
 |[t],x,u,h=>lI.VR h
 |t::u'::l,x,u,⟨vs,h1,h2⟩=>⟨vs,h1,Č.VR2 h2.VR SW⟩
def Nb (P:Program) (g:Nat) (ν:Nat→Value) (h:List Blk) (w:World) (vals:List Value) (K:AV→List Blk→Option ρ) (r:ρ):Prop :=
 (∃fn c,P.funcs[g]?=some fn∧fn.body=some c) ∧
 CallsIn Fence.wide 0 P g vals.toArray w fun e w'=>∃ν' h' v u,e=.returned u∧VR ν' h' w' v u∧HR ν' h' w'∧Ev h.length ν h w ν' h' w'∧h.length≤h'.length∧(∀j,j<h.length→lkB h j=.dead→lkB h' j=.dead)∧K v h'=some r
def aja {c:AV} {u:Value}:∀{as:List AV} {h:List Blk},HR ν h w→c∈as→Wx c=true→VR1 ν h w c u→VRs w (Av ν (BW h as)) (ă h c) u
 |[],_,_,hm,_,_=>by cases hm
 |a::as,h,H,hm,hn,hv=>by
  obtain⟨e1,H1,l1⟩:=aa1 H a;rcases dm.1 hm with rfl|hm
  ·exact VRs.mono ((FV as H1).2.2) (ae6 H hv hn)
  ·have:=aja (as:=as) H1 hm hn (hv.ev e1)
   rwa [JT] at this
def aj7 {f:Nat} {p:Ö} (hp:jt P f p) {b:Bool} {args:List AV} {K:AV→List Blk→Option ρ} {r:ρ} (e:XZ b p h args K=some r) (H:HR ν h w) {vals:List Value} (hv:Č (VR ν h w) args vals):Nb P f ν h w vals K r:=by
 unfold XZ at e
 split at e<;>try (cases e; done)
 rename_i x hx;simp only[Ã] at e
 split at e<;>try (cases e; done)
 rename_i y hy
 -- the call, with what may not be touched
 have call:∀(G:Nat→Prop),(∀b,G b→b<w.heap.size)→AL w G p.ts x vals→∀(h':List Blk),HR ν h' w→Ev h.length ν h w ν h' w→h.length≤h'.length→(∀j,j<h.length→lkB h j=.dead→lkB h' j=.dead) →
  (∀w' u,RR w' G p.rs y u→RR w' (Av ν h') p.rs y u)→K (afY p.rs y) h'=some r→Nb P f ν h w vals K r:=by
  intro G hG hal h' H' ev hl hdead hrr hK;obtain⟨h1,h2⟩:=hp G x y hy w vals hG hal;refine⟨h1,h2.mono fun e w' hw=>?_⟩;obtain⟨u,rfl,g1,g2,g3,g4,g5,g6⟩:=hw;obtain⟨ev',H''⟩:=H'.grow g2 g3 g4 g5 g6 h.length;exact⟨ν,h',_,u,rfl,(hrr w' u g1).VR,H'',ev.trans ev' (dg _),hl,hdead,hK⟩
 split at e
 ·rename_i hpl;exact call (fun _=>False) (fun _ hf=>hf.elim) (Tw H hv (fun a _ c _ u hu=>ab3 H hu) (fun _ _ _ _ _ _=>⟨fun _ _ hf=>hf,fun c _ u hu=>ab3 H hu⟩) (fun _ _ _ _ _ _ _ _ hf=>hf) hx) h H (Ev.refl _ _ _ _) (dg _) (fun _ _ hd=>hd) (fun w' u hr=>hr.plain hpl) e
 ·split at e
  ·rename_i hown
   have hown':∀a∈args,vW a=false:=fun a ha=>by have:=dO.1 hown a ha; simpa using this
   refine call (Av ν h) (fun b hb=>H.ltA hb) (Tw H hv (fun a ha c hc u hu=>?_) (fun a ha id cs hid _=>?_) (fun a ha id g hid=>?_) hx) h H (Ev.refl _ _ _ _) (dg _) (fun _ _ hd=>hd) (fun w' u hr=>hr) e
   ·have hc1:abz c=false:=by
     have:=hown' a ha
     cases a<;>first
      |(simp only[mu,dt] at hc; subst hc; exact this)
      |(simp only[mu] at hc; simp only[vW,fo] at this; simpa using this c hc)
    have:ă h c=c:=by cases c<;>first|rfl|cases hc1
    rw[this]; exact hu.data
   ·subst hid; cases hown' _ ha
   ·subst hid; cases hown' _ ha
  ·split at e<;>try (cases e; done)
   rename_i hnr;simp only[Bool.or_eq_false_iff,fB] at hnr;have hnr':∀a∈args,ams a=true:=dO.1 hnr.2;obtain⟨ev,H',hsub⟩:=FV (args.flatMap mu) H;refine call (Av ν (BW h (args.flatMap mu))) (fun b hb=>H'.ltA hb) (Tw H hv (fun a ha c hc u hu=>?_) (fun a ha id cs hid _=>?_) (fun a ha id g hid=>?_) hx) _ H' ev (by rw[ψ]; exact dg _) (fun _ _ hd=>SC _ hd) (fun w' u hr=>hr) e
   ·refine aja H (dK.2 ⟨a,ha,hc⟩) ?_ hu;have:=hnr' a ha
    have hc1:amr c=true:=by
     cases a<;>first
      |(simp only[mu,dt] at hc; subst hc; exact this)
      |(simp only[mu] at hc; simp only[ams,dO] at this; exact this c hc)
    cases c<;>first|rfl|cases hc1
   ·subst hid; cases hnr' _ ha
   ·subst hid; cases hnr' _ ha
end
end Go.Am
end

noncomputable section
namespace Go.Am
variable [ø]
section
variable {ρ:Type} {ν ν':Nat→Value} {h h':List Blk} {w w':World} {P:Program}
def Ww {v v':AV} (e:apy v=some v'):v'=v∧v.isTup=false:=by
 cases v<;>simp only[apy,Option.some.injEq,reduceCtorEq] at e<;>exact⟨e.symm,rfl⟩
def aj4 {S:St} {a:Act} (H:Sim ν S a w) {rv:ResultVar} {v:AV} (e:agi P S.h S.t rv=some v) :
 ∃u,(match rv with|.tmp t=>(pure (a.tmps.getD t undef):Sem Value)|.cell x t=>do loadVar t (←asAddr (a.tmps.getD x undef))).run P w=.ok u w∧VR2 ν S.h w v u:=by
 cases rv with
 |tmp i =>
  obtain⟨rfl,ht⟩:=Ww e;have:=H.tmps i;rw[L7 ht] at this;exact⟨_,rfl,this⟩
 |cell x t =>
  simp only[agi] at e
  split at e<;>try (cases e; done)
  rename_i v' hl;obtain⟨rfl,ht⟩:=Ww e;obtain⟨u,h1,h2⟩:=amR H.heap hl (H.tmps x);rw[L7 ht] at h2;refine⟨u,?_,h2⟩;simp only[Instr.loadAt] at h1
  cases hx:a.tmps.getD x undef with
  |pointer p =>
   rw[hx] at h1
   cases p with
   |none=>simp[Instr.sureAddr] at h1
   |some ad =>
    show(do loadVar t (←asAddr (a.tmps.getD x undef)):Sem Value).run P w=_;rw[hx];simpa[Instr.sureAddr,asAddr] using h1
  |_=>rw[hx] at h1; simp[Instr.sureAddr] at h1
def V7 {S:St} {a:Act} (H:Sim ν S a w):∀{rs:List ResultVar} {vs:List AV},Pn P S.h S.t rs=some vs →
 ∃us:List Value,(rs.mapM (m:=Sem) fun|.tmp t=>pure (a.tmps.getD t undef)|.cell x t=>do loadVar t (←asAddr (a.tmps.getD x undef))).run P w=.ok us w∧Č (VR2 ν S.h w) vs us
 |[],vs,e=>by cases e; exact⟨[],rfl,trivial⟩
 |rv::rs,vs,e=>by
  simp only[Pn] at e
  split at e<;>try (cases e; done)
  rename_i v hv
  split at e<;>try (cases e; done)
  rename_i vs' hvs;cases e;obtain⟨u,h1,h2⟩:=aj4 H hv;obtain⟨us,h3,h4⟩:=V7 H hvs;refine⟨u::us,?_,h2,h4⟩;simp only[List.mapM_cons,Sem.run_bind,Sem.run_pure];rw[h1];simp only[Result.andThen_ok];rw[h3];rfl
def VR2.up {v:AV} {u:Value} (hv:VR2 ν h w v u):VR ν h w v u:=by
 cases ht:v.isTup with
 |true =>
  cases v<;>try cases ht
  exact hv.elim
 |false=>rw[L7 ht]; exact hv
def JV {S:St} {a:Act} {fn:Func} {v:AV} (H:Sim ν S a w) (e:qu P fn S=some v):∃u,(results fn a.tmps).run P w=.ok u w∧VR ν S.h w v u:=by
 unfold qu at e
 cases hr:Pn P S.h S.t fn.results.toList with
 |none=>rw[hr] at e; cases e
 |some vs =>
  obtain⟨us,h1,h2⟩:=V7 H hr
  have hrun:(results fn a.tmps).run P w=.ok (if h:us.toArray.size=1 then us.toArray[0] else .tuple us.toArray) w:=by
   unfold results;rw[Sem.run_bind,Array.mapM_eq_mapM_toList,Sem.run_map]
   erw [h1]
   rfl
  rw[hr] at e
  rcases vs with _|⟨x,_|⟨y,l⟩⟩<;>rcases us with _|⟨u,_|⟨u',m⟩⟩
  ·cases e; exact⟨_,hrun,⟨#[],by simp,trivial⟩⟩
  ·exact h2.elim
  ·exact h2.elim
  ·exact h2.elim
  ·cases e; exact⟨_,hrun,h2.1.up⟩
  ·exact h2.2.elim
  ·exact h2.elim
  ·exact h2.2.elim
  ·cases e; exact⟨_,hrun,⟨(u::u'::m).toArray,by simp,h2⟩⟩
def Č.lk {R:AV→Value→Prop} (hany:∀u,R .any u):∀{l:List AV} {m:List Value} (i:Nat),Č R l m→R (Am.lk l i) (m.getD i undef)
 |[],[],i,_=>hany _
 |_::_,_::_,0,h=>h.1
 |_::_,_::_,i+1,h=>by simpa[Am.lk] using Č.lk hany i h.2
 |[],_::_,_,h=>h.elim
 |_::_,[],_,h=>h.elim
def Flat:Prop:=ø.D=[]∧ø.Q=none
def I6 (h:ø.Q=none):fen=Fence.wide:=by
 unfold fen;rw[h];rfl
def SV {E:Env ρ} {call:List Nat→Bool→Nat→List AV→List Blk→(AV→List Blk→Option ρ)→Option ρ} {N:Nat} (hE:mB E N call) (hD:mV E N call) {path:List Nat} (hpath:path.length+2=N) {f:Nat} {args:List AV} {K:AV→List Blk→Option ρ} {r:ρ}
 (h0:Flat) (hL:∀fn c,E.P.funcs[f]?=some fn→fn.body=some c→∀x∈í 0 c,rL E path f x.1 x.2)
 (e:ajg E call path f args h K=some r) {vals:List Value} (H:HR ν h w) (hargs:Č (VR ν h w) args vals) :
 (∃fn c,E.P.funcs[f]?=some fn∧fn.body=some c) ∧
 CallsIn Fence.wide 0 E.P f vals.toArray w fun e w'=>∃ν' h' v u,e=.returned u∧VR ν' h' w' v u∧HR ν' h' w'∧Ev h.length ν h w ν' h' w'∧h.length≤h'.length∧(∀j,j<h.length→lkB h j=.dead→lkB h' j=.dead)∧K v h'=some r:=by
 unfold ajg at e
 split at e<;>try (cases e; done)
 rename_i fn hfn
 split at e<;>try (cases e; done)
 rename_i c hc;refine⟨⟨fn,c,hfn,hc⟩,?_⟩;refine callsIn_of_wp hfn hc trivial ?_;have hlen:=hargs.length
 have hS:Sim ν {t:=args++List.replicate (fn.ntmps-args.length) .any,h:=h} {tmps:=vals.toArray++Array.replicate (fn.ntmps-vals.toArray.size) undef,defers:=[]} w:=by
  refine⟨h0.1.symm,by simp[hlen],fun i=>?_,H⟩;simp only[Sn];rcases dG i args.length with hi|hi
  ·have:=Č.lk (R:=VR ν h w) (fun _=>trivial) i hargs
   have hv:i<vals.length:=by omega
   have h2:(vals.toArray++Array.replicate (fn.ntmps-vals.toArray.size) undef).getD i undef=vals.getD i undef:=by
    simp[dY,fA,hv]
   rw[h2]; exact this
  ·rw[amT _ _ hi]; trivial
 have hgo:=mi hE hD hpath c 0 _ _ ν _ w (hL fn c hfn hc) e hS (dg _);rw[I6 h0.2] at hgo;refine wpIn_mono hgo fun x a' w' ha=>?_;obtain⟨ν',S',h1,h2,h3,h4,h5⟩:=ha
 have fin:∀v,qu E.P fn S'=some v→K v S'.h=some r→a'.defers=[]∧∃u,(results fn a'.tmps).run E.P w'=.ok u w'∧∃ν' h' v u',Ending.returned u=.returned u'∧VR ν' h' w' v u'∧HR ν' h' w'∧Ev h.length ν h w ν' h' w'∧h.length≤h'.length∧(∀j,j<h.length→lkB h j=.dead→lkB h' j=.dead)∧K v h'=some r:=by
  intro v hv hk;obtain⟨u,q1,q2⟩:=JV h1 hv;exact⟨h1.defers.trans h0.1,u,q1,ν',S'.h,v,u,rfl,q2,h1.heap,h2,h3,h4,hk⟩
 cases x with
 |normal =>
  simp only at h5
  split at h5<;>try (cases h5; done)
  exact fin _ ‹_› h5
 |ret =>
  simp only at h5
  split at h5<;>try (cases h5; done)
  exact fin _ ‹_› h5
 |exit id=>cases h5
 |goto l=>cases h5
 |panic ch=>cases h5
 |outgrown=>cases h5
structure OA (E:Env ρ):Prop where
 pure:∀f p,E.pure f=some p→jt E.P f p
 sort:∀f,E.sort f=true→∀(h:List Blk) (x:AV) (K:AV→List Blk→Option ρ) (r:ρ),XQ h x K=some r→∀ν w u,HR ν h w→VR ν h w x u→Nb E.P f ν h w [u] K r
 compact:∀f,E.compact f=true→∀(h:List Blk) (x:AV) (K:AV→List Blk→Option ρ) (r:ρ),pS h x K=some r→∀ν w u,HR ν h w→VR ν h w x u→Nb E.P f ν h w [u] K r
 plain : ∀ (f : Nat) (fn : Func), E.P.funcs[f]? = some fn → (fn.name == "runtime.NumGoroutine") = false
 clone:Ma E.P E.clone
 joins:ajO E
omit [ø] in
def rI {E:Env ρ} (n:Nat):(∀f p,E.pure f=some p→∀path draw args h K,kr E (n+1) path draw f args h K=XZ (draw&&!E.fz f) p h args K) ∧
 (∀f,E.pure f=none→E.sort f=true→∀path draw args h K,kr E (n+1) path draw f args h K=match args with|[x]=>XQ h x K|_=>none) ∧
 (∀f,E.pure f=none→E.sort f=false→E.compact f=true→∀path draw args h K,kr E (n+1) path draw f args h K=match args with|[x]=>pS h x K|_=>none) :=
 ⟨fun f p hf path draw args h K=>by simp only[kr,hf],fun f hf hs path draw args h K=>by simp only[kr,hf,hs]; rfl,fun f hf hs hc path draw args h K=>by simp only[kr,hf,hs,hc]; rfl⟩
def nB {E:Env ρ} (h0:Flat∨∀f,E.inl f=false) (hlib:OA E) (hdraw:∀L call,mB E L call→mV E L call)
 (hloops:∀n,n≤10→mB E (22-2*n) (kr E n)→∀(path:List Nat) (f:Nat) (fn:Func) (c:Code),path.length+2=22-2*n→E.P.funcs[f]?=some fn→fn.body=some c→∀x∈í 0 c,rL E path f x.1 x.2) :
 ∀n,n≤10→afU E.P (22-2*n) (kr E n):=by
 intro n
 induction n with
 |zero=>intro _ path draw g args h K r _ e; cases e
 |succ n ih =>
  intro hn path draw g args h K r hp e ν w vals H hargs
  have hE:mB E (22-2*n) (kr E n):=⟨by
   cases n with
   |zero=>exact .inl fun _ _ _ _ _ _=>rfl
   |succ n=>exact .inr (rI n),ih (by omega),hlib.plain,hlib.clone,hlib.joins⟩
  simp only[kr] at e
  split at e
  ·rename_i gm hg;exact aj7 (hlib.pure g gm hg) e H hargs
  ·split at e
   ·rename_i hs
    split at e<;>try (cases e; done)
    rename_i x;obtain⟨u,rfl,hu⟩:=hargs.one;exact hlib.sort g hs h x K r e ν w u H hu
   ·split at e
    ·rename_i hc
     split at e<;>try (cases e; done)
     rename_i x;obtain⟨u,rfl,hu⟩:=hargs.one;exact hlib.compact g hc h x K r e ν w u H hu
    ·split at e<;>try (cases e; done)
     rename_i hinl
     split at e<;>try (cases e; done)
     have hpath:path.length+2=22-2*n:=by omega
     exact SV hE (hdraw _ _ hE) hpath (h0.resolve_right fun hf=>by rw[hf g] at hinl; cases hinl) (fun fn c h1 h2=>hloops n (by omega) hE path g fn c hpath h1 h2) e H hargs
end
end Go.Am
end

noncomputable section
namespace Go.Am
variable [ø]
section
variable {ρ:Type} {P:Program} {h h2:List Blk} {t t2:List AV}
def oG (h h2:List Blk) (v:AV):Prop:=∀id∈refs2 h v,lkB h2 id=lkB h id
def oG.one {v:AV} (hs:oG h h2 v):∀id∈refs1 v,lkB h2 id=lkB h id:=fun id hi=>hs id (by simp only[refs2,dk]; exact .inl hi)
def oG.refs {v:AV} (hs:oG h h2 v):refs2 h2 v=refs2 h v:=by
 simp only[refs2]
 have:∀(l:List Nat),(∀id∈l,lkB h2 id=lkB h id)→(l.flatMap fun id=>(Tc (lkB h2 id)).flatMap Ķ)=l.flatMap fun id=>(Tc (lkB h id)).flatMap Ķ:=by
  intro l
  induction l with
  |nil=>intro _; rfl
  |cons x l ih=>intro hl; simp only[ez]; rw[hl x (by simp),ih fun id hi=>hl id (by simp[hi])]
 rw[this _ hs.one]
def qd {v:AV} (hs:∀id∈Ķ v,lkB h2 id=lkB h id):ă h2 v=ă h v:=by
 cases v<;>first
  |rfl
  |(simp only[ă]; rw[hs _ (by simp[Ķ])])
def Pk {v:AV} (hs:∀id∈refs1 v,lkB h2 id=lkB h id):aiv h2 v=aiv h v:=by
 have one:(∀id∈Ķ v,lkB h2 id=lkB h id)→ă h2 v=ă h v:=qd
 cases v with
 |agg cs =>
  simp only[aiv,AV.agg.injEq];exact fM fun c hc=>qd fun id hi=>hs id (dK.2 ⟨c,hc,hi⟩)
 |fn f a b=>exact one fun _ hi=>by cases hi
 |_=>exact one hs
def aks {ty:TypeId} {a:AV} (hs:∀id∈refs1 a,lkB h2 id=lkB h id) (K:AV→Option ρ):VL P h2 ty a K=VL P h ty a K:=by
 cases a<;>first
  |rfl
  |(simp only[VL]; rw[hs _ (by simp[refs1,Ķ])])
def aga {o:Nat} {a:AV} (hs:∀id∈refs1 a,lkB h2 id=lkB h id) (K:AV→Option ρ):C1 h2 a o K=C1 h a o K:=by
 cases a<;>first
  |rfl
  |(simp only[C1]; rw[hs _ (by simp[refs1,Ķ])])
def ahu {sz:Nat} {a i:AV} (hs:∀id∈refs1 a,lkB h2 id=lkB h id) (K:AV→Option ρ):IY sz h2 a i K=IY sz h a i K:=by
 cases i<;>try rfl
 cases a<;>first
  |rfl
  |(simp only[IY]; rw[hs _ (by simp[refs1,Ķ])])
def amY {d:Option TypeDesc} {a:AV} (hs:∀id∈refs1 a,lkB h2 id=lkB h id) (K:AV→Option ρ):apL d h2 a K=apL d h a K:=by
 unfold apL
 split<;>cases a<;>first
  |rfl
  |(simp only[]; rw[hs _ (by simp[refs1,Ķ])])
def aeO {ty:TypeId} {m i:AV} {ok:Bool} (hs:∀id∈refs1 m,lkB h2 id=lkB h id) (K:AV→Option ρ):oU P h2 ty m i ok K=oU P h ty m i ok K:=by
 unfold oU
 have:ă h2 m=ă h m:=qd fun id hi=>hs id (by cases m<;>first|exact hi|simp[Ķ] at hi)
 rw[this]
def Me {σ:Type} {sz:Nat} {a:AV} {lo hi:Option AV} (K:AV→List Blk→Option σ):rR sz h a lo hi false K=(rR sz h a lo hi false fun v _=>some v).bind fun v=>K v h:=by
 unfold rR;dsimp only
 (repeat' split)<;>rfl
def af7 {sz:Nat} {a:AV} {lo hi:Option AV} (hs:∀id∈refs1 a,lkB h2 id=lkB h id):∃φ:Option AV,(∀{σ:Type} (K:AV→List Blk→Option σ),rR sz h a lo hi false K=φ.bind fun v=>K v h)∧∀{σ:Type} (K:AV→List Blk→Option σ),rR sz h2 a lo hi false K=φ.bind fun v=>K v h2:=by
 refine⟨rR sz h a lo hi false fun v _=>some v,fun K=>?_,fun K=>?_⟩
 ·exact Me K
 ·rw[Me K];congr 1
  cases a<;>first
   |rfl
   |(simp only[rR]; rw[hs _ (by simp[refs1,Ķ])])
def ap (nid:Nat) (ef:Option Blk) (h:List Blk):List Blk:=match ef with|none=>h|some B=>č h nid B
def pbind {α σ σ2:Type} {R:Option σ→Option σ2→Prop} (h0:R none none) {x:Option α} {K:α→Option σ} {K2:α→Option σ2} (h:∀a,R (K a) (K2 a)):R (x.bind K) (x.bind K2):=by
 cases x with
 |none=>exact h0
 |some a=>exact h a
def pb2 {α σ σ2:Type} {R:Option σ→Option σ2→Prop} (h0:R none none) {x:Option α} {K:α→Option σ} {K2:α→Option σ2} {z:Option σ} {z2:Option σ2} (h1:z=x.bind K) (h2:z2=x.bind K2) (h:∀a,R (K a) (K2 a)):R z z2:=by
 subst h1 h2; exact pbind h0 h
def PR {l:List Operand} (hx:∀x∈l,ev t2 x=ev t x):l.map (ev t2)=l.map (ev t):=fM hx
def amD {l:List (Nat×Operand)} (hx:∀x∈l.map (·.2),ev t2 x=ev t x):(l.map fun p=>(p.1,ev t2 p.2))=l.map fun p=>(p.1,ev t p.2):=fM fun p hp=>by rw[hx p.2 (dZ.2 ⟨p,hp,rfl⟩)]
def anb {v:AV} (hv:vW v=false):frz h v=h:=by
 have one:∀c,abz c=false→yu h c=h:=fun c hc=>by cases c<;>first|rfl|cases hc
 have this1:=one v
 cases v with
 |agg cs =>
  simp only[vW,fo] at hv;simp only[frz];clear this1
  induction cs with
  |nil=>rfl
  |cons c cs ih=>simp only[BW]; rw[one c (by simpa using hv c (by simp))]; exact ih fun x hx=>hv x (by simp[hx])
 |_=>exact this1 hv
def Xl:∀{ps:List (Nat×AV)},(∀p∈ps,vW p.2=false)→frzA h ps=h
 |[],_=>rfl
 |p::ps,hp=>by
  obtain⟨i,v⟩:=p;simp only[frzA];rw[anb (hp (i,v) (by simp))];exact Xl fun q hq=>hp q (by simp[hq])
def V4 {ty:Ty}:∀{ps:List (Nat×AV)} {n:Nat},(∀p∈ps,∀id∈refs1 p.2,lkB h2 id=lkB h id)→TL h2 ty n ps=TL h ty n ps
 |[],_,_=>rfl
 |(i,v)::ps,n,hp=>by
  simp only[TL];rw[Pk (hp (i,v) (by simp)),V4 fun q hq=>hp q (by simp[hq])]
def aqW {σ σ2:Type} {R:Option σ→Option σ2→Prop} {E:Env ρ} {o:Op} {nid:Nat} {K:AV→St→Option σ} {K2:AV→St→Option σ2} (h0:R none none) (hcl:cls E o≤1) (hcall:Xe o=false)
 (hx:∀x∈o.operands.toList,ev t2 x=ev t x) (hs:cls E o=1→∀x∈o.operands.toList,∀id∈refs1 (ev t x),lkB h2 id=lkB h id)
 (hb:∀ty n ps,o=.buildSlice ty n ps→ps.toList.all (fun p=>!vW (ev t p.2))=true)
 (hK:∀v ef,(ef.isSome=true→đ E.clone o=true)→R (K v {t:=t,h:=ap nid ef h}) (K2 v {t:=t2,h:=ap nid ef h2})) :
 R (opK P {t:=t,h:=h} nid false o K) (opK P {t:=t2,h:=h2} nid false o K2):=by
 have hn:∀v,R (K v {t:=t,h:=h}) (K2 v {t:=t2,h:=h2}):=fun v=>hK v none (by simp);have ha:đ E.clone o=true→∀v B,R (K v {t:=t,h:=č h nid B}) (K2 v {t:=t2,h:=č h2 nid B}):=fun al v B=>hK v (some B) fun _=>al
 cases o with
 |move x =>
  have e:=hx x (by simp[Op.operands]);simp only[opK,e]; exact hn _
 |assign x =>
  have e:=hx x (by simp[Op.operands]);simp only[opK,e]; exact hn _
 |pick c a b =>
  have e1:=hx c (by simp[Op.operands]);have e2:=hx a (by simp[Op.operands]);have e3:=hx b (by simp[Op.operands]);simp only[opK,e1,e2,e3]
  (repeat' split)<;>first|exact h0|exact hn _
 |box _ x =>
  have e:=hx x (by simp[Op.operands]);simp only[opK,e]
  (repeat' split)<;>first|exact h0|exact ha rfl _ _
 |alloc e =>
  simp only[opK]
  (repeat' split)<;>first|exact h0|exact ha rfl _ _
 |build ty ps =>
  have e:=amD (l:=ps.toList) (t:=t) (t2:=t2) fun x hm=>hx x (by simpa[Op.operands] using hm);simp only[opK,e]
  (repeat' split)<;>first|exact h0|exact hn _
 |buildSlice ty n ps =>
  have e:=amD (l:=ps.toList) (t:=t) (t2:=t2) fun x hm=>hx x (by simpa[Op.operands] using hm);have hown:=hb ty n ps rfl
  have hf:∀h:List Blk,frzA h (ps.toList.map fun p=>(p.1,ev t p.2))=h:=fun h=>Xl fun p hp=>by
   obtain⟨q,hq,rfl⟩:=dZ.1 hp;simpa using dO.1 hown q hq
  have hr:∀ty n,TL h2 ty n (ps.toList.map fun p=>(p.1,ev t p.2))=TL h ty n (ps.toList.map fun p=>(p.1,ev t p.2)):=fun ty n=>V4 fun p hp=>by
   obtain⟨q,hq,rfl⟩:=dZ.1 hp;exact hs rfl q.2 (by simpa[Op.operands] using⟨q.1,by simpa using hq⟩)
  simp only[opK,e,hf,hr]
  (repeat' split)<;>first|exact h0|exact ha rfl _ _
 |load ty a =>
  have e:=hx a (by simp[Op.operands]);have hsa:=hs rfl a (by simp[Op.operands]);simp only[opK,e];rw[aks hsa];exact pb2 h0 (vy ..) (vy ..) fun v=>hn v
 |nilCheck x =>
  have e:=hx x (by simp[Op.operands]);have hsa:=hs rfl x (by simp[Op.operands]);simp only[opK,e]
  cases hv:ev t x with
  |optr id g i off =>
   have:=hsa id (by rw[hv]; simp[refs1,Ķ]);simp only[this]
   (repeat' split)<;>first|exact h0|exact hn _
  |_=>first|exact h0|exact hn _
 |binOp op ty x y yt =>
  have e1:=hx x (by simp[Op.operands]);have e2:=hx y (by simp[Op.operands]);simp only[opK,e1,e2];exact pb2 h0 (Cq ..) (Cq ..) fun v=>hn v
 |unOp op ty x =>
  have e:=hx x (by simp[Op.operands]);simp only[opK,e]
  (repeat' split)<;>first|exact h0|exact hn _|exact pb2 h0 (F0 ..) (F0 ..) fun v=>hn v
 |convert src dst x =>
  have e:=hx x (by simp[Op.operands]);simp only[opK,e]
  (repeat' split)<;>first|exact h0|exact hn _
 |makeFunc fn first captured =>
  have e1:=PR (l:=first.toList) (t:=t) (t2:=t2) fun x hm=>hx x (by simp[Op.operands]; exact .inl (by simpa using hm));have e2:=PR (l:=captured.toList) (t:=t) (t2:=t2) fun x hm=>hx x (by simp[Op.operands]; exact .inr (by simpa using hm));simp only[opK,e1,e2]
  (repeat' split)<;>first|exact h0|exact hn _
 |makeMap ty r =>
  simp only[opK]
  (repeat' split)<;>first|exact h0|exact ha rfl _ _
 |makeSlice ty l c =>
  have e:=hx l (by simp[Op.operands]);simp only[opK,e]
  (repeat' split)<;>first|exact h0|exact ha rfl _ _
 |slice ty x lo hi mx =>
  have e:=hx x (by simp[Op.operands]);have hsa:=hs rfl x (by simp[Op.operands])
  have e1:lo.map (ev t2)=lo.map (ev t):=by
   cases lo with
   |none=>rfl
   |some l=>simp[hx l (by simp[Op.operands])]
  have e2:hi.map (ev t2)=hi.map (ev t):=by
   cases hi with
   |none=>rfl
   |some l=>simp[hx l (by simp[Op.operands])]
  simp only[opK,e,e1,e2]
  (repeat' split)<;>first
   |exact h0
   | (obtain ⟨φ, q1, q2⟩ := af7 hsa
      rw[q1,q2]
      exact pbind h0 fun v=>hn v)
 |fieldAddr ty x f =>
  have e:=hx x (by simp[Op.operands]);have hsa:=hs rfl x (by simp[Op.operands]);simp only[opK,e]
  (repeat' split)<;>first
   |exact h0
   |(rw[aga hsa]; exact pb2 h0 (qe ..) (qe ..) fun v=>hn v)
 |field ty x f =>
  have e:=hx x (by simp[Op.operands]);simp only[opK,e]
  (repeat' split)<;>first|exact h0|exact hn _
 |indexAddr ty x i =>
  have e1:=hx x (by simp[Op.operands]);have e2:=hx i (by simp[Op.operands]);have hsa:=hs rfl x (by simp[Op.operands]);simp only[opK,e1,e2]
  (repeat' split)<;>first
   |exact h0
   |exact hn _
   |exact pb2 h0 (jl ..) (jl ..) fun v=>hn _
   |(rw[ahu hsa]; exact pb2 h0 (qk ..) (qk ..) fun v=>hn v)
 |index ty x i =>
  have e1:=hx x (by simp[Op.operands]);have e2:=hx i (by simp[Op.operands]);simp only[opK,e1,e2]
  (repeat' split)<;>first|exact h0|exact hn _|exact pb2 h0 (jl ..) (jl ..) fun v=>by(repeat' split)<;>first|exact h0|exact hn _
 |lookup ty m i ok =>
  have e1:=hx m (by simp[Op.operands]);have e2:=hx i (by simp[Op.operands]);have hsa:=hs rfl m (by simp[Op.operands]);simp only[opK,e1,e2];rw[aeO hsa];exact pb2 h0 (nw ..) (nw ..) fun v=>hn v
 |extract x i =>
  have e:=hx x (by simp[Op.operands]);simp only[opK,e]
  (repeat' split)<;>first|exact h0|exact hn _
 |call c =>
  obtain⟨callee,args,tys⟩:=c
  cases callee with
  |builtin b =>
   have e:=PR (l:=args.toList) (t:=t) (t2:=t2) fun x hm=>hx x (by simpa[Op.operands,Call.operands] using hm);have hsa:cls E (.call ⟨.builtin b,args,tys⟩)=1→∀x∈args.toList,∀id∈refs1 (ev t x),lkB h2 id=lkB h id:=fun h1 x hm=>hs h1 x (by simpa[Op.operands,Call.operands] using hm);generalize hl:args.toList=l at e hsa;generalize hm:tys.toList=m
   cases b with
   |append=>simp[cls] at hcl
   |clear=>simp[cls] at hcl
   |len =>
    rcases l with _|⟨x,_|⟨y,l⟩⟩<;>rcases m with _|⟨ty,m⟩<;>simp only[opK,hl,hm]<;>try exact h0
    have e1:ev t2 x=ev t x:=by simpa using e
    rw[e1,amY (hsa rfl x (by simp))];exact pb2 h0 (BT ..) (BT ..) fun v=>hn v
   |cap =>
    rcases l with _|⟨x,_|⟨y,l⟩⟩<;>rcases m with _|⟨ty,m⟩<;>simp only[opK,hl,hm]<;>try exact h0
    have e1:ev t2 x=ev t x:=by simpa using e
    rw[e1]
    (repeat' split)<;>first|exact h0|exact hn _
   |min =>
    rcases l with _|⟨x,l⟩<;>simp only[opK,hl,hm]<;>try exact h0
    simp only[fh,List.cons.injEq] at e;rw[e.1,e.2];exact pb2 h0 (i5 _ _ _ _) (i5 _ _ _ _) fun v=>hn v
   |max =>
    rcases l with _|⟨x,l⟩<;>simp only[opK,hl,hm]<;>try exact h0
    simp only[fh,List.cons.injEq] at e;rw[e.1,e.2];exact pb2 h0 (i5 _ _ _ _) (i5 _ _ _ _) fun v=>hn v
   |_=>simp only[opK]; (repeat' split)<;>first|exact h0|contradiction
  |value f=>cases hcall
  |invoke r m=>exact h0
 |store=>simp[cls] at hcl
 |mapUpdate=>simp[cls] at hcl
 |_=>exact h0
def aps (ups:List (Nat×Blk)) (h:List Blk):List Blk:=ups.foldl (fun h p=>č h p.1 p.2) h
def aon {id:Nat} {B:Blk}:aps [(id,B)] h=č h id B:=rfl
def Cr {u v:List (Nat×Blk)}:aps (u++v) h=aps v (aps u h):=by simp[aps]
def Lx:∀(ups:List (Nat×Blk)) (h:List Blk),(aps ups h).length=h.length
 |[],_=>rfl
 |p::ups,h=>by show(aps ups (č h p.1 p.2)).length=_; rw[Lx ups,Ú]
def XF {id:Nat}:∀{ups:List (Nat×Blk)} {h:List Blk},(∀p∈ups,p.1≠id)→lkB (aps ups h) id=lkB h id
 |[],_,_=>rfl
 |p::ups,h,hn=>by
  show lkB (aps ups (č h p.1 p.2)) id=_;rw[XF fun q hq=>hn q (by simp[hq]),õ _ (Ne.symm (hn p (by simp)))]
def JG {id:Nat}:∀{ups:List (Nat×Blk)} {h h2:List Blk},h2.length=h.length→lkB h2 id=lkB h id→lkB (aps ups h2) id=lkB (aps ups h) id
 |[],_,_,_,he=>he
 |p::ups,h,h2,hl,he=>JG (ups:=ups) (h:=č h p.1 p.2) (h2:=č h2 p.1 p.2) (by simp[Ú,hl]) (by simp only[OX,hl,he])
def ajc {v:AV} (hs:∀id∈Ķ v,lkB h2 id=lkB h id):∃ups,yu h v=aps ups h∧yu h2 v=aps ups h2∧∀p∈ups,p.1∈Ķ v:=by
 have no:yu h v=h→yu h2 v=h2→∃ups,yu h v=aps ups h∧yu h2 v=aps ups h2∧∀p∈ups,p.1∈Ķ v:=fun h1 h2'=>⟨[],h1,h2',by simp⟩
 cases v with
 |own id g =>
  have e:=hs id (by simp[Ķ])
  cases hl:lkB h id with
  |row t g fz xs =>
   rw[hl] at e;exact⟨[(id,.row t g true xs)],by simp only[yu,hl]; rfl,by simp only[yu,e]; rfl,by simp[Ķ]⟩
  |_=>rw[hl] at e; exact no (by simp only[yu,hl]) (by simp only[yu,e])
 |sub id g lo n =>
  have e:=hs id (by simp[Ķ])
  cases hl:lkB h id with
  |row t g fz xs =>
   rw[hl] at e;exact⟨[(id,.row t g true xs)],by simp only[yu,hl]; rfl,by simp only[yu,e]; rfl,by simp[Ķ]⟩
  |_=>rw[hl] at e; exact no (by simp only[yu,hl]) (by simp only[yu,e])
 |_=>exact no rfl rfl
def aa0:∀{cs:List AV} {h h2:List Blk},h2.length=h.length→(∀c∈cs,∀id∈Ķ c,lkB h2 id=lkB h id)→∃ups,BW h cs=aps ups h∧BW h2 cs=aps ups h2∧∀p∈ups,∃c∈cs,p.1∈Ķ c
 |[],_,_,_,_=>⟨[],rfl,rfl,by simp⟩
 |c::cs,h,h2,hl,hs=>by
  obtain⟨u,h1,h2',h3⟩:=ajc (hs c (by simp));obtain⟨v,h4,h5,h6⟩:=aa0 (cs:=cs) (h:=yu h c) (h2:=yu h2 c) (by rw[xp,xp,hl]) (fun d hd id hi=>by rw[h1,h2']; exact JG hl (hs d (by simp[hd]) id hi));refine⟨u++v,by simp only[BW]; rw[h4,h1,Cr],by simp only[BW]; rw[h5,h2',Cr],fun p hp=>?_⟩;rcases dk.1 hp with hp|hp
  ·exact⟨c,by simp,h3 p hp⟩
  ·obtain⟨d,hd,hi⟩:=h6 p hp;exact⟨d,by simp[hd],hi⟩
def ane {v:AV} (hl:h2.length=h.length) (hs:∀id∈refs1 v,lkB h2 id=lkB h id):∃ups,frz h v=aps ups h∧frz h2 v=aps ups h2∧∀p∈ups,p.1∈refs1 v:=by
 have one:(∀id∈Ķ v,lkB h2 id=lkB h id)→∃ups,yu h v=aps ups h∧yu h2 v=aps ups h2∧∀p∈ups,p.1∈Ķ v:=ajc
 cases v with
 |agg cs =>
  obtain⟨u,h1,h2',h3⟩:=aa0 (cs:=cs) hl fun c hc id hi=>hs id (dK.2 ⟨c,hc,hi⟩);exact⟨u,h1,h2',fun p hp=>dK.2 (h3 p hp)⟩
 |fn f a b =>
  obtain⟨u,h1,h2',h3⟩:=one fun _ hi=>by cases hi
  exact⟨u,h1,h2',fun p hp=>by cases h3 p hp⟩
 |_=>exact one hs
def Md {ty:Ty} {x:AV} (hs:∀id∈refs1 x,lkB h2 id=lkB h id):ç (.slice ty) [ă h2 x]=ç (.slice ty) [ă h x]:=by
 have:ă h2 x=ă h x:=qd fun id hi=>hs id (by cases x<;>first|exact hi|simp[Ķ] at hi)
 rw[this]
def akV {v:AV} {vs:List AV} (hc:Ţ v=some vs):∀c∈vs,∀id∈Ķ c,id∈refs1 v:=by
 intro c hm id hi
 cases v<;>simp only[Ţ,Option.some.injEq,reduceCtorEq] at hc<;>subst hc
 all_goals first
  |(simp only[dt] at hm; subst hm; exact hi)
  |(simp only[dt] at hm; subst hm; cases hi; done)
  |exact dK.2 ⟨c,hm,hi⟩
def abZ {σ σ2:Type} {R:Option σ→Option σ2→Prop} {ty:TypeId} {a v:AV} {K:List Blk→Option σ} {K2:List Blk→Option σ2} (h0:R none none) (hlen:h2.length=h.length)
 (s1:∀id∈refs1 a,lkB h2 id=lkB h id) (s2:∀id∈refs1 v,lkB h2 id=lkB h id) (hK:∀ups,(∀p∈ups,p.1∈refs1 a∨p.1∈refs1 v)→R (K (aps ups h)) (K2 (aps ups h2))):R (xP P h ty a v K) (xP P h2 ty a v K2):=by
 unfold xP
 split<;>try exact h0
 rename_i vs hvs
 split<;>try exact h0
 split<;>try exact h0
 ·rename_i id off;have e3:=s1 id (by simp[refs1,Ķ]);rw[e3]
  (repeat' split)<;>first
   |exact h0
   |exact hK [(id,_)] fun p hp=>.inl (by simp only[dt] at hp; subst hp; simp[refs1,Ķ])
 ·rename_i id g i off;have e3:=s1 id (by simp[refs1,Ķ]);obtain⟨u,f1,f2,f3⟩:=ane (v:=v) hlen s2
  have e4:lkB (frz h2 v) id=lkB (frz h v) id:=by rw[f1,f2]; exact JG hlen e3
  have e5:vs.map (ă h2)=vs.map (ă h):=fM fun c hc=>qd fun id hi=>s2 id (akV hvs c hc id hi);rw[e4,e5]
  (repeat' split)<;>first
   |exact h0
   | (rw [f1, f2]
      refine hK (u++[(id,_)]) (fun p hp=>?_) |> fun q=>(by simpa only[Cr,aon] using q)
      rcases dk.1 hp with hp|hp
      ·exact .inr (f3 p hp)
      ·exact .inl (by simp only[dt] at hp; subst hp; simp[refs1,Ķ]))
 ·rename_i id g i j;have e3:=s1 id (by simp[refs1,Ķ]);rw[e3]
  (repeat' split)<;>first
   |exact h0
   |exact hK [(id,_)] fun p hp=>.inl (by simp only[dt] at hp; subst hp; simp[refs1,Ķ])
def arF {σ σ2:Type} {R:Option σ→Option σ2→Prop} {E:Env ρ} {o:Op} {nid:Nat} {eat:Bool} {K:AV→St→Option σ} {K2:AV→St→Option σ2} (h0:R none none) (hcl:cls E o=2) (hcall:Xe o=false) (hlen:h2.length=h.length)
 (hx:∀x∈o.operands.toList,ev t2 x=ev t x) (hs:∀x∈o.operands.toList,∀id∈refs1 (ev t x),lkB h2 id=lkB h id)
 (hK:∀v ups,(∀p∈ups,(p.1=nid∧đ E.clone o=true)∨∃x∈o.operands.toList,p.1∈refs1 (ev t x))→R (K v {t:=t,h:=aps ups h}) (K2 v {t:=t2,h:=aps ups h2})) :
 R (opK P {t:=t,h:=h} nid eat o K) (opK P {t:=t2,h:=h2} nid eat o K2):=by
 cases o with
 |store ty a v =>
  have e1:=hx a (by simp[Op.operands]);have e2:=hx v (by simp[Op.operands]);have s1:=hs a (by simp[Op.operands]);have s2:=hs v (by simp[Op.operands]);have ma:∀{id:Nat},id∈refs1 (ev t a)→∃x∈(Op.store ty a v).operands.toList,id∈refs1 (ev t x):=fun hi=>⟨a,by simp[Op.operands],hi⟩;have mv:∀{id:Nat},id∈refs1 (ev t v)→∃x∈(Op.store ty a v).operands.toList,id∈refs1 (ev t x):=fun hi=>⟨v,by simp[Op.operands],hi⟩;simp only[opK,e1,e2]
  cases eat with
  |false =>
   simp only;exact abZ h0 hlen s1 s2 fun ups hu=>hK _ ups fun p hp=>.inr ((hu p hp).elim ma mv)
  |true =>
   simp only
   cases hv:ev t v with
   |sub id g lo n =>
    rw[hv] at s2 mv;have e3:=s2 id (by simp[refs1,Ķ]);simp only[e3]
    split<;>try exact h0
    split<;>try exact h0
    refine abZ h0 (by simp[Ú,hlen]) (fun j hj=>?_) (fun j hj=>?_) fun ups hu=>hK _ ((id,_)::ups) fun p hp=>.inr ?_
    ·exact JG (ups:=[(id,_)]) hlen (s1 j hj)
    ·simp only[refs1,Ķ,dt] at hj;subst hj;exact JG (ups:=[(_,_)]) hlen e3
    ·rcases dm.1 hp with rfl|hp
     ·exact mv (by simp[refs1,Ķ])
     ·rcases hu p hp with hu|hu
      ·exact ma hu
      ·exact mv (by simpa[refs1,Ķ] using hu)
   |_=>exact h0
 |mapUpdate ty m i x =>
  have e1:=hx m (by simp[Op.operands]);have e2:=hx i (by simp[Op.operands]);have e3:=hx x (by simp[Op.operands]);have s1:=hs m (by simp[Op.operands]);have s3:=hs x (by simp[Op.operands]);obtain⟨u,f1,f2,f3⟩:=ane (v:=ev t x) hlen s3;simp only[opK,e1,e2,e3];unfold lr;rw[Pk s3]
  split<;>try exact h0
  split<;>try exact h0
  rename_i id hm;rw[hm] at s1;rw[s1 id (by simp[refs1,Ķ])]
  (repeat' split)<;>first
   |exact h0
   | (rw [f1, f2]
      refine hK _ (u++[(id,_)]) (fun p hp=>?_) |> fun q=>(by simpa only[Cr,aon] using q)
      rcases dk.1 hp with hp|hp
      ·exact .inr ⟨x,by simp[Op.operands],f3 p hp⟩
      ·exact .inr ⟨m,by simp[Op.operands],by simp only[dt] at hp; subst hp; rw[hm]; simp[refs1,Ķ]⟩)
 |call c =>
  obtain⟨callee,args,tys⟩:=c
  cases callee with
  |builtin b =>
   have e:=PR (l:=args.toList) (t:=t) (t2:=t2) fun x hm=>hx x (by simpa[Op.operands,Call.operands] using hm);have hsa:∀x∈args.toList,∀id∈refs1 (ev t x),lkB h2 id=lkB h id:=fun x hm=>hs x (by simpa[Op.operands,Call.operands] using hm)
   have hmem:∀x∈args.toList,x∈(Op.call ⟨.builtin b,args,tys⟩).operands.toList:=fun x hm=>by simpa[Op.operands,Call.operands] using hm
   generalize hl:args.toList=l at e hsa hmem;generalize hm:tys.toList=m
   cases b with
   |append =>
    rcases l with _|⟨x,_|⟨y,_|⟨z,l⟩⟩⟩<;>rcases m with _|⟨ty,_|⟨ty',_|⟨ty'',m⟩⟩⟩<;>simp only[opK,hl,hm]<;>try exact h0
    simp only[fh,List.cons.injEq,fO,and_true] at e;rw[e.1,e.2];have sx:=hsa x (by simp);have sy:=hsa y (by simp);have hnew:∀v B,R (K v {t:=t,h:=č h nid B}) (K2 v {t:=t2,h:=č h2 nid B}):=fun v B=>hK v [(nid,B)] fun p hp=>.inl ⟨by simp only[dt] at hp; subst hp; rfl,rfl⟩
    (repeat' split)<;>first
     |exact h0
     | (unfold Bt
        simp only[Md sy]
        split<;>try exact h0
        split<;>try exact h0
        split<;>try exact h0
        split<;>try exact h0
        split<;>try exact h0
        ·split<;>first|exact h0|exact hnew _ _
        ·rename_i id g hv;rw[hv] at sx;rw[sx id (by simp[refs1,Ķ])]
         (repeat' split)<;>first
          |exact h0
          |exact hK _ [(id,_)] fun p hp=>.inr ⟨x,hmem x (by simp),by simp only[dt] at hp; subst hp; rw[hv]; simp[refs1,Ķ]⟩)
     | (rename_i id2 g2 hdp
        rw[hdp] at sy;have my:∃q∈(Op.call ⟨.builtin .append,args,tys⟩).operands.toList,id2∈refs1 (ev t q):=⟨y,hmem y (by simp),by rw[hdp]; simp[refs1,Ķ]⟩;unfold afm;rw[sy id2 (by simp[refs1,Ķ])]
        split<;>try exact h0
        split<;>try exact h0
        split<;>try exact h0
        split<;>try exact h0
        split<;>try exact h0
        ·split<;>first
          |exact h0
          |exact hK _ [(id2,_),(nid,_)] fun p hp=>by
             simp only[dm,gp,or_false] at hp;rcases hp with rfl|rfl
             ·exact .inr my
             ·exact .inl ⟨rfl,rfl⟩
        ·rename_i id g hv;rw[hv] at sx;have mx:∃q∈(Op.call ⟨.builtin .append,args,tys⟩).operands.toList,id∈refs1 (ev t q):=⟨x,hmem x (by simp),by rw[hv]; simp[refs1,Ķ]⟩;rw[sx id (by simp[refs1,Ķ])]
         (repeat' split)<;>first
          |exact h0
          |exact hK _ [(id2,_),(id,_)] fun p hp=>by
             simp only[dm,gp,or_false] at hp;rcases hp with rfl|rfl
             ·exact .inr my
             ·exact .inr mx)
     | (unfold Mb
        (repeat' split)<;>first|exact h0|exact hnew _ _)
   |clear =>
    rcases l with _|⟨x,_|⟨y,l⟩⟩<;>rcases m with _|⟨ty,_|⟨ty',m⟩⟩<;>simp only[opK,hl,hm]<;>try exact h0
    simp only[fh,List.cons.injEq,fO,and_true] at e;rw[e];have sx:=hsa x (by simp)
    split<;>try exact h0
    unfold M4
    split<;>try exact h0
    ·exact hK _ [] (by simp)
    ·rename_i id g lo n _ hv _;rw[hv] at sx;rw[sx id (by simp[refs1,Ķ])]
     (repeat' split)<;>first
      |exact h0
      |exact hK _ [(id,_)] fun p hp=>.inr ⟨x,hmem x (by simp),by simp only[dt] at hp; subst hp; rw[hv]; simp[refs1,Ķ]⟩
   |_=>simp[cls] at hcl
  |value f=>cases hcall
  |invoke r m=>simp[cls] at hcl
 |_=>simp[cls] at hcl
end
end Go.Am
end
