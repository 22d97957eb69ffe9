/- lemmas -/
import Derived.Test.YtmadligicacpkaaGreatAmA
import Derived.OrdersIn
import Derived.LoopNIn
set_option linter.all false
set_option linter.unusedSectionVars false
set_option linter.unusedVariables false
set_option linter.unusedSimpArgs false
noncomputable section
namespace Go.Am
variable [ó]
section
variable {ν ν':Nat→Value} {h h':List Blk} {w w':World} {P:Program}
def TM (b:AV):∀(as:List AV) (h:List Blk),Ā (zY h as) b=Ā h b
 |[],_=>rfl
 |a::as,h=>by rw[zY,TM b as,HU]
def AQ.mono {av av':Nat→Prop} (hm:∀b,av' b→av b) {t:Ty} {xs:List (Val t)} {news:List Value} (hr:AQ w av t xs news):AQ w av' t xs news :=
 ⟨hr.1,fun i x hi=>CR.mono hm (hr.2 i x hi)⟩
def abv {a:AV} {id:Nat} {h:List Blk} (hl:lkB h id=.dead):lkB (wP h a) id=.dead:=by
 have key:∀(j g:Nat) (t:Ty) (fz:Bool) (xs:List (Val t)),lkB h j=.row t g fz xs→lkB (č h j (.row t g true xs)) id=.dead:=fun j g t fz xs hr=>by
  by_cases hj:id=j
  ·subst hj; rw[hl] at hr; cases hr
  ·rw[ù _ hj]; exact hl
 cases a<;>try exact hl
 all_goals
  simp only[wP]
  split
  ·exact key _ _ _ _ _ ‹_›
  ·exact hl
def QC {id:Nat}:∀(as:List AV) {h:List Blk},lkB h id=.dead→lkB (zY h as) id=.dead
 |[],_,hl=>hl
 |_::as,_,hl=>QC as (abv hl)
def afw {v:AV} {id:Nat} {h:List Blk} (hl:lkB h id=.dead):lkB (frz h v) id=.dead:=by
 unfold frz; split
 ·exact QC _ hl
 ·exact abv hl
def QD {id:Nat}:∀(ps:List (Nat×AV)) {h:List Blk},lkB h id=.dead→lkB (frzA h ps) id=.dead
 |[],_,hl=>hl
 |(_,_)::ps,_,hl=>QD ps (afw hl)
def aeV {h0:List Blk} {ty:Ty}:∀(ps:List (Nat×AV)) (us:List (Nat×Value)) (k:Nat) (c:Array Value) (xs:List (Val ty)) (h:List Blk),(∀b,Ā h b=Ā h0 b)→HR ν h w→RB h0 ty k ps=some xs →
 ć (fun(a:Nat×AV) (b:Nat×Value)=>a.1=b.1∧VR ν h w a.2 b.2) ps us→(k+ps.length)*ty.size≤c.size →
 ∃c' news,Instr.fill (fun i=>some (i*ty.size,ty.size)) c us=some c'∧c'.toList=c.toList.take (k*ty.size)++news++c.toList.drop ((k+ps.length)*ty.size)∧AQ w (Av ν (frzA h ps)) ty xs news∧xs.length=ps.length ∧
  Ev h.length ν h w ν (frzA h ps) w∧HR ν (frzA h ps) w∧(∀b,Av ν (frzA h ps) b→Av ν h b)∧(frzA h ps).length=h.length
 |[],[],k,c,xs,h,hsn,H,e,_,_=>by
  cases e;exact⟨c,[],rfl,by simp,⟨by simp,fun i x hi=>by simp at hi⟩,rfl,Ev.refl _ _ _ _,H,fun _ hb=>hb,rfl⟩
 |[],_::_,_,_,_,_,_,_,_,hu,_=>hu.elim
 |_::_,[],_,_,_,_,_,_,_,hu,_=>hu.elim
 |(i,v)::ps,(j,u)::us,k,c,xs,h,hsn,H,e,hu,hc=>by
  obtain⟨⟨hij,hvu⟩,hu⟩:=hu;simp only at hij hvu; subst hij;simp only[RB] at e
  split at e<;>try (cases e; done)
  rename_i hik;simp only[cM,beq_iff_eq] at hik;obtain⟨rfl,hnm⟩:=hik
  split at e<;>try (cases e; done)
  rename_i cs hcs
  split at e<;>try (cases e; done)
  rename_i x hx
  split at e<;>try (cases e; done)
  rename_i xs' hxs;cases e;obtain⟨vs,hvs,rfl⟩:=HT hcs;obtain⟨hfe,hfm⟩:=ajq hvs h;have hcx:=hvu.cells hvs;have hs:=G3 H (hcx.mono fun _ _ q=>q.1) (hfm hnm);have hmap:vs.map (Ā h)=vs.map (Ā h0):=eZ fun b _=>hsn b;rw[hmap] at hs;have hxc:=ű hx hs;obtain⟨e1,H1,hlv⟩:=DH vs H;simp only[frzA,hfe]
  have hsz:u.cells.size=ty.size:=by have:=hxc.length; simpa using this
  have hlen:(i+1+ps.length)*ty.size≤c.size:=by rw[show i+1+ps.length=i+(ps.length+1) by omega]; simpa using hc
  have hi:i*ty.size+ty.size≤c.size:=by
   have:=dw ty.size (show i+1≤i+1+ps.length by omega);rw[dt i 1,fe] at this;omega
  have hcl:u.cells.toList.length=ty.size:=by simpa using hsz
  have hcsz:(c.toList.take (i*ty.size)++u.cells.toList++c.toList.drop (i*ty.size+ty.size)).toArray.size=c.size:=by
   simp only[eG,cN,cZ,gc,eY,hcl]; omega
  obtain⟨c',news,h1,h2,h3,h4,h5,h6,h7,h8⟩:=aeV ps us (i+1) (c.toList.take (i*ty.size)++u.cells.toList++c.toList.drop (i*ty.size+ty.size)).toArray xs' (zY h vs)
   (fun b=>(TM b vs h).trans (hsn b)) H1 hxs (hu.mono fun _ _ q=>⟨q.1,q.2.ev e1⟩) (by rw[hcsz]; exact hlen)
  refine⟨c',u.cells.toList++news,?_,?_,?_,by simp[h4],e1.trans h5 (by rw[ξ]; exact cJ _),h6,fun b hb=>hlv b (h7 b hb),by rw[h8,ξ]⟩
  ·rw[G5 rfl hsz hi]; exact h1
  ·rw[h2]
   have a1:(c.toList.take (i*ty.size)++u.cells.toList++c.toList.drop (i*ty.size+ty.size)).take ((i+1)*ty.size)=c.toList.take (i*ty.size)++u.cells.toList:=by
    have hl1:(c.toList.take (i*ty.size)++u.cells.toList).length=(i+1)*ty.size:=by
     rw[cN,cZ,eY,hcl,dt,fe]; omega
    rw[←hl1,List.take_left]
   have a2:(c.toList.take (i*ty.size)++u.cells.toList++c.toList.drop (i*ty.size+ty.size)).drop ((i+1+ps.length)*ty.size)=c.toList.drop ((i+(ps.length+1))*ty.size):=by
    have hl1:(c.toList.take (i*ty.size)++u.cells.toList).length=i*ty.size+ty.size:=by
     rw[cN,cZ,eY,hcl]; omega
    rw[show(i+1+ps.length)*ty.size=(c.toList.take (i*ty.size)++u.cells.toList).length+ps.length*ty.size by rw[hl1,dt,dt,fe],←fZ,List.drop_left,fZ];congr 1;rw[dt,dt,fe]; omega
   show(List.take ((i+1)*ty.size) _++news++List.drop ((i+1+ps.length)*ty.size) _)=_;rw[a1,a2];simp
  ·have hone:AQ w (Av ν (frzA (zY h vs) ps)) ty [x] u.cells.toList:=⟨by simp[hsz],fun q y hq=>by
    cases q with
    |zero =>
     simp at hq; subst hq;simp only[Nat.zero_mul,List.drop_zero];rw[dS (by omega)];exact CR.mono h7 hxc
    |succ q=>simp at hq⟩
   exact hone.append h3
def Yp {S:St} {a:Act} {nid n:Nat} {t e:TypeId} {ty:Ty} {ps:Array (Nat×Operand)} {xs:List (Val ty)} (H:Sim ν S a w) (hn:nid<S.h.length) (hd:lkB S.h nid=.dead) (he:MD P t=some e)
 (hrow:NC P e ty.size=true) (hln:ps.toList.length=n) (hlim:n*ty.size≤65536) (hx:RB S.h ty 0 (ps.toList.map fun p=>(p.1,ev S.t p.2))=some xs) :
 iL P ν S.h w (Instr.buildSlice t n (ps.map fun(i,x)=>(i,a.eval x))) (.own nid 0) (č (frzA S.h (ps.toList.map fun p=>(p.1,ev S.t p.2))) nid (.row ty 0 false xs)):=by
 obtain⟨i,z,hi,hsz,hpos,hby,hz,hzs⟩:=l6 hrow;have ht:=kG he
 have hcs:((Array.range (n*ty.size)).map (fun j=>(if n*ty.size=0 then(#[]:Array Value) else z.cells)[j % (if n*ty.size=0 then(#[]:Array Value) else z.cells).size]!)).size=n*ty.size:=by simp
 obtain⟨c',news,h1,h2,h3,h4,h5,h6,h7,h8⟩:=aeV (ν:=ν) (w:=w) (h0:=S.h) _ (ps.toList.map fun p=>(p.1,a.eval p.2)) 0 ((Array.range (n*ty.size)).map (fun j=>(if n*ty.size=0 then(#[]:Array Value) else z.cells)[j % (if n*ty.size=0 then(#[]:Array Value) else z.cells).size]!)) xs S.h (fun _=>rfl) H.heap hx (Ea H ps.toList)
  (by rw[hcs]; simp only[dW]; rw[hln,dj]; exact cJ _)
 rw[dW,hln] at h2 h4
 have h2':c'.toList=news:=by
  rw[h2];simp
 have hd':lkB (frzA S.h (ps.toList.map fun p=>(p.1,ev S.t p.2))) nid=.dead:=QD _ hd
 have hnew:=HV (w':=w.alloc (.cells c' e)) h6 (id:=nid) (g':=0) (xs':=xs) (cap':=n) (by rw[h8]; exact hn) (fun V=>by rw[hd']; trivial) rfl rfl rfl rfl (by omega) (by
  have:c'.size=news.length:=by rw[←h2']; simp
  rw[this,h3.1,h4]; exact cJ _) h3 (fun j v hj=>by rw[←h2'] at hj; simpa using hj)
 rw[h4] at hnew;refine⟨_,_,_,?_,xm (by rw[h8]; exact hn) rfl,hnew.2,(h5.trans hnew.1 (by rw[h8]; exact cJ _)),by rw[Û,h8]⟩
 have hp:(ps.map fun(x:Nat×Operand)=>(x.1,a.eval x.2)).toList=ps.toList.map fun p=>(p.1,a.eval p.2):=by simp
 have hlt:¬(16777216<n*ty.size):=by omega
 have h1':Instr.fill (fun i=>some (i*ty.size,ty.size)) ((Array.range (n*ty.size)).map (fun j=>(if n*ty.size=0 then(#[]:Array Value) else z.cells)[j % (if n*ty.size=0 then(#[]:Array Value) else z.cells).size]!)) (ps.map fun(x:Nat×Operand)=>(x.1,a.eval x.2)).toList=some c':=by rw[hp]; exact h1
 simp only[Instr.buildSlice,Sem.run_bind,run_underlying ht,Result.andThen_ok,sizeOf,typeInfo,run_program,hi,Sem.run_pure,hsz];rw[show(2:Nat) ^ 24=16777216 from rfl,if_neg (by omega:¬n*ty.size>16777216)]
 by_cases h0:n*ty.size=0
 ·simp only[h0,if_true,Sem.run_bind,Sem.run_pure,Result.andThen_ok] at h1' ⊢
  erw [h1']
  simp[newRow]
 ·simp only[h0,if_false,Sem.run_bind,zeroValue,typeInfo,run_program,hi,hz,Sem.run_pure,Result.andThen_ok] at h1' ⊢
  erw [h1']
  simp[newRow]
end
end Go.Am
end

noncomputable section
namespace Go.Am
variable [ó]
section
variable {ν ν':Nat→Value} {h h':List Blk} {w w':World} {P:Program}
def upd2 (H:HR ν h w) {i j:Nat} {A B:Blk} {U V:Value} (hij:i≠j) (hi:i<h.length) (hj:j<h.length) (hos:w'.os=w.os) (htape:w'.tape=w.tape) (hout:w'.output=w.output)
 (hsize:w.heap.size≤w'.heap.size)
 (hkeep:∀b,b<w.heap.size→((lkB h i).live=true→¬θ (ν i) b)→((lkB h j).live=true→¬θ (ν j) b)→w'.heap[b]?=w.heap[b]?)
 (hU:A.live=true→∀b,θ U b→((lkB h i).live=true∧θ (ν i) b)∨((lkB h j).live=true∧θ (ν j) b)∨w.heap.size≤b)
 (hV:B.live=true→∀b,θ V b→((lkB h i).live=true∧θ (ν i) b)∨((lkB h j).live=true∧θ (ν j) b)∨w.heap.size≤b)
 (hdis:A.live=true→B.live=true→∀b,θ U b→θ V b→False)
 (hni:(lkB h i).next ν (Ċ (Ċ ν i U) j V) i A) (hnj:(lkB h j).next ν (Ċ (Ċ ν i U) j V) j B)
 (hbi:Ev h.length ν h w (Ċ (Ċ ν i U) j V) (č (č h i A) j B) w'→BR (Ċ (Ċ ν i U) j V) (č (č h i A) j B) w' i A)
 (hbj:Ev h.length ν h w (Ċ (Ċ ν i U) j V) (č (č h i A) j B) w'→BR (Ċ (Ċ ν i U) j V) (č (č h i A) j B) w' j B) :
 Ev h.length ν h w (Ċ (Ċ ν i U) j V) (č (č h i A) j B) w'∧HR (Ċ (Ċ ν i U) j V) (č (č h i A) j B) w':=by
 have li:lkB (č (č h i A) j B) i=A:=by rw[ù _ hij,õ _ hi]
 have lj:lkB (č (č h i A) j B) j=B:=õ _ (by rw[Û]; exact hj)
 have lo:∀{m},m≠i→m≠j→lkB (č (č h i A) j B) m=lkB h m:=fun h1 h2=>by rw[ù _ h2,ù _ h1]
 have vi:Ċ (Ċ ν i U) j V i=U:=by rw[Υ _ _ hij,â]
 have vj:Ċ (Ċ ν i U) j V j=V:=â _ _ _
 have vo:∀{m},m≠i→m≠j→Ċ (Ċ ν i U) j V m=ν m:=fun h1 h2=>by rw[Υ _ _ h2,Υ _ _ h1]
 -- who owns a block now owned it, or it is new
 have own:∀m b,(lkB (č (č h i A) j B) m).live=true→θ (Ċ (Ċ ν i U) j V m) b →
  (∃q,(lkB h q).live=true∧θ (ν q) b∧(q=m∨((q=i∨q=j)∧(m=i∨m=j))))∨(w.heap.size≤b∧(m=i∨m=j)):=by
  intro m b hl hb
  by_cases h1:m=i
  ·subst h1;rw[li] at hl; rw[vi] at hb;rcases hU hl b hb with h2|h2|h2
   ·exact .inl ⟨m,h2.1,h2.2,.inl rfl⟩
   ·exact .inl ⟨j,h2.1,h2.2,.inr ⟨.inr rfl,.inl rfl⟩⟩
   ·exact .inr ⟨h2,.inl rfl⟩
  ·by_cases h2:m=j
   ·subst h2;rw[lj] at hl; rw[vj] at hb;rcases hV hl b hb with h2|h2|h2
    ·exact .inl ⟨i,h2.1,h2.2,.inr ⟨.inl rfl,.inr rfl⟩⟩
    ·exact .inl ⟨m,h2.1,h2.2,.inl rfl⟩
    ·exact .inr ⟨h2,.inr rfl⟩
   ·rw[lo h1 h2] at hl; rw[vo h1 h2] at hb;exact .inl ⟨m,hl,hb,.inl rfl⟩
 have ev:Ev h.length ν h w (Ċ (Ċ ν i U) j V) (č (č h i A) j B) w':=by
  refine⟨hos,htape,hout,hsize,fun b hb hn=>⟨hkeep b hb (fun hl he=>hn ⟨i,hl,he⟩) (fun hl he=>hn ⟨j,hl,he⟩),?_⟩,fun m hm=>?_⟩
  ·rintro⟨m,hl,he⟩;rcases own m b hl he with⟨q,h1,h2,_⟩|⟨h1,_⟩
   ·exact hn ⟨q,h1,h2⟩
   ·omega
  ·by_cases h1:m=i
   ·subst h1; rw[li]; exact hni
   ·by_cases h2:m=j
    ·subst h2; rw[lj]; exact hnj
    ·rw[lo h1 h2]
     cases hB:lkB h m with
     |dead=>trivial
     |cells cs=>exact⟨⟨cs,rfl⟩,vo h1 h2⟩
     |row t g fz xs=>exact⟨g,fz,xs,rfl,cJ _,fun _=>⟨vo h1 h2,rfl⟩⟩
     |map k v es=>exact⟨⟨es,rfl⟩,vo h1 h2⟩
     |deep k g xss=>exact⟨g,xss,rfl,cJ _,fun _=>⟨vo h1 h2,rfl⟩⟩
 refine⟨ev,fun m=>?_,fun m n b hm hn hbm hbn=>?_,fun b hb=>dm (H.ghlt b hb) hsize,fun m b hl hb hg=>?_⟩
 ·by_cases h1:m=i
  ·subst h1; rw[li]; exact hbi ev
  ·by_cases h2:m=j
   ·subst h2; rw[lj]; exact hbj ev
   ·rw[lo h1 h2];refine BR.ev ev (vo h1 h2) (fun b hl hb hlt=>hkeep b hlt (fun hl' hb'=>h1 (H.inj m i b hl hl' hb hb')) (fun hl' hb'=>h2 (H.inj m j b hl hl' hb hb'))) (H.blk m)
 ·-- one owner alone
  have hd:∀{m n b},(m=i∨m=j)→(n=i∨n=j)→(lkB (č (č h i A) j B) m).live=true→(lkB (č (č h i A) j B) n).live=true→θ (Ċ (Ċ ν i U) j V m) b→θ (Ċ (Ċ ν i U) j V n) b→m=n:=by
   intro m n b h1 h2 hm hn hbm hbn
   rcases h1 with rfl|rfl<;>rcases h2 with rfl|rfl
   ·rfl
   ·rw[li] at hm; rw[lj] at hn; rw[vi] at hbm; rw[vj] at hbn;exact(hdis hm hn b hbm hbn).elim
   ·rw[lj] at hm; rw[li] at hn; rw[vj] at hbm; rw[vi] at hbn;exact(hdis hn hm b hbn hbm).elim
   ·rfl
  rcases own m b hm hbm with⟨q,h1,h2,h3⟩|⟨h1,h3⟩
  ·rcases own n b hn hbn with⟨r,h4,h5,h6⟩|⟨h4,h6⟩
   ·have hqr:=H.inj q r b h1 h4 h2 h5;subst hqr;rcases h3 with rfl|⟨h3,h3'⟩
    ·rcases h6 with rfl|⟨h6,h6'⟩
     ·rfl
     ·exact hd h6 h6' hm hn hbm hbn
    ·rcases h6 with rfl|⟨h6,h6'⟩
     ·exact hd h3' h3 hm hn hbm hbn
     ·exact hd h3' h6' hm hn hbm hbn
   ·have:=H.lt ⟨q,h1,h2⟩; omega
  ·rcases own n b hn hbn with⟨r,h4,h5,h6⟩|⟨h4,h6⟩
   ·have:=H.lt ⟨r,h4,h5⟩; omega
   ·exact hd h3 h6 hm hn hbm hbn
 ·rcases own m b hl hb with⟨q,h1,h2,_⟩|⟨h1,_⟩
  ·exact H.ghne q b h1 h2 hg
  ·have:=H.ghlt b hg; omega
def xn {l:List Value} {b:Nat}:θ (.agg l.toArray) b↔∃u∈l,lI u=some b:=by
 show(∃u∈l.toArray.toList,lI u=some b)↔_;simp
def alm {k:IntKind} {xss:List (List Int)} {us:List Value} (h:ć (ahz w k) xss us):∀u∈us,u.oneCell'=true:=by
 intro u hu;obtain⟨i,hi,rfl⟩:=df.1 hu;obtain⟨xs,_,base,cap,e,_⟩:=h.get' (cI hi);rw[e]; rfl
def aih {k:IntKind} {xss:List (List Int)} {us:List Value} (h:ć (ahz w k) xss us):∀u∈us,∀b,lI u=some b→b<w.heap.size:=by
 intro u hu b hb;obtain⟨i,hi,rfl⟩:=df.1 hu;obtain⟨xs,_,base,cap,e,_,h1⟩:=h.get' (cI hi);rw[e] at hb;rcases h1 with⟨rfl,_⟩|⟨b',off,c,e',rfl,h1,_⟩
 ·cases hb
 ·cases hb; exact Ė h1
def al9 (H:HR ν h w) {nid id g n:Nat} {t e:TypeId} {k:IntKind} {xs:List Int} {i:TypeInfo} {z:Value} (hnid:nid<h.length) (hd:lkB h nid=.dead) (ht:P.underlying t=some (.slice e)) (hi:P.info? e=some i) (hsz:i.size=1) (hz:i.zero=some z) (hzs:z.cells.size=1)
 (hl:lkB h id=.row (.int k) g false xs) (hn:n=1) {ux:Value} (hux:ux=ν id) :
 iL P ν h w (Instr.buildSlice t n #[(0,ux)]) (.dp nid 0) (č (č h id (.row (.int k) (g+1) false [])) nid (.deep k 0 [xs])):=by
 subst hn
 have hne:id≠nid:=fun e=>by rw[e,hd] at hl; cases hl
 have hid:id<h.length:=ir hl (by simp);have hB:=H.blk id;rw[hl] at hB;obtain⟨base,cap,h1,h2,h3⟩:=hB
 have hlive:(lkB h id).live=true:=by rw[hl]; rfl
 have h3':(base=none∧cap=0)∨∃b off c e,base=some ⟨b,off,none⟩∧w.heap[b]?=some (.cells c e (0,0))∧off+cap≤c.size∧∀(j:Nat) (x:Int),xs[j]?=some x→c[off+j]?=some (.int k x):=by
  rcases h3 with h3|⟨b,off,c,e',h3,h4,h5,h6⟩
  ·exact .inl h3
  ·refine .inr ⟨b,off,c,e',h3,h4,by simpa[Ty.size] using h5,fun j x hx=>?_⟩;obtain⟨us,q1,q2⟩:=h6 j x hx;have q1':us=[.int k x]:=q1;subst q1';have:=q2 0 _ rfl;simp only[World.cell?,h4] at this;simpa[Ty.size] using this
 have hone:(ν id).oneCell'=true:=by rw[h1]; rfl
 have hheap:(w.alloc (.cells #[ν id] e)).heap=w.heap.push (.cells #[ν id] e (0,0)):=rfl
 have hpush:∀b,b<w.heap.size→(w.alloc (.cells #[ν id] e)).heap[b]?=w.heap[b]?:=fun b hb=>by rw[hheap,eN]; simp[fB hb]
 obtain⟨ev,hr⟩:=upd2 (w':=w.alloc (.cells #[ν id] e)) (A:=.row (.int k) (g+1) false []) (B:=.deep k 0 [xs]) (U:=.slice none 0 0) (V:=.agg [Value.slice (some ⟨w.heap.size,0,none⟩) 1 1,ν id].toArray) H hne hid hnid rfl rfl rfl (by rw[hheap]; simp)
  (fun b hb _ _=>hpush b hb) (fun _ b hb=>by cases hb)
  (fun _ b hb=>by
   obtain⟨u,hu,hb⟩:=xn.1 hb;simp only[cW,fA,or_false] at hu;rcases hu with rfl|rfl
   ·cases hb; exact .inr (.inr (cJ _))
   ·exact .inl ⟨hlive,by rw[h1] at hb ⊢; exact hb⟩)
  (fun _ _ b hb _=>by cases hb)
  (by rw[hl]; exact⟨g+1,false,[],rfl,gj _,fun hf=>by omega⟩) (by rw[hd]; trivial)
  (fun ev=>⟨none,0,by rw[Υ _ _ hne,â]; rfl,cJ _,.inl ⟨rfl,rfl⟩⟩)
  (fun ev=>by
   have hnew:(w.alloc (.cells #[ν id] e)).heap[w.heap.size]?=some (.cells #[ν id] e (0,0)):=by rw[hheap]; simp
   refine⟨some ⟨w.heap.size,0,none⟩,1,[ν id],by rw[â]; rfl,by simp,?_,.inr ⟨w.heap.size,0,#[ν id],e,rfl,hnew,by simp,fun m u hm=>?_⟩,⟨base,cap,h1,h2,?_⟩,trivial⟩
   ·refine List.Pairwise.cons (fun v hv b hb hvb=>?_) (gC _ _);simp at hv;subst hv
    obtain rfl:w.heap.size=b:=by simpa[lI] using hb
    have:=H.lt ⟨id,hlive,by rw[h1] at hvb ⊢; exact hvb⟩;omega
   ·cases m with
    |zero=>simpa using hm
    |succ m=>simp at hm
   ·rcases h3' with h3|⟨b,off,c,e',h3,h4,h5⟩
    ·exact .inl h3
    ·exact .inr ⟨b,off,c,e',h3,by
      rw[hpush b (Ė h4),h4],h5⟩)
 refine⟨_,w.alloc (.cells #[ν id] e),.slice (some ⟨w.heap.size,0,none⟩) 1 1,?_,⟨rfl,k,0,[xs],?_,cJ _,fun _=>⟨[ν id],â _ _ _⟩⟩,hr,ev,by rw[Û,Û]⟩
 ·subst hux;simp only[Instr.buildSlice,Sem.run_bind,run_underlying ht,Result.andThen_ok,sizeOf,typeInfo,run_program,hi,Sem.run_pure,hsz];rw[show(2:Nat) ^ 24=16777216 from rfl,if_neg (by omega:¬1*1>16777216)];simp only[gh,Nat.one_ne_zero,if_false,Sem.run_bind,zeroValue,typeInfo,run_program,hi,hz,Sem.run_pure,Result.andThen_ok]
  have hfill:Instr.fill (fun i=>some (i*1,1)) ((Array.range 1).map (fun j=>z.cells[j % z.cells.size]!)) [(0,ν id)]=some #[ν id]:=by
   have:=G5 (place:=fun i=>some (i*1,1)) (cells:=(Array.range 1).map (fun j=>z.cells[j % z.cells.size]!)) (i:=0) (v:=ν id) (rest:=[]) (off:=0) (size:=1) rfl (by have:=zr hone; simpa using congrArg List.length this) (by simp);rw[this];have hc:=zr hone;simp[Instr.fill,hc]
  simp only[gh] at hfill
  erw [hfill]
  simp[newRow]
 ·exact õ _ (by rw[Û]; exact hnid)
def acw {k:IntKind} {base:Option Addr} {cap:Nat} {xss:List (List Int)} {us:List Value} (h10:ć (ahz w k) xss us)
 (h9:(base=none∧cap=0)∨∃b off c e,base=some ⟨b,off,none⟩∧w.heap[b]?=some (.cells c e (0,0))∧off+cap≤c.size∧∀(i:Nat) (u:Value),us[i]?=some u→c[off+i]?=some u) (hc:xss.length≤cap) :
 (∀a,base=some a→∀j u,us[j]?=some u→w.cell? (a.add j)=some u)∧(base=none→us=[]):=by
 constructor
 ·intro a ha j u hj;rcases h9 with⟨h9,_⟩|⟨b,off,c,e,h9,h11,_,h13⟩
  ·rw[h9] at ha; cases ha
  ·rw[h9] at ha; cases ha;rw[Ň];simp only[World.cell?,h11];exact h13 j u hj
 ·intro hb;rcases h9 with⟨_,h9⟩|⟨b,off,c,e,h9,_⟩
  ·have:=h10.length;exact dh.1 (by omega)
  ·rw[hb] at h9; cases h9
def Ya (H:HR ν h w) {j id2:Nat} (hne:id2≠j) (hj:j<h.length) {k:IntKind} {g2 g':Nat} {xss yss:List (List Int)} (hl2:lkB h id2=.deep k g2 yss) {base2:Option Addr} {cap2:Nat} {us us2:List Value} (hν2:ν id2=.agg (Value.slice base2 yss.length cap2::us2).toArray)
 (hnext:∀W,(lkB h j).next ν W j (.deep k g' (xss++yss)))
 (hrows:ć (ahz w k) xss us) (hus:∀u∈us,∀b,lI u=some b→(lkB h j).live=true∧θ (ν j) b) (hap:acp us)
 {base':Option Addr} {cap':Nat} {w':World} (hcap:xss.length+yss.length≤cap') (hos:w'.os=w.os) (htape:w'.tape=w.tape) (hout:w'.output=w.output) (hsize:w.heap.size≤w'.heap.size)
 (hblk:∀b,lI (.slice base' (xss.length+yss.length) cap')=some b→((lkB h j).live=true∧θ (ν j) b∧∀u∈us,lI u≠some b)∨w.heap.size≤b)
 (hkeep:∀b,b<w.heap.size→lI (.slice base' (xss.length+yss.length) cap')≠some b→w'.heap[b]?=w.heap[b]?)
 (hcells:(base'=none∧cap'=0)∨∃b off c e,base'=some ⟨b,off,none⟩∧w'.heap[b]?=some (.cells c e (0,0))∧off+cap'≤c.size∧∀(m:Nat) (u:Value),(us++us2)[m]?=some u→c[off+m]?=some u) :
 Ev h.length ν h w (Ċ (Ċ ν id2 (.agg [Value.slice none 0 0].toArray)) j (.agg (Value.slice base' (xss.length+yss.length) cap'::(us++us2)).toArray)) (č (č h id2 (.deep k (g2+1) [])) j (.deep k g' (xss++yss))) w' ∧
  HR (Ċ (Ċ ν id2 (.agg [Value.slice none 0 0].toArray)) j (.agg (Value.slice base' (xss.length+yss.length) cap'::(us++us2)).toArray)) (č (č h id2 (.deep k (g2+1) [])) j (.deep k g' (xss++yss))) w':=by
 have hid2:id2<h.length:=ir hl2 (by simp);obtain⟨base2',cap2',us2',q1,q2,q3,q4,q5⟩:=H.table hl2;rw[hν2] at q1;have q:=mA q1
 injection q with e1 e2
 subst e2
 have hlive2:(lkB h id2).live=true:=by rw[hl2]; rfl
 have own2:∀u∈us2,∀b,lI u=some b→θ (ν id2) b:=fun u hu b hb=>by rw[hν2]; exact xn.2 ⟨u,by simp[hu],hb⟩
 have hap2:acp us2:=q3.sublist (List.sublist_cons_self _ _)
 have hdiff:∀u∈us,∀v∈us2,∀b,lI u=some b→lI v≠some b:=fun u hu v hv b hb hvb =>
  hne (H.inj id2 j b hlive2 (hus u hu b hb).1 (own2 v hv b hvb) (hus u hu b hb).2)
 have hV0:∀u∈us++us2,∀b,lI (.slice base' (xss.length+yss.length) cap')=some b→lI u≠some b:=fun u hu b hb hub=>by
  rcases hblk b hb with⟨h1,h2,h3⟩|h1
  ·rcases cQ.1 hu with hu|hu
   ·exact h3 u hu hub
   ·exact hne (H.inj id2 j b hlive2 h1 (own2 u hu b hub) h2)
  ·rcases cQ.1 hu with hu|hu
   ·have:=aih hrows u hu b hub; omega
   ·have:=aih q5 u hu b hub; omega
 have hrow':∀u∈us++us2,∀b,lI u=some b→b<w.heap.size→w'.heap[b]?=w.heap[b]?:=fun u hu b hb hlt=>hkeep b hlt fun hv=>hV0 u hu b hv hb;refine upd2 H hne hid2 hj hos htape hout hsize (fun b hb h1 h2=>hkeep b hb fun hv=>?_) (fun _ b hb=>?_) (fun _ b hb=>?_) (fun _ _ b hb _=>?_) ?_ (hnext _) (fun ev=>?_) (fun ev=>?_)
 ·rcases hblk b hv with⟨h3,h4,_⟩|h3
  ·exact h2 h3 h4
  ·omega
 ·obtain⟨u,hu,hb⟩:=xn.1 hb;simp at hu;subst hu;cases hb
 ·obtain⟨u,hu,hb⟩:=xn.1 hb;rcases cW.1 hu with rfl|hu
  ·rcases hblk b hb with⟨h3,h4,_⟩|h3
   ·exact .inr (.inl ⟨h3,h4⟩)
   ·exact .inr (.inr h3)
  ·rcases cQ.1 hu with hu|hu
   ·exact .inr (.inl (hus u hu b hb))
   ·exact .inl ⟨hlive2,own2 u hu b hb⟩
 ·obtain⟨u,hu,hb⟩:=xn.1 hb;simp at hu;subst hu;cases hb
 ·rw[hl2]; exact⟨g2+1,[],rfl,gj _,fun hf=>by omega⟩
 ·exact⟨none,0,[],by rw[Υ _ _ hne,â]; rfl,cJ _,gC _ _,.inl ⟨rfl,rfl⟩,trivial⟩
 ·refine⟨base',cap',us++us2,by rw[â,cN],by rw[cN]; exact hcap,?_,hcells,?_⟩
  ·rw[cN];exact List.Pairwise.cons (fun v hv b hb=>hV0 v hv b hb) (List.pairwise_append.2 ⟨hap,hap2,fun u hu v hv b hb=>hdiff u hu v hv b hb⟩)
  ·exact(hrows.append q5).keepRows hrow'
def afU {n b:Nat} (h1:n≤4294967296) (h2:b≤32768):n*b≤140737488355328:=by
 have:=f7 h1 h2;omega
def abJ (H:HR ν h w) (t ty:TypeId) {e:TypeId} {i:TypeInfo} {z:Value} (ht:P.underlying t=some (.slice e)) (hi:P.info? e=some i) (hz:i.zero=some z) (hsz:i.size=1) (hby:i.bytes≤32768) (hzs:z.cells.size=1)
 {j id2:Nat} (hne:id2≠j) (hj:j<h.length) {k:IntKind} {g2 g':Nat} {xss yss:List (List Int)} (hl2:lkB h id2=.deep k g2 yss) {base base2:Option Addr} {cap cap2:Nat} {us us2:List Value} (hν2:ν id2=.agg (Value.slice base2 yss.length cap2::us2).toArray)
 (hnext:∀W,(lkB h j).next ν W j (.deep k g' (xss++yss)))
 (hx:(base=none∧cap=0∧xss=[]∧us=[])∨∃g,lkB h j=.deep k g xss∧ν j=.agg (Value.slice base xss.length cap::us).toArray)
 (hlen:xss.length+yss.length≤4294967296) :
 ∃V w',(Builtin.append_ #[t,t] ty #[.slice base xss.length cap,.slice base2 yss.length cap2]).run P w=.ok V w'∧V.oneCell'=true ∧
  Ev h.length ν h w (Ċ (Ċ ν id2 (.agg [Value.slice none 0 0].toArray)) j (.agg (V::(us++us2)).toArray)) (č (č h id2 (.deep k (g2+1) [])) j (.deep k g' (xss++yss))) w' ∧
  HR (Ċ (Ċ ν id2 (.agg [Value.slice none 0 0].toArray)) j (.agg (V::(us++us2)).toArray)) (č (č h id2 (.deep k (g2+1) [])) j (.deep k g' (xss++yss))) w':=by
 obtain⟨base2',cap2',us2',q1,q2,q3,q4,q5⟩:=H.table hl2;rw[hν2] at q1;have q:=mA q1
 injection q with e1 e2
 injection e1 with e1 e3 e4
 subst e1 e2 e4;obtain⟨c2,n2⟩:=acw q5 q4 q2;have l2:=q5.length;have hone2:=alm q5
 -- the table that grows
 have hX:ć (ahz w k) xss us∧(∀u∈us,∀b,lI u=some b→(lkB h j).live=true∧θ (ν j) b)∧acp us ∧
  ((base=none∧cap=0∧us=[]∧xss=[])∨∃b off c e,base=some ⟨b,off,none⟩∧w.heap[b]?=some (.cells c e (0,0))∧off+cap≤c.size∧xss.length≤cap∧(∀(i:Nat) (u:Value),us[i]?=some u→c[off+i]?=some u)∧((lkB h j).live=true∧θ (ν j) b∧∀u∈us,lI u≠some b)):=by
  rcases hx with⟨rfl,rfl,rfl,rfl⟩|⟨g,hl,hν⟩
  ·exact⟨trivial,fun u hu=>(by cases hu),List.Pairwise.nil,.inl ⟨rfl,rfl,rfl,rfl⟩⟩
  ·obtain⟨b',c',us',p1,p2,p3,p4,p5⟩:=H.table hl;rw[hν] at p1;have q:=mA p1
   injection q with e1 e2
   injection e1 with e1 e3 e4
   subst e1 e2 e4
   have hlive:(lkB h j).live=true:=by rw[hl]; rfl
   refine⟨p5,fun u hu b hb=>⟨hlive,by rw[hν]; exact xn.2 ⟨u,by simp[hu],hb⟩⟩,p3.sublist (List.sublist_cons_self _ _),?_⟩;rcases p4 with⟨rfl,rfl⟩|⟨b,off,c,e',rfl,p6,p7,p8⟩
   ·have h0:xss=[]:=dh.1 (by omega);subst h0;exact .inl ⟨rfl,rfl,dh.1 p5.length.symm,rfl⟩
   ·exact .inr ⟨b,off,c,e',rfl,p6,p7,p2,p8,hlive,by rw[hν]; exact xn.2 ⟨_,.head _,rfl⟩,fun u hu hub=>(dE.1 p3).1 u hu b rfl hub⟩
 obtain⟨x1,x2,x3,x4⟩:=hX;have l1:=x1.length
 have hU2:yss≠[]→∃a,base2=some a:=fun hy=>by
  cases hb:base2 with
  |none=>exact absurd (dh.1 (by rw[l2,n2 hb]; rfl)) hy
  |some a=>exact⟨a,rfl⟩
 -- a new array
 have hnew:∀old:Nat,∃V w',(Result.ok (Value.slice (some ⟨w.heap.size,0,none⟩) (xss.length+yss.length) (grownCap w (xss.length+yss.length) old e))
  (w.drew.alloc (.cells (us.toArray++us2.toArray++Builtin.zeroCells z.cells (grownCap w (xss.length+yss.length) old e-(xss.length+yss.length))) e)):Result Value)=.ok V w'∧V.oneCell'=true ∧
  Ev h.length ν h w (Ċ (Ċ ν id2 (.agg [Value.slice none 0 0].toArray)) j (.agg (V::(us++us2)).toArray)) (č (č h id2 (.deep k (g2+1) [])) j (.deep k g' (xss++yss))) w' ∧
  HR (Ċ (Ċ ν id2 (.agg [Value.slice none 0 0].toArray)) j (.agg (V::(us++us2)).toArray)) (č (č h id2 (.deep k (g2+1) [])) j (.deep k g' (xss++yss))) w':=by
  intro old;have hge:=grownCap_ge w (xss.length+yss.length) old e;obtain⟨q,hq⟩:∃q,q=grownCap w (xss.length+yss.length) old e:=⟨_,rfl⟩;rw[←hq] at hge ⊢;obtain⟨cs,hcs⟩:∃cs,cs=us.toArray++us2.toArray++Builtin.zeroCells z.cells (q-(xss.length+yss.length)):=⟨_,rfl⟩
  have hsize:cs.size=q:=by
   rw[hcs];simp only[gD,eG,size_zeroCells,hzs];omega
  have hget:∀(m:Nat) (u:Value),(us++us2)[m]?=some u→cs[m]?=some u:=fun m u hm=>by
   rw[←d9] at hm;rw[hcs,eP,if_pos]
   ·simpa using hm
   ·have:=(dX.1 hm).1;simpa using this
  rw[←hcs];have hheap:(w.drew.alloc (.cells cs e)).heap=w.heap.push (.cells cs e (0,0)):=rfl
  have hlast:(w.drew.alloc (.cells cs e)).heap[w.heap.size]?=some (.cells cs e (0,0)):=by rw[hheap]; exact Array.getElem?_push_size
  exact⟨_,_,rfl,rfl,Ya (w':=w.drew.alloc (.cells cs e)) H hne hj hl2 hν2 hnext x1 x2 x3 (base':=some ⟨w.heap.size,0,none⟩) (cap':=q) hge rfl rfl rfl (by rw[hheap]; simp)
   (fun b hb=>.inr (by cases hb; exact cJ _)) (fun b hb _=>by rw[hheap,eN]; simp[fB hb]) (.inr ⟨w.heap.size,0,cs,e,rfl,hlast,by omega,fun m u hm=>by rw[dj]; exact hget m u hm⟩)⟩
 rcases x4 with⟨rfl,rfl,rfl,rfl⟩|⟨b,off,c,e',rfl,p6,p7,p8,p9,p10⟩
 ·by_cases hy:yss=[]
  ·subst hy;have hu2:us2=[]:=dh.1 l2.symm;subst hu2;have hrun:=oY (P:=P) (w:=w) t ty e i ht hi base2 cap2;exact⟨_,w,hrun,rfl,Ya H hne hj hl2 hν2 hnext x1 x2 x3 (base':=none) (cap':=0) (cJ _) rfl rfl rfl (cJ _) (fun b hb=>by cases hb) (fun b _ _=>rfl) (.inl ⟨rfl,rfl⟩)⟩
  ·have h0:0<yss.length:=fO.2 hy;obtain⟨a,rfl⟩:=hU2 hy;rw[dk,dj] at hlen;have hb48:=afU hlen hby;have hrun:=run_append_nil (P:=P) w t ty e i z ht hi hz a yss.length cap2 us2 (by rw[hsz]; omega) (c2 a rfl) h0 (by omega) (by omega);obtain⟨V,w',h1,h2,h3⟩:=hnew 0;refine⟨V,w',?_,h2,h3⟩;rw[←h1];simpa using hrun
 ·by_cases hroom:xss.length+yss.length≤cap
  ·have hrun:=ny (P:=P) (o:=off) (sLen:=xss.length) (sCap:=cap) t ty e i ht hi p6 base2 yss.length cap2 us2 (by rw[hsz]; omega) c2 n2 hone2 hroom (by rw[hsz]; omega);rw[hsz,gh] at hrun;obtain⟨cs,hcs⟩:∃cs,cs=(c.toList.take (off+xss.length)++us2++c.toList.drop (off+xss.length+us2.length)).toArray:=⟨_,rfl⟩
   have hsize:cs.size=c.size:=by
    rw[hcs];simp only[eG,cN,cZ,gc,eY];omega
   have hget:∀(m:Nat) (u:Value),(us++us2)[m]?=some u→cs[off+m]?=some u:=fun m u hm=>by
    have hs:=oK c.toList us2 (off+xss.length) (off+m) (by rw[show c.toList.length=c.size from eY]; omega);rw[hcs,d9,hs];rw[eE] at hm
    split at hm
    ·rw[if_pos (by omega)];simpa using p9 m u hm
    ·have hml:=(cO.1 hm).1;rw[if_neg (by omega),if_pos (by omega),show off+m-(off+xss.length)=m-us.length by omega];exact hm
   rw[←hcs] at hrun;have hh:(w.setRow b cs).heap[b]?=some (.cells cs e' (0,0)):=setRow_heap w b c _ e' _ p6
   exact⟨_,_,hrun,rfl,Ya (w':=w.setRow b cs) H hne hj hl2 hν2 hnext x1 x2 x3 (base':=some ⟨b,off,none⟩) (cap':=cap) hroom rfl rfl rfl (by rw[tY]; exact cJ _)
    (fun b' hb=>.inl (by cases hb; exact p10)) (fun b' hb hne'=>setRow_other w b b' _ fun he=>hne' (by rw[he]; rfl)) (.inr ⟨b,off,cs,e',rfl,hh,by omega,hget⟩)⟩
  ·have hy:yss≠[]:=fun e=>by rw[e,dk] at hroom; omega
   have h0:0<yss.length:=fO.2 hy;obtain⟨a,rfl⟩:=hU2 hy;have hrun:=run_append_grow (P:=P) w t ty e i z ht hi hz ⟨b,off,none⟩ xss.length cap us (by rw[hsz]; omega) (fun m u hm=>by rw[Ň]; simp only[World.cell?,p6]; exact p9 m u hm) a yss.length cap2 us2 (by rw[hsz]; omega) (c2 a rfl) (by omega) (by omega) (growslice_fits (by omega) (afU hlen hby));obtain⟨V,w',h1,h2,h3⟩:=hnew cap;exact⟨V,w',hrun.trans h1,h2,h3⟩
def an2 {S:St} {a:Act} {nid n:Nat} {t:TypeId} {ps:Array (Nat×Operand)} {v:AV} (H:Sim ν S a w) (hn:nid<S.h.length) (hd:lkB S.h nid=.dead)
 (e:adZ P S.h nid n t (ps.toList.map fun p=>(p.1,ev S.t p.2)) (fun v h=>some (v,h))=some (v,h')):iL P ν S.h w (Instr.buildSlice t n (ps.map fun(i,x)=>(i,a.eval x))) v h':=by
 cases hps:ps.toList with
 |nil=>rw[hps] at e; cases e
 |cons p l =>
 cases l with
 |cons q l=>rw[hps] at e; cases e
 |nil =>
 obtain⟨p1,x⟩:=p;rw[hps] at e;simp only[ew,ff,adZ] at e;have hv:=Ŏ H x
 cases hev:ev S.t x<;>rw[hev] at e<;>simp only at e<;>try (cases e; done)
 rename_i id g;rw[hev] at hv
 split at e<;>try (cases e; done)
 rename_i el hel
 split at e<;>try (cases e; done)
 rename_i hc
 split at e<;>try (cases e; done)
 rename_i k g' xs hl
 split at e<;>try (cases e; done)
 rename_i hgg;cases e;simp only[cM] at hc;obtain⟨hrow,h0,h1⟩:=hc;obtain rfl:=dc h0;obtain rfl:=dc h1
 obtain rfl:g=g':=by simpa using hgg
 obtain⟨ti,z,hi,hsz,_,hby,hz,hzs⟩:=l6 hrow;have hpa:ps=#[(0,x)]:=dO.1 (by rw[hps]);subst hpa;obtain⟨_,t2,g2,fz2,xs2,hl2,_,hv2⟩:=hv;rw[hl] at hl2;cases hl2
 have hm:((#[(0,x)]:Array (Nat×Operand)).map fun(i,x)=>(i,a.eval x))=#[(0,a.eval x)]:=by simp
 rw[hm];exact al9 H.heap hn hd (kG hel) hi hsz hz hzs hl rfl (hv2 rfl)
def an3 {nid:Nat} {t ty:TypeId} {s v:AV} {id2 g2:Nat} {us ux:Value} (H:HR ν h w) (hn:nid<h.length) (hd:lkB h nid=.dead)
 (e:abK P h nid t s id2 g2 (fun v h=>some (v,h))=some (v,h')) (hs:VR ν h w s us) (hx:VR ν h w (.dp id2 g2) ux):iL P ν h w (Builtin.append_ #[t,t] ty #[us,ux]) v h':=by
 unfold abK at e
 split at e<;>try (cases e; done)
 rename_i el hel
 split at e<;>try (cases e; done)
 rename_i hrow
 split at e<;>try (cases e; done)
 rename_i k g2' yss hl2
 split at e<;>try (cases e; done)
 rename_i hgg
 obtain rfl:g2=g2':=by simpa using hgg
 obtain⟨ti,z,hi,hsz,_,hby,hz,hzs⟩:=l6 hrow;have ht:=kG hel;have hid2:id2<h.length:=ir hl2 (by simp);obtain⟨_,k2,g3,yss2,hl3,_,hv2⟩:=hx;rw[hl2] at hl3; cases hl3;obtain⟨us2,hν2⟩:=hv2 rfl;obtain⟨base2,cap2,us2',q1,_⟩:=H.table hl2;have q1':=q1;rw[hν2] at q1;have q:=mA q1
 injection q with e1 e2
 subst e1 e2
 split at e
 ·-- nil
  split at e<;>try (cases e; done)
  rename_i hok;cases e;have hus:us=.slice none 0 0:=hs;subst hus
  have hne:id2≠nid:=fun e=>by rw[e,hd] at hl2; cases hl2
  obtain⟨V,w',h1,h2,h3,h4⟩:=abJ H t ty ht hi hz hsz hby hzs hne hn (g':=0) (xss:=[]) (us:=[]) hl2 hν2 (fun W=>by rw[hd]; trivial) (.inl ⟨rfl,rfl,rfl,rfl⟩) (by simp[å] at hok; simpa using hok);refine⟨_,w',V,h1,⟨h2,k,0,yss,õ _ (by rw[Û]; exact hn),cJ _,fun _=>⟨_,â _ _ _⟩⟩,h4,h3,by rw[Û,Û]⟩
 ·rename_i id g
  split at e<;>try (cases e; done)
  rename_i hid
  split at e<;>try (cases e; done)
  rename_i k' g' xss hl
  split at e<;>try (cases e; done)
  rename_i hg
  split at e<;>try (cases e; done)
  rename_i hk _;subst hk
  split at e<;>try (cases e; done)
  rename_i hok
  obtain rfl:g=g':=by simpa using hg
  cases e
  have hne:id2≠id:=fun e=>by rw[e] at hid; simp at hid
  have hidl:id<h.length:=ir hl (by simp);obtain⟨_,k3,g4,xss3,hl4,_,hv3⟩:=hs;rw[hl] at hl4; cases hl4;obtain⟨us1,hν1⟩:=hv3 rfl;obtain⟨base,cap,us1',p1,_⟩:=H.table hl;rw[hν1] at p1;have q:=mA p1
  injection q with e1 e2
  subst e1 e2;obtain⟨V,w',h1,h2,h3,h4⟩:=abJ H t ty ht hi hz hsz hby hzs hne hidl (g':=g+1) (xss:=xss) (us:=us1) hl2 hν2 (fun W=>by rw[hl]; exact⟨g+1,xss++yss,rfl,gj _,fun hf=>by omega⟩) (.inr ⟨g,hl,hν1⟩) (by simpa[å] using hok);refine⟨_,w',V,h1,⟨h2,_,g+1,xss++yss,õ _ (by rw[Û]; exact hidl),cJ _,fun _=>⟨_,â _ _ _⟩⟩,h4,h3,by rw[Û,Û]⟩
 ·cases e
end
end Go.Am
end

noncomputable section
namespace Go.Am
variable {ρ:Type}
def DP (k:IntKind) (n:Int) (K:AV→Option ρ):arK k n K=(arK k n some).bind K:=rfl
def AA (P:Program) (op:BinOp) (t:TypeId) (x y:AV) (K:AV→Option ρ):binK P op t x y K=(binK P op t x y some).bind K:=by
 unfold binK; (repeat' split)<;>first|rfl|exact DP _ _ _
def zW (d:Option TypeDesc) (h:List Blk) (x:AV) (K:AV→Option ρ):alI d h x K=(alI d h x some).bind K:=by
 unfold alI; (repeat' split)<;>rfl
def oR (sz:Nat) (h:List Blk) (x i:AV) (K:AV→Option ρ):GY sz h x i K=(GY sz h x i some).bind K:=by
 unfold GY; (repeat' split)<;>rfl
def oM (h:List Blk) (x:AV) (o:Nat) (K:AV→Option ρ):AW h x o K=(AW h x o some).bind K:=by
 unfold AW; (repeat' split)<;>rfl
def tq (P:Program) (h:List Blk) (t:TypeId) (a:AV) (K:AV→Option ρ):TA P h t a K=(TA P h t a some).bind K:=by
 unfold TA; (repeat' split)<;>rfl
def oJ (P:Program) (h:List Blk) (t:TypeId) (a v:AV) (K:List Blk→Option ρ):we P h t a v K=(we P h t a v some).bind K:=by
 unfold we; (repeat' split)<;>rfl
def zH (sz:Nat) (h:List Blk) (x:AV) (lo hi:Option AV) (eat:Bool) (K:AV→List Blk→Option ρ) :
 qe sz h x lo hi eat K=(qe sz h x lo hi eat fun v h=>some (v,h)).bind fun r=>K r.1 r.2:=by
 unfold qe; (repeat' split)<;>rfl
def vY (P:Program) (h:List Blk) (nid:Nat) (t:TypeId) (s x:AV) (K:AV→List Blk→Option ρ) :
 zz P h nid t s x K=(zz P h nid t s x fun v h=>some (v,h)).bind fun r=>K r.1 r.2:=by
 unfold zz; (repeat' split)<;>rfl
def Hv (P:Program) (h:List Blk) (nid:Nat) (t:TypeId) (s:AV) (id g:Nat) (K:AV→List Blk→Option ρ) :
 abK P h nid t s id g K=(abK P h nid t s id g fun v h=>some (v,h)).bind fun r=>K r.1 r.2:=by
 unfold abK; (repeat' split)<;>rfl
def Hs (P:Program) (h:List Blk) (nid n:Nat) (t:TypeId) (ps:List (Nat×AV)) (K:AV→List Blk→Option ρ) :
 adZ P h nid n t ps K=(adZ P h nid n t ps fun v h=>some (v,h)).bind fun r=>K r.1 r.2:=by
 unfold adZ; (repeat' split)<;>rfl
def zD (P:Program) (h:List Blk) (nid:Nat) (t:TypeId) (s x:AV) (K:AV→List Blk→Option ρ) :
 J3 P h nid t s x K=(J3 P h nid t s x fun v h=>some (v,h)).bind fun r=>K r.1 r.2:=by
 unfold J3; (repeat' split)<;>rfl
def As (P:Program) (h:List Blk) (t:TypeId) (x:AV) (K:List Blk→Option ρ):Lq P h t x K=(Lq P h t x some).bind K:=by
 unfold Lq; (repeat' split)<;>rfl
def mn (P:Program) (h:List Blk) (t:TypeId) (m i:AV) (ok:Bool) (K:AV→Option ρ):nJ P h t m i ok K=(nJ P h t m i ok some).bind K:=by
 unfold nJ; (repeat' split)<;>rfl
def mE (P:Program) (h:List Blk) (t:TypeId) (m i x:AV) (K:List Blk→Option ρ):kv P h t m i x K=(kv P h t m i x some).bind K:=by
 unfold kv; (repeat' split)<;>rfl
def iz (gt:Bool) (l:List AV) (K:AV→Option ρ):∀x,kP gt x l K=(kP gt x l some).bind K:=by
 induction l with
 |nil=>intro x; rfl
 |cons y l ih =>
  intro x
  cases x<;>cases y<;>try rfl
  unfold kP; (repeat' split)<;>first|rfl|exact ih _
def opR (P:Program) (S:St) (nid:Nat) (eat:Bool) (o:Op):Option (AV×St):=opK P S nid eat o fun v S=>some (v,S)
def Ε {α β γ:Type} {x:Option α} {y:Option β} {f:α→Option β} {g:β→Option γ} {k:α→Option γ} {z:Option γ}
 (h1:z=x.bind k) (h2:y=x.bind f) (h:∀a,k a=(f a).bind g):z=y.bind g:=by
 subst h1 h2; cases x with
 |none=>rfl
 |some a=>exact h a
def iM (j:Int) (K:Nat→Option ρ):∀(n q:Nat),Zh n q j K=(Zh n q j some).bind K
 |0,_=>rfl
 |n+1,q=>by
  unfold Zh
  split
  ·rfl
  ·exact iM j K n (q+1)
def HX {j:Int} {v:Nat}:∀{n q:Nat},Zh n q j some=some v→j=(v:Int)∧q≤v∧v<q+n
 |0,_,h=>by cases h
 |n+1,q,h=>by
  unfold Zh at h
  split at h
  ·rename_i hd;cases h;exact⟨of_decide_eq_true hd,cJ _,by omega⟩
  ·obtain⟨h1,h2,h3⟩:=HX h;exact⟨h1,by omega,by omega⟩
def acT (P:Program) (S:St) (nid:Nat) (eat:Bool) (o:Op) (K:AV→St→Option ρ) :
 opK P S nid eat o K=(opR P S nid eat o).bind fun r=>K r.1 r.2:=by
 unfold opR;unfold opK;dsimp only
 (repeat' split)<;>first
  |rfl
  |exact Ε (zW ..) (zW ..) fun _=>rfl
  |exact Ε (tq ..) (tq ..) fun _=>rfl
  |exact Ε (oJ ..) (oJ ..) fun _=>rfl
  |exact Ε (AA ..) (AA ..) fun _=>rfl
  |exact Ε (mE ..) (mE ..) fun _=>rfl
  |exact Ε (mn ..) (mn ..) fun _=>rfl
  |exact Ε (vY ..) (vY ..) fun _=>rfl
  |exact Ε (Hv ..) (Hv ..) fun _=>rfl
  |exact Ε (Hs ..) (Hs ..) fun _=>rfl
  |exact Ε (zD ..) (zD ..) fun _=>rfl
  |exact Ε (As ..) (As ..) fun _=>rfl
  |exact Ε (iz _ _ _ _) (iz _ _ _ _) fun _=>rfl
  |exact Ε (DP ..) (DP ..) fun _=>rfl
  |exact Ε (zH ..) (zH ..) fun _=>rfl
  |exact Ε (oM ..) (oM ..) fun _=>rfl
  |exact Ε (oR ..) (oR ..) fun _=>rfl
  |exact Ε (iM ..) (iM ..) fun _=>rfl
  |exact Ε (iM ..) (iM ..) fun _=>by(repeat' split)<;>rfl
end Go.Am
end

noncomputable section
namespace Go.Am
variable [ó]
section
variable {ν ν':Nat→Value} {w w':World} {P:Program}
def ahx (ν:Nat→Value) (S:St) (w:World) (r:Result Next) (v:AV) (S':St):Prop :=
 ∃ν' w' u,(r=.ok (.value u) w'∨(r=.ok .skip w'∧u=undef))∧VR ν' S'.h w' v u∧HR ν' S'.h w'∧Ev S.h.length ν S.h w ν' S'.h w'∧S'.h.length=S.h.length∧S'.t=S.t
def iL.step {S:St} {x:Sem Value} {v:AV} {h':List Blk} (hd:iL P ν S.h w x v h') :
 ahx ν S w ((do let u ←x; pure (.value u):Sem Next).run P w) v {t:=S.t,h:=h'}:=by
 obtain⟨ν',w',u,h1,h2,h3,h4,h5⟩:=hd;refine⟨ν',w',u,.inl ?_,h2,h3,h4,h5,rfl⟩;simp[h1]
def ahx.still {S:St} {r:Result Next} {v:AV} {u:Value} (H:HR ν S.h w) (hr:r=.ok (.value u) w) (hv:VR ν S.h w v u):ahx ν S w r v S :=
 ⟨ν,w,u,.inl hr,hv,H,Ev.refl _ _ _ _,rfl,rfl⟩
def YQ {S:St} {x:Sem Unit} {h':List Blk} (hd:∃w',x.run P w=.ok () w'∧HR ν h' w'∧Ev S.h.length ν S.h w ν h' w'∧h'.length=S.h.length) :
 ahx ν S w ((do x; pure .skip:Sem Next).run P w) .any {t:=S.t,h:=h'}:=by
 obtain⟨w',h1,h3,h4,h5⟩:=hd;refine⟨ν,w',undef,.inr ⟨?_,rfl⟩,trivial,h3,h4,h5,rfl⟩;simp[h1]
def ajg {a:AV} {v:Value} {h:List Blk} (hi:isV0 a=true) (hv:VR ν h w a v):VR0 ν h w a v:=by
 have h1:a.isFn=false:=by cases a<;>first|rfl|cases hi
 have h2:a.isAgg=false:=by cases a<;>first|rfl|cases hi
 have h3:a.isTup=false:=by cases a<;>first|rfl|cases hi
 rwa [JZ h3,Vi h2,Rr h1] at hv
def ć.of_map {α β γ:Type} {R:β→γ→Prop} {f:α→β} {g:α→γ}:∀{l:List α},(∀x∈l,R (f x) (g x))→ć R (l.map f) (l.map g)
 |[],_=>trivial
 |x::l,h=>⟨h x (by simp),ć.of_map fun y hy=>h y (by simp[hy])⟩
def alk (k:IntKind) (a b:Int):(Builtin.max2 (.int k a) (.int k b)).run P w=.ok (.int k (Lj a b)) w:=rfl
def alj (k:IntKind) (a b:Int):(Builtin.min2 (.int k a) (.int k b)).run P w=.ok (.int k (UP a b)) w:=rfl
def aig {S:St} {a:Act} {x y:Operand} (h:Cx x y=true):a.eval x=a.eval y:=by
 unfold Cx at h
 split at h
 ·have:=eq_of_beq h; subst this; rfl
 ·have:=of_decide_eq_true h; subst this; rfl
 ·cases h
def ζ {α β:Type} {x:Option α} {f:α→Option β} {r:β} (h:x.bind f=some r):∃a,x=some a∧f a=some r:=by
 cases x with
 |none=>cases h
 |some a=>exact⟨a,rfl,h⟩
def arr1 {α:Type} {a:Array α} {x:α} (h:a.toList=[x]):a=#[x]:=eV (by simpa using h)
def arr2 {α:Type} {a:Array α} {x y:α} (h:a.toList=[x,y]):a=#[x,y]:=eV (by simpa using h)
def j9 {S:St} {a:Act} {o:Oper} {b:Builtin} {args:Array Operand} {tys:Array TypeId} {f:Array TypeId→TypeId→Array Value→Sem Value} (hop:o.op=.call ⟨.builtin b,args,tys⟩)
 (hb:∀consts vs,builtin b tys o.type consts vs=(do pure (.value (←f tys o.type vs)):Sem Next)) :
 execOp a.eval o=(do let u ←f tys o.type (args.map a.eval); pure (.value u)):=by
 unfold execOp;rw[hop];simp only[resolve,pure_bind,invoke,hb]
def alu {S S':St} {a:Act} {o:Oper} {nid:Nat} {eat:Bool} {v:AV} {clone:Nat→Bool} (H:Sim ν S a w) (hn:Ď clone o.op=true→nid<S.h.length∧lkB S.h nid=.dead)
 (e:opR P S nid eat o.op=some (v,S')):ahx ν S w ((execOp a.eval o).run P w) v S':=by
 have hr:=H.heap
 cases hop:o.op with
 |move x =>
  rw[hop] at e; cases e;exact ahx.still hr (by unfold execOp; rw[hop]; rfl) (Ŏ H x)
 |assign x =>
  rw[hop] at e; cases e;exact ahx.still hr (by unfold execOp; rw[hop]; rfl) (Ŏ H x)
 |pick c x y =>
  rw[hop] at e;simp only[opR,opK] at e
  split at e<;>try (cases e; done)
  rename_i b hb;have hc:=Ŏ H c;rw[hb] at hc;have hc:a.eval c=.bool b:=hc
  have hx:(execOp a.eval o).run P w=.ok (.value (if b then a.eval x else a.eval y)) w:=by unfold execOp; rw[hop]; simp[asBool,hc]
  split at e
  ·cases e; exact ahx.still hr hx (Ŏ H x)
  ·cases e; exact ahx.still hr hx (Ŏ H y)
 |box el x =>
  rw[hop] at e;simp only[opR,opK] at e
  split at e<;>try (cases e; done)
  rename_i cs hcs
  have hx:execOp a.eval o=(do let u ←Instr.box el (a.eval x); pure (.value u)):=by unfold execOp; rw[hop]
  rw[hx]
  split at e
  ·split at e<;>try (cases e; done)
   split at e<;>try (cases e; done)
   rename_i y hy;cases e;exact(aoe hr hcs hy (Ŏ H x)).step
  ·cases e;obtain⟨h1,h2⟩:=hn (by rw[hop]; rfl);exact(box_ok hr h1 h2 hcs (Ŏ H x)).step
 |alloc el =>
  rw[hop] at e;simp only[opR,opK] at e
  split at e<;>try (cases e; done)
  rename_i z hz
  split at e<;>try (cases e; done)
  rename_i cs hcs;cases e;obtain⟨h1,h2⟩:=hn (by rw[hop]; rfl)
  have hx:execOp a.eval o=(do let u ←Instr.alloc el true (.tuple #[]); pure (.value u)):=by unfold execOp; rw[hop]
  rw[hx];exact(amD hr h1 h2 hz hcs).step
 |build t ps =>
  rw[hop] at e;simp only[opR,opK] at e
  have hx:execOp a.eval o=(do let u ←Instr.build t (ps.map fun(i,x)=>(i,a.eval x)); pure (.value u)):=by unfold execOp; rw[hop]
  rw[hx]
  split at e<;>try (cases e; done)
  ·rename_i fs ht
   split at e<;>try (cases e; done)
   rename_i hfs
   split at e<;>try (cases e; done)
   rename_i z hz
   split at e<;>try (cases e; done)
   rename_i zs hzs
   split at e<;>try (cases e; done)
   rename_i cs hcs;cases e;exact(TF H ht hfs hz hzs hcs).step
  ·rename_i n el ht
   split at e<;>try (cases e; done)
   rename_i sz z hs hz
   split at e<;>try (cases e; done)
   rename_i zs hzs
   split at e<;>try (cases e; done)
   rename_i cs hcs;cases e;exact(aek H ht hs hz hzs hcs).step
 |buildSlice t n ps =>
  rw[hop] at e
  have hx:execOp a.eval o=(do let u ←Instr.buildSlice t n (ps.map fun(i,x)=>(i,a.eval x)); pure (.value u)):=by unfold execOp; rw[hop]
  rw[hx];obtain⟨h1,h2⟩:=hn (by rw[hop]; rfl);simp only[opR,opK] at e
  split at e
  ·rw[Hs] at e;obtain⟨⟨v',h'⟩,h3,h4⟩:=ζ e;cases h4;exact(an2 H h1 h2 h3).step
  split at e<;>try (cases e; done)
  rename_i el hel
  split at e<;>try (cases e; done)
  rename_i ty hty
  split at e<;>try (cases e; done)
  rename_i hc;simp only[cM,beq_iff_eq,decide_eq_true_eq] at hc
  split at e<;>try (cases e; done)
  rename_i xs hxs;cases e;exact(Yp H h1 h2 hel hc.1 hc.2.1 hc.2.2 hxs).step
 |load t x =>
  rw[hop] at e;simp only[opR,opK] at e;rw[tq] at e;obtain⟨v',h1,h2⟩:=ζ e;cases h2
  have hx:execOp a.eval o=(do let u ←Instr.loadAt t (a.eval x); pure (.value u)):=by unfold execOp; rw[hop]
  rw[hx];obtain⟨u,h3,h4⟩:=ai4 hr h1 (Ŏ H x);exact(iL.still hr h3 h4).step
 |store t x y =>
  rw[hop] at e;simp only[opR,opK] at e
  have hx:execOp a.eval o=(do Instr.storeAt t (a.eval x) (a.eval y); pure .skip):=by unfold execOp; rw[hop]
  rw[hx]
  split at e
  ·split at e<;>try (cases e; done)
   rename_i id g lo n hsub
   split at e<;>try (cases e; done)
   rename_i ty g' xs hl
   split at e<;>try (cases e; done)
   rename_i hc;simp only[cM,beq_iff_eq,decide_eq_true_eq] at hc;obtain⟨rfl,hln⟩:=hc;rw[oJ] at e;obtain⟨h',h1,h2⟩:=ζ e;cases h2;have hy:=Ŏ H y;rw[hsub] at hy;obtain⟨ν1,v1,H1,ev1⟩:=an0 hr hl hln hy;obtain⟨w',k1,k2,k3,k4⟩:=aeQ H1 h1 ((Ŏ H x).ev ev1) v1;refine⟨ν1,w',undef,.inr ⟨?_,rfl⟩,trivial,k2,ev1.trans k3 (Nat.le_of_eq (Û _ _ _).symm),k4.trans (Û _ _ _),rfl⟩;simp[k1]
  ·rw[oJ] at e;obtain⟨h',h1,h2⟩:=ζ e;cases h2;exact YQ (aeQ hr h1 (Ŏ H x) (Ŏ H y))
 |nilCheck x =>
  rw[hop] at e;simp only[opR,opK] at e;have hv:=Ŏ H x
  split at e<;>try (cases e; done)
  ·rename_i id off he;cases e;rw[he] at hv;have hv':=hv;obtain⟨cs,b,h1,h2,h3⟩:=hv';exact ahx.still hr (by unfold execOp; rw[hop]; simp only[h3]; rfl) (h3▸hv)
  ·rename_i t x' off he;cases e;rw[he] at hv;have hv':=hv;obtain⟨b,o',us,h3,h4⟩:=hv';exact ahx.still hr (by unfold execOp; rw[hop]; simp only[h3]; rfl) (h3▸hv)
  ·rename_i id g i off he
   split at e<;>try (cases e; done)
   rename_i t g' fz xs hl
   split at e<;>try (cases e; done)
   rename_i hgg;cases e;rw[he] at hv;have hv':=hv;obtain⟨ho,t2,g2,fz2,xs2,hl2,hle,hf⟩:=hv';rw[hl] at hl2; cases hl2;obtain⟨_,b,o',cap,_,h3⟩:=hf (eq_of_beq hgg);exact ahx.still hr (by unfold execOp; rw[hop]; simp only[h3]; rfl) (h3▸hv)
 |binOp op t x y yt =>
  rw[hop] at e;simp only[opR,opK] at e;rw[AA] at e;obtain⟨v',h1,h2⟩:=ζ e;cases h2
  have hx:execOp a.eval o=(do let u ←(do eqGuard op t x y (a.eval x) (a.eval y); binOp op t (a.eval x) (a.eval y)); pure (.value u)):=by unfold execOp; rw[hop]
  rw[hx];exact(amB x y hr h1 (Ŏ H x) (Ŏ H y)).step
 |unOp op t x =>
  rw[hop] at e;simp only[opR,opK] at e
  have hx:execOp a.eval o=(do let u ←Op.unary op (a.eval x); pure (.value u)):=by unfold execOp; rw[hop]
  rw[hx];have hv:=Ŏ H x
  split at e<;>try (cases e; done)
  ·rename_i b he;cases e;rw[he] at hv;exact(ahX (op:=.not) hr hv rfl).step
  ·rename_i k n he;rw[DP] at e;obtain⟨v',h1,h2⟩:=ζ e;cases h2;rw[he] at hv;exact(ahX (op:=.neg) hr hv h1).step
 |convert src dst x =>
  rw[hop] at e;simp only[opR,opK] at e
  have hx:execOp a.eval o=(do let u ←convert src dst (a.eval x); pure (.value u)):=by unfold execOp; rw[hop]
  rw[hx];have hv:=Ŏ H x
  split at e<;>try (cases e; done)
  rename_i d k k' n hs hd he;cases e;rw[he] at hv;have hv:a.eval x=.int k' n:=hv;refine(iL.still (v:=.int k (k.wrap n)) (u:=.int k (k.wrap n)) hr ?_ rfl).step;rw[hv];simp only[convert,Sem.run_bind,run_underlying hs,run_underlying hd,Result.andThen_ok];simp[Conv.intToInt]
 |makeFunc fn first caps =>
  rw[hop] at e;simp only[opR,opK] at e
  split at e<;>try (cases e; done)
  rename_i hc;simp only[cM,dz] at hc;cases e
  have hx:execOp a.eval o=(do let u ←Instr.makeFunc fn (first.map a.eval) (caps.map a.eval); pure (.value u)):=by unfold execOp; rw[hop]
  rw[hx];refine(iL.still (v:=.fn fn (first.toList.map (ev S.t)) (caps.toList.map (ev S.t))) (u:=.func fn (first.map a.eval) (caps.map a.eval)) hr rfl ⟨_,_,rfl,?_,?_⟩).step
  ·rw[fN];exact ć.of_map fun x hx=>ajg (hc.1 _ (List.mem_map_of_mem hx)) (Ŏ H x)
  ·rw[fN];exact ć.of_map fun x hx=>ajg (hc.2 _ (List.mem_map_of_mem hx)) (Ŏ H x)
 |makeMap t r =>
  rw[hop] at e;simp only[opR,opK] at e
  split at e<;>try (cases e; done)
  rename_i kt et ht
  split at e<;>try (cases e; done)
  rename_i k v' hk hv
  split at e<;>try (cases e; done)
  cases e;obtain⟨h1,h2⟩:=hn (by rw[hop]; rfl)
  have hx:execOp a.eval o=(do let u ←Instr.makeMap t none; pure (.value u)):=by unfold execOp; rw[hop]; rfl
  rw[hx];exact(agB k v' hr h1 h2).step
 |makeSlice t l c =>
  rw[hop] at e;simp only[opR,opK] at e
  split at e<;>try (cases e; done)
  rename_i k n el hsame hl hel
  split at e<;>try (cases e; done)
  rename_i ty hty
  split at e<;>try (cases e; done)
  rename_i hrow
  split at e<;>try (cases e; done)
  rename_i zs hzs
  split at e<;>try (cases e; done)
  rename_i z hz
  split at e<;>try (cases e; done)
  rename_i hb;simp only[cM,decide_eq_true_eq,å] at hb;cases e;obtain⟨h1,h2⟩:=hn (by rw[hop]; rfl);have hv:=Ŏ H l;rw[hl] at hv;have hv:a.eval l=.int k n:=hv
  have hc:a.eval c=.int k n:=by rw[←aig (S:=S) hsame,hv]
  have hx:execOp a.eval o=(do let u ←Instr.makeSlice t (.int k n) (.int k n); pure (.value u)):=by unfold execOp; rw[hop]; simp only[hv,hc]
  rw[hx];exact(ZV hr h1 h2 hel hrow hzs hz hb.1 hb.2).step
 |slice t x lo hi mx =>
  rw[hop] at e;simp only[opR,opK] at e
  split at e<;>try (cases e; done)
  rename_i el ht
  split at e<;>try (cases e; done)
  rename_i sz hs;rw[zH] at e;obtain⟨⟨v',h'⟩,h1,h2⟩:=ζ e;cases h2
  have hx:execOp a.eval o=(do let u ←Instr.sliceAt t (a.eval x) (lo.map a.eval) (hi.map a.eval) none; pure (.value u)):=by unfold execOp; rw[hop]; rfl
  rw[hx];refine(alf hr ht hs h1 (Ŏ H x) (fun y hy=>?_) (fun hy=>?_) (fun y hy=>?_) (fun hy=>?_)).step
  ·cases lo with
   |none=>cases hy
   |some l=>cases hy; exact⟨_,rfl,Ŏ H l⟩
  ·cases lo with
   |none=>rfl
   |some l=>cases hy
  ·cases hi with
   |none=>cases hy
   |some l=>cases hy; exact⟨_,rfl,Ŏ H l⟩
  ·cases hi with
   |none=>rfl
   |some l=>cases hy
 |fieldAddr t x f =>
  rw[hop] at e;simp only[opR,opK] at e
  split at e<;>try (cases e; done)
  rename_i fs ht
  split at e<;>try (cases e; done)
  rename_i fd hf
  split at e<;>try (cases e; done)
  rename_i n hs;rw[oM] at e;obtain⟨v',h1,h2⟩:=ζ e;cases h2
  have hx:execOp a.eval o=(do let u ←Instr.fieldAt t (a.eval x) f; pure (.value u)):=by unfold execOp; rw[hop]
  rw[hx];exact(abF hr ht hf hs h1 (Ŏ H x)).step
 |field t x f =>
  rw[hop] at e;simp only[opR,opK] at e;have hv:=Ŏ H x
  split at e<;>try (cases e; done)
  rename_i fs cs ht hc
  split at e<;>try (cases e; done)
  rename_i fd hf
  split at e<;>try (cases e; done)
  rename_i agg n hl
  split at e<;>try (cases e; done)
  rename_i ds hg
  split at e<;>try (cases e; done)
  rename_i v' hm;cases e;rw[hc] at hv
  have hx:execOp a.eval o=(do let u ←Instr.field t (a.eval x) f; pure (.value u)):=by unfold execOp; rw[hop]
  rw[hx];exact(al0 hr ht hf hl hg hm hv).step
 |indexAddr t x i =>
  rw[hop] at e;simp only[opR,opK] at e
  have hx:execOp a.eval o=(do let u ←Instr.indexAt t (a.eval x) (a.eval i); pure (.value u)):=by unfold execOp; rw[hop]
  rw[hx]
  split at e<;>try (cases e; done)
  ·rename_i el ht
   split at e<;>try (cases e; done)
   rename_i sz hs;rw[oR] at e;obtain⟨v',h1,h2⟩:=ζ e;cases h2;exact(alQ hr ht hs h1 (Ŏ H x) (Ŏ H i)).step
  ·rename_i n el ht;have hv:=Ŏ H x;have hi:=Ŏ H i
   split at e<;>try (cases e; done)
   rename_i id off k j hx' hi'
   split at e<;>try (cases e; done)
   rename_i sz hs;rw[iM] at e;obtain⟨q,h1,h2⟩:=ζ e;obtain⟨rfl,_,hb⟩:=HX h1;cases h2;rw[hx'] at hv;rw[hi'] at hi;have hi:a.eval i=.int k (q:Int):=hi;rw[hi];have:=(QA hr ht (j:=(q:Int)) (k:=k) ⟨by omega,by omega⟩ hs hv).step;simpa using this
 |index t x i =>
  rw[hop] at e;simp only[opR,opK] at e
  have hx:execOp a.eval o=(do let u ←Instr.index t (a.eval x) (a.eval i); pure (.value u)):=by unfold execOp; rw[hop]
  rw[hx];have hv:=Ŏ H x;have hi:=Ŏ H i
  split at e<;>try (cases e; done)
  rename_i n el cs k j ht hx' hi';rw[iM] at e;obtain⟨q,h1,h2⟩:=ζ e;obtain⟨rfl,_,hb⟩:=HX h1
  split at h2<;>try (cases h2; done)
  rename_i agg m hl
  split at h2<;>try (cases h2; done)
  rename_i ds hg
  split at h2<;>try (cases h2; done)
  rename_i v' hm;cases h2;rw[hx'] at hv;rw[hi'] at hi;have hi:a.eval i=.int k (q:Int):=hi;rw[hi];exact(adN hr ht (j:=(q:Int)) (k:=k) ⟨by omega,by omega⟩ hl (by simpa using hg) hm hv).step
 |lookup t m i ok =>
  rw[hop] at e;simp only[opR,opK] at e;rw[mn] at e;obtain⟨v',h1,h2⟩:=ζ e;cases h2
  have hx:execOp a.eval o=(do let u ←Instr.lookup t (a.eval m) (a.eval i) ok; pure (.value u)):=by unfold execOp; rw[hop]
  rw[hx];exact(aiY hr h1 (Ŏ H m) (Ŏ H i)).step
 |mapUpdate t m i x =>
  rw[hop] at e;simp only[opR,opK] at e;rw[mE] at e;obtain⟨h',h1,h2⟩:=ζ e;cases h2
  have hx:execOp a.eval o=(do Instr.mapUpdate t (a.eval m) (a.eval i) (a.eval x); pure .skip):=by unfold execOp; rw[hop]
  rw[hx];exact YQ (ZT hr h1 (Ŏ H m) (Ŏ H i) (Ŏ H x))
 |extract x i =>
  rw[hop] at e;simp only[opR,opK] at e;have hv:=Ŏ H x
  split at e<;>try (cases e; done)
  rename_i vs hvs
  split at e<;>try (cases e; done)
  rename_i v' hv';cases e;rw[hvs] at hv;obtain⟨us,hu,h2⟩:=hv;obtain⟨u,h3,h4⟩:=h2.get hv';refine ahx.still hr (u:=u) (by unfold execOp; rw[hop]; simp only[hu]; simp at h3; simp[Instr.extract,h3]) ?_
  cases ht:v.isTup with
  |true =>
   cases v<;>try cases ht
   exact h4.elim
  |false=>rw[JZ ht]; exact h4
 |call c =>
  obtain⟨f,args,tys⟩:=c;rw[hop] at e
  cases f with
  |value f=>cases e
  |invoke r n=>cases e
  |builtin b =>
   simp only[opR,opK] at e
   split at e
   ·-- len
    rename_i x t rest hargs htys;rw[zW] at e;obtain⟨v',h1,h2⟩:=ζ e;cases h2;rw[j9 (S:=S) (f:=Builtin.len_) hop (fun _ _=>rfl),arr1 hargs,show Array.map a.eval #[x]=#[a.eval x] by simp]
    have ht0:tys[0]?=some t:=by rw[←f0,htys]; rfl
    exact(len_ok hr h1 (Ŏ H x) ht0).step
   ·rename_i s x t t' hargs htys;obtain⟨h1,h2⟩:=hn (by rw[hop]; rfl);rw[j9 (S:=S) (f:=Builtin.append_) hop (fun _ _=>rfl),arr2 hargs,arr2 htys,show Array.map a.eval #[s,x]=#[a.eval s,a.eval x] by simp]
    split at e
    ·rename_i htt;have htt:=eq_of_beq htt;subst htt;have hvx:=Ŏ H x
     split at e
     ·rename_i id g hdp;rw[hdp] at hvx;rw[Hv] at e;obtain⟨⟨v',h'⟩,h3,h4⟩:=ζ e;cases h4;exact(an3 hr h1 h2 h3 (Ŏ H s) hvx).step
     ·rw[vY] at e;obtain⟨⟨v',h'⟩,h3,h4⟩:=ζ e;cases h4;exact(akt hr h1 h2 h3 (Ŏ H s) hvx).step
    ·split at e<;>try (cases e; done)
     rename_i hu;rw[zD] at e;obtain⟨⟨v',h'⟩,h3,h4⟩:=ζ e;cases h4;exact(akU hr h1 h2 hu h3 (Ŏ H s) (Ŏ H x)).step
   ·rename_i x t hargs htys
    split at e<;>try (cases e; done)
    rename_i d hd;rw[As] at e;obtain⟨h',h1,h2⟩:=ζ e;cases h2;rw[j9 (S:=S) (f:=Builtin.clear_) hop (fun _ _=>rfl),arr1 hargs,show Array.map a.eval #[x]=#[a.eval x] by simp]
    have ht0:tys[0]?=some t:=by rw[←f0,htys]; rfl
    exact(amh ht0 hr h1 (by rw[hd]; rfl) (Ŏ H x)).step
   ·rename_i x t rest hargs htys
    split at e<;>try (cases e; done)
    rename_i el ht hx;cases e;have hv:=Ŏ H x;rw[hx] at hv;have hv:a.eval x=.slice none 0 0:=hv;rw[j9 (S:=S) (f:=Builtin.cap_) hop (fun _ _=>rfl),arr1 hargs]
    have ht0:tys[0]?=some t:=by rw[←f0,htys]; rfl
    exact(iL.still (v:=.int .i64 0) (u:=.int .i64 0) hr (by simp[Builtin.cap_,ht0,hv,run_underlying ht,goInt]) rfl).step
   ·rename_i x xs hargs;rw[iz] at e;obtain⟨v',h1,h2⟩:=ζ e;cases h2;rw[j9 (S:=S) (f:=Builtin.min_) hop (fun _ _=>rfl)];obtain⟨u,h3,h4⟩:=N5 (P:=P) (f:=Builtin.min2) (gt:=false) (fun k p q=>alj k p q) (xs.map (ev S.t)) (xs.map a.eval) _ v (a.eval x) h1 (Ŏ H x) (ć.of_map fun y _=>Ŏ H y);refine(iL.still hr ?_ h4).step;simp only[Builtin.min_,fN,hargs,ew];exact h3
   ·rename_i x xs hargs;rw[iz] at e;obtain⟨v',h1,h2⟩:=ζ e;cases h2;rw[j9 (S:=S) (f:=Builtin.max_) hop (fun _ _=>rfl)];obtain⟨u,h3,h4⟩:=N5 (P:=P) (f:=Builtin.max2) (gt:=true) (fun k p q=>alk k p q) (xs.map (ev S.t)) (xs.map a.eval) _ v (a.eval x) h1 (Ŏ H x) (ć.of_map fun y _=>Ŏ H y);refine(iL.still hr ?_ h4).step;simp only[Builtin.max_,fN,hargs,ew];exact h3
   ·cases e
 |_=>rw[hop] at e; cases e
end
end Go.Am
end

noncomputable section
namespace Go.Am
variable [ó]
def ř (nid:Nat) (h h':List Blk):Prop:=∀j,j≠nid→lkB h j=.dead→lkB h' j=.dead
def ř.refl (nid:Nat) (h:List Blk):ř nid h h:=fun _ _ hd=>hd
def ř.upd {nid id:Nat} {h:List Blk} (B:Blk) (hl:id=nid∨lkB h id≠.dead):ř nid h (č h id B):=fun j hj hd=>by
 rw[ù]
 ·exact hd
 ·rintro rfl;rcases hl with rfl|hl
  ·exact hj rfl
  ·exact hl hd
def ř.trans {nid:Nat} {h h' h'':List Blk} (h1:ř nid h h') (h2:ř nid h' h''):ř nid h h'':=fun j hj hd=>h2 j hj (h1 j hj hd)
def ř.upd2 {nid i j:Nat} {h:List Blk} (A B:Blk) (hi:lkB h i≠.dead) (hl:j=nid∨lkB h j≠.dead):ř nid h (č (č h i A) j B):=fun m hm hd=>by
 have h1:m≠i:=fun e=>hi (by rw[←e]; exact hd);have h2:m≠j:=fun e=>hl.elim (fun q=>hm (e.trans q)) fun q=>q (by rw[←e]; exact hd);rw[ù _ h2,ù _ h1];exact hd
def ř.frz {nid:Nat} {h:List Blk} (v:AV):ř nid h (frz h v):=fun _ _ hd=>afw hd
def ř.frzA {nid:Nat} {h:List Blk} (ps:List (Nat×AV)):ř nid h (frzA h ps):=fun _ _ hd=>QD ps hd
def nA {h:List Blk} {id:Nat} {B:Blk} (hl:lkB h id=B) (hB:B≠.dead):lkB h id≠.dead:=by rw[hl]; exact hB
def anO {v:AV} {id:Nat} {h:List Blk} {k u:Ty} {es:List (Val k×Val u)} (hl:lkB h id=.map k u es):lkB (frz h v) id=.map k u es:=by
 unfold frz; split
 ·exact XX _ hl
 ·exact afy hl
def TK {P:Program} {h h':List Blk} {t:TypeId} {a v:AV} {nid:Nat} (h1:we P h t a v some=some h'):ř nid h h':=by
 unfold we at h1
 (repeat' split at h1)<;>first
  |(cases h1; done)
  |(cases h1; exact ř.upd _ (.inr (nA ‹lkB h _=.cells _› (by simp))))
  |(cases h1; exact ř.upd _ (.inr (nA ‹lkB h _=.deep _ _ _› (by simp))))
  |(cases h1; exact(ř.frz _).trans (ř.upd _ (.inr (nA ‹lkB (frz h _) _=.row _ _ _ _› (by simp)))))
def aiw {P:Program} {S S':St} {o:Op} {nid:Nat} {eat:Bool} {v:AV} (e:opR P S nid eat o=some (v,S')):ř nid S.h S'.h:=by
 unfold opR opK at e;dsimp only at e
 (repeat' split at e)<;>first
  |(cases e; done)
  |(cases e; exact ř.refl _ _)
  |(cases e; exact ř.upd _ (.inl rfl))
  |(cases e; exact(ř.frzA _).trans (ř.upd _ (.inl rfl)))
  |(rw[tq] at e; obtain⟨v',h1,h2⟩:=ζ e; cases h2; exact ř.refl _ _)
  |(rw[AA] at e; obtain⟨v',h1,h2⟩:=ζ e; cases h2; exact ř.refl _ _)
  |(rw[DP] at e; obtain⟨v',h1,h2⟩:=ζ e; cases h2; exact ř.refl _ _)
  |(rw[oM] at e; obtain⟨v',h1,h2⟩:=ζ e; cases h2; exact ř.refl _ _)
  |(rw[oR] at e; obtain⟨v',h1,h2⟩:=ζ e; cases h2; exact ř.refl _ _)
  |(rw[mn] at e; obtain⟨v',h1,h2⟩:=ζ e; cases h2; exact ř.refl _ _)
  |(rw[zW] at e; obtain⟨v',h1,h2⟩:=ζ e; cases h2; exact ř.refl _ _)
  |(rw[iz] at e; obtain⟨v',h1,h2⟩:=ζ e; cases h2; exact ř.refl _ _)
  |(rw[oJ] at e; obtain⟨h',h1,h2⟩:=ζ e; cases h2; exact TK h1)
  | (rw [oJ] at e; obtain ⟨h', h1, h2⟩ := ζ e; cases h2
     exact(ř.upd _ (.inr (nA ‹lkB S.h _=.row _ _ _ _› (by simp)))).trans (TK h1))
  | (rw [zH] at e; obtain ⟨⟨v', h'⟩, h1, h2⟩ := ζ e; cases h2
     unfold qe at h1
     (repeat' split at h1)<;>first
      |(cases h1; done)
      |(cases h1; exact ř.refl _ _)
      |(cases h1; exact ř.upd _ (.inr (nA ‹lkB S.h _=.row _ _ _ _› (by simp)))))
  | (rw [vY] at e; obtain ⟨⟨v', h'⟩, h1, h2⟩ := ζ e; cases h2
     unfold zz at h1
     (repeat' split at h1)<;>first
      |(cases h1; done)
      |(cases h1; exact ř.upd _ (.inl rfl))
      |(cases h1; exact ř.upd _ (.inr (nA ‹lkB S.h _=.row _ _ _ _› (by simp)))))
  | (rw [Hs] at e; obtain ⟨⟨v', h'⟩, h1, h2⟩ := ζ e; cases h2
     unfold adZ at h1
     (repeat' split at h1)<;>first
      |(cases h1; done)
      |(cases h1; exact ř.upd2 _ _ (nA ‹lkB S.h _=.row _ _ _ _› (by simp)) (.inl rfl)))
  | (rw [Hv] at e; obtain ⟨⟨v', h'⟩, h1, h2⟩ := ζ e; cases h2
     unfold abK at h1
     split at h1<;>try (cases h1; done)
     split at h1<;>try (cases h1; done)
     split at h1<;>try (cases h1; done)
     rename_i hl2
     split at h1<;>try (cases h1; done)
     (repeat' split at h1)<;>first
      |(cases h1; done)
      |(cases h1; exact ř.upd2 _ _ (nA hl2 (by simp)) (.inl rfl))
      |(cases h1; exact ř.upd2 _ _ (nA hl2 (by simp)) (.inr (nA (by assumption) (by simp)))))
  | (rw [zD] at e; obtain ⟨⟨v', h'⟩, h1, h2⟩ := ζ e; cases h2
     unfold J3 at h1
     (repeat' split at h1)<;>first
      |(cases h1; done)
      |(cases h1; exact ř.upd _ (.inl rfl)))
  | (rw [As] at e; obtain ⟨h', h1, h2⟩ := ζ e; cases h2
     unfold Lq at h1
     (repeat' split at h1)<;>first
      |(cases h1; done)
      |(cases h1; exact ř.refl _ _)
      |(cases h1; exact ř.upd _ (.inr (nA ‹lkB S.h _=.row _ _ _ _› (by simp)))))
  | (rw [iM] at e; obtain ⟨q, h1, h2⟩ := ζ e
     (repeat' split at h2)<;>first
      |(cases h2; done)
      |(cases h2; exact ř.refl _ _))
  | (rw [mE] at e; obtain ⟨h', h1, h2⟩ := ζ e; cases h2
     unfold kv at h1
     (repeat' split at h1)<;>first
      |(cases h1; done)
      |(cases h1; exact(ř.frz _).trans (ř.upd _ (.inr (nA (anO ‹lkB S.h _=.map _ _ _›) (by simp))))))
end Go.Am
end

noncomputable section
namespace Go.Am
variable [ó]
section
variable {ρ:Type} {ν ν':Nat→Value} {h h':List Blk} {w w':World} {P:Program}
def Ev.same (hh:∀id,lkB h' id=lkB h id) (hw:w'.heap=w.heap) (h1:w'.os=w.os) (h2:w'.tape=w.tape) (h3:w'.output=w.output) (m:Nat):Ev m ν h w ν h' w' :=
 ⟨h1,h2,h3,by rw[hw]; exact cJ _,fun b _ hb=>⟨by rw[hw],fun⟨id,q1,q2⟩=>hb ⟨id,by rwa [hh] at q1,q2⟩⟩,fun id _=>by rw[hh]; exact Blk.next_refl _ _ _⟩
def HR.same (H:HR ν h w) (hh:∀id,lkB h' id=lkB h id) (hw:w'.heap=w.heap) (h1:w'.os=w.os) (h2:w'.tape=w.tape) (h3:w'.output=w.output):HR ν h' w':=by
 refine⟨fun id=>?_,fun i j b q1 q2=>H.inj i j b (by rwa [hh] at q1) (by rwa [hh] at q2),fun b hb=>by rw[hw]; exact H.ghlt b hb,fun id b q1=>H.ghne id b (by rwa [hh] at q1)⟩;rw[hh];exact BR.ev (Ev.same hh hw h1 h2 h3 _) rfl (fun b _ _ _=>by rw[hw]) (H.blk id)
def Sim.same {S:St} {a:Act} (H:Sim ν S a w) (hh:∀id,lkB h' id=lkB S.h id) (hw:w'.heap=w.heap) (h1:w'.os=w.os) (h2:w'.tape=w.tape) (h3:w'.output=w.output):Sim ν {t:=S.t,h:=h'} a w' :=
 ⟨H.defers,H.len,fun i=>(H.tmps i).ev (Ev.same hh hw h1 h2 h3 _),H.heap.same hh hw h1 h2 h3⟩
def UF:∀(h:List Blk) (d:Nat),h.length≤d→lkB h d=.dead
 |[],_,_=>rfl
 |x::xs,0,h=>by simp at h
 |x::xs,d+1,h=>by simpa[lkB] using UF xs d (by simpa using h)
def XO:∀(h:List Blk) (n id:Nat),lkB (h++List.replicate n .dead) id=lkB h id
 |[],0,_=>rfl
 |[],n+1,0=>rfl
 |[],n+1,id+1=>by simpa[List.replicate_succ,lkB] using XO [] n id
 |x::xs,n,0=>rfl
 |x::xs,n,id+1=>by simpa[lkB] using XO xs n id
abbrev fen:Fence:={Fence.wide with round:=ó.Q}
def acn (P:Program) (L:Nat) (call:List Nat→Bool→Nat→List AV→List Blk→(AV→List Blk→Option ρ)→Option ρ):Prop :=
 ∀path draw g args h (K:AV→List Blk→Option ρ) r,path.length=L→call path draw g args h K=some r→∀ν w vals,HR ν h w→ć (VR ν h w) args vals →
  (∃fn c,P.funcs[g]?=some fn∧fn.body=some c) ∧
  CallsIn Fence.wide 0 P g vals.toArray w fun e w'=>∃ν' h' v u,e=.returned u∧VR ν' h' w' v u∧HR ν' h' w'∧Ev h.length ν h w ν' h' w'∧h.length≤h'.length∧(∀j,j<h.length→lkB h j=.dead→lkB h' j=.dead)∧K v h'=some r
def J2 (P:Program) (clone:Nat→Bool):Prop :=
 ∀g,clone g=true→∀fz S nid x v S',zq P g fz S nid x (fun v S=>some (v,S))=some (v,S')→∀ν w u,HR ν S.h w→VR ν S.h w x u→nid<S.h.length→lkB S.h nid=.dead →
  (∃fn c,P.funcs[g]?=some fn∧fn.body=some c) ∧
  CallsIn Fence.wide 0 P g #[u] w fun e w'=>∃ν' u',e=.returned u'∧VR ν' S'.h w' v u'∧HR ν' S'.h w'∧Ev S.h.length ν S.h w ν' S'.h w'∧S.h.length≤S'.h.length∧ř nid S.h S'.h∧S'.t=S.t
def JO (P:Program) (g:Nat) (fz:Bool) (S:St) (nid:Nat) (x:AV) (K:AV→St→Option ρ):zq P g fz S nid x K=(zq P g fz S nid x fun v S=>some (v,S)).bind fun r=>K r.1 r.2:=by
 unfold zq; (repeat' split)<;>rfl
def Aft (m:Nat) (ν:Nat→Value) (h:List Blk) (w:World) (K:St→Option ρ) (r:ρ) (a':Act) (w':World):Prop :=
 ∃ν' S',Sim ν' S' a' w'∧Ev m ν h w ν' S'.h w'∧h.length≤S'.h.length∧K S'=some r
def Aft.trans {m m':Nat} {K:St→Option ρ} {r:ρ} {a':Act} {ν ν₁:Nat→Value} {h h₁:List Blk} {w w₁ w':World} (e:Ev m ν h w ν₁ h₁ w₁) (hl:h.length≤h₁.length) (hm:m≤m') (ha:Aft m' ν₁ h₁ w₁ K r a' w'):Aft m ν h w K r a' w':=by
 obtain⟨ν',S',h1,h2,h3,h4⟩:=ha;exact⟨ν',S',h1,e.trans h2 hm,du hl h3,h4⟩
def op_nid {S:St} {o:Op} {nid nid':Nat} {eat:Bool} {clone:Nat→Bool} (hal:Ď clone o=false):opR P S nid eat o=opR P S nid' eat o:=by
 cases o<;>try first|rfl|(cases hal; done)
 rename_i c;obtain⟨f,args,tys⟩:=c
 cases f<;>try rfl
 rename_i b
 cases b<;>first|(cases hal; done)|rfl|(unfold opR opK; dsimp only; (repeat' split)<;>first|rfl|simp_all)
def acI {E : Env ρ} {call : List Nat → Bool → Nat → List AV → List Blk → (AV → List Blk → Option ρ) → Option ρ} {L : Nat} (hcall : acn E.P L call) (hP : ∀ (f : Nat) (fn : Func), E.P.funcs[f]? = some fn → (fn.name == "runtime.NumGoroutine") = false)
 (hclone:J2 E.P E.clone)
 {fid:Nat} {path:List Nat} {draw:Bool} {S:St} {a:Act} {nid:Nat} {o:Oper} {K:AV→St→Option ρ} {r:ρ} (hp:path.length=L) (H:Sim ν S a w) (hn:Ď E.clone o.op=true→nid<S.h.length∧lkB S.h nid=.dead)
 (e:jF E call fid path draw S nid o K=some r) {next:Act→World→Prop} {Q:Exit→Act→World→Prop}
 (hk:∀(ν':Nat→Value) (w':World) (u:Value) (v:AV) (S':St),VR ν' S'.h w' v u→HR ν' S'.h w'→Ev S.h.length ν S.h w ν' S'.h w'→S.h.length≤S'.h.length→(∀j,j<S.h.length→j≠nid∨Ď E.clone o.op=false→lkB S.h j=.dead→lkB S'.h j=.dead)→S'.t=S.t→K v S'=some r→next (a.put o.dst u) w') :
 o.wpIn fen 0 E.P a w next Q:=by
 refine⟨fun _ _=>trivial,?_⟩
 have hnd:∀c,o.op≠.defer c:=by
  intro c hc;unfold jF at e
  split at e<;>try (cases e; done)
  split at e
  ·rename_i hop;rw[hc] at hop; cases hop
  ·rw[hc] at e;cases e
 rw[Oper.semAt_eq _ _ _ hnd]
 have plain:∀v S',opR E.P S nid (adW E draw fid o) o.op=some (v,S')→K v S'=some r→o.uponIn fen 0 E.P a next Q ((execOp a.eval o).run E.P w):=by
  intro v S' h1 h2;obtain⟨ν',w',u,h3,h4,h5,h6,h7,h8⟩:=alu (clone:=E.clone) H hn h1
  have:=hk ν' w' u v S' h4 h5 h6 (Nat.le_of_eq h7.symm) (fun j _ hj hd=>by
   rcases hj with hj|hal
   ·exact aiw h1 j hj hd
   ·rw[op_nid (nid':=j+1) hal] at h1
    exact aiw h1 j (by omega) hd) h8 h2
  rcases h3 with h3|⟨h3,rfl⟩
  ·rw[h3]; exact this
  ·rw[h3]; exact this
 unfold jF at e
 split at e<;>try (cases e; done)
 split at e
 ·rename_i f args tys hop
  split at e<;>try (cases e; done)
  rename_i g first caps hf;have hfv:=Ŏ H f;rw[hf] at hfv;obtain⟨fs,cs,hfe,hfirst,hcaps⟩:=hfv
  split at e
  ·rename_i hcl
   split at e<;>try (cases e; done)
   rename_i x hargs;rw[JO] at e;obtain⟨⟨v,S'⟩,h1,h2⟩:=ζ e;simp only[cM] at hcl;obtain⟨hcl,hlit⟩:=hcl
   have hfg:f=.func g:=by
    cases f<;>try (cases hlit; done)
    simp only[ev] at hf
    injection hf with q1
    injection q1 with q1
    rw[q1]
   subst hfg;obtain⟨hn1,hn2⟩:=hn (by rw[hop]; exact hcl);obtain⟨⟨fn,c,hfn,hbody⟩,hc⟩:=hclone g hcl _ S nid _ v S' h1 ν w _ H.heap (Ŏ H x) hn1 hn2
   have hx:(execOp a.eval o).run E.P w=.ok (.enter g #[a.eval x]) w:=by
    unfold execOp;rw[hop,arr1 hargs];simp only[resolve,Act.eval,Deferred.ofValue,pure_bind,invoke,callFunc,Sem.run_bind,run_program,Result.andThen_ok,hfn,hP g fn hfn,hbody];simp only[Bool.false_eq_true,if_false,Option.isNone_some];show Result.ok (Next.enter g _) w=_;congr 2;apply Array.ext'
    cases x<;>simp[Act.eval]
   rw[hx,Oper.uponIn_enter];refine⟨fun hf=>(by cases hf),hc.mono fun e' w' hw=>?_⟩;obtain⟨ν',u',rfl,g1,g2,g3,g4,g6,g5⟩:=hw;exact hk ν' w' u' v S' g1 g2 g3 g4 (fun j _ hj hd=>g6 j (hj.resolve_right (by rw[hop]; exact fun hf=>by rw[show Ď E.clone (.call ⟨.value (.func g),args,tys⟩)=E.clone g from rfl,hcl] at hf; cases hf)) hd) g5 h2
  ·rename_i hcl
   have hargs:ć (VR ν S.h w) (first++(args.toList.map (ev S.t)++caps)) (fs.toList++(args.toList.map a.eval++cs.toList)) :=
    (hfirst.mono fun _ _ q=>q.up.up).append ((ć.of_map fun x _=>Ŏ H x).append (hcaps.mono fun _ _ q=>q.up.up))
   obtain⟨⟨fn,c,hfn,hbody⟩,hc⟩:=hcall path draw g _ _ _ r hp e ν w _ H.heap hargs
   have hx:(execOp a.eval o).run E.P w=.ok (.enter g (fs.toList++(args.toList.map a.eval++cs.toList)).toArray) w:=by
    unfold execOp;rw[hop];simp only[resolve,hfe,Deferred.ofValue,pure_bind,invoke,callFunc,Sem.run_bind,run_program,Result.andThen_ok,hfn,hP g fn hfn,hbody];simp only[Bool.false_eq_true,if_false,Option.isNone_some];show Result.ok (Next.enter g _) w=_;congr 2;apply Array.ext';simp
   rw[hx,Oper.uponIn_enter];refine⟨fun hf=>(by cases hf),hc.mono fun e' w' hw=>?_⟩;obtain⟨ν',h',v,u,rfl,h1,h2,h3,h4,h6,h5⟩:=hw;exact hk ν' w' u v {t:=S.t,h:=h'} h1 h2 h3 h4 (fun j hj _ hd=>h6 j hj hd) rfl h5
 ·rename_i op hne;rw[acT] at e;obtain⟨⟨v,S'⟩,h1,h2⟩:=ζ e;exact plain v S' h1 h2
def DU:∀(t:List AV) (d:Nat),upd t d (lk t d)=t
 |[],_=>rfl
 |_::_,0=>rfl
 |x::t,d+1=>by simp[upd,lk,DU t d]
def amI (n nid:Nat) (h:List Blk):Prop:=∀j,nid≤j→j<nid+n→j<h.length∧lkB h j=.dead
def mO {clone:Nat→Bool} {o:Oper} {os:List Oper}:iy clone (o::os)=bif Ď clone o.op then iy clone os+1 else iy clone os:=rfl
def UR {all:List Oper} {o:Oper} {j:Nat} {want:Bool}:∀{l:List Oper},rk all l=true→o∈l→o.guard=some (j,want)→∃p d,all[j]?=some p∧p.dst=some d
 |[],_,hm,_=>by cases hm
 |x::l,hg,hm,he=>by
  simp only[rk,cM] at hg;rcases cW.1 hm with rfl|hm
  ·have h1:=hg.1;rw[he] at h1;simp only at h1
   split at h1
   ·rename_i p hp;obtain⟨d,hd⟩:=gA.1 h1;exact⟨p,d,hp,hd⟩
   ·cases h1
  ·exact UR hg.2 hm he
def agc {ops:Array Oper} {tmps:Array Value} {j d:Nat} {p:Oper} (hp:ops.toList[j]?=some p) (hd:p.dst=some d) :
 (∀b,tmps.getD d undef=.bool b→yielded ops tmps j=some b)∧(tmps.getD d undef=undef→yielded ops tmps j=none):=by
 have hp':ops[j]?=some p:=by simpa using hp
 constructor
 ·intro b hb;unfold yielded;rw[hp'];simp only[Option.bind_some,hd]
  cases ht:tmps[d]? with
  |none=>simp[dK,ht,undef] at hb
  |some v=>simp[dK,ht] at hb; subst hb; rfl
 ·intro hb;unfold yielded;rw[hp'];simp only[Option.bind_some,hd]
  cases ht:tmps[d]? with
  |none=>rfl
  |some v=>simp[dK,ht] at hb; subst hb; rfl
def Cq (E:Env ρ) (call:List Nat→Bool→Nat→List AV→List Blk→(AV→List Blk→Option ρ)→Option ρ) (fid:Nat) (path:List Nat) (draw:Bool) (all:List Oper) (i nid:Nat) (o:Oper) (S:St) (K:St→Option ρ):Option ρ :=
 match o.guard with
 |none=>jF E call fid (path++[i]) draw S nid o fun v S=>K {t:=ě S.t o.dst v,h:=S.h}
 |some (j,want)=>match lk S.t (tz all j) with
  |.bool b=>match b==want with
   |true=>jF E call fid (path++[i]) draw S nid o fun v S=>K {t:=ě S.t o.dst v,h:=S.h}
   |false=>K {t:=ě S.t o.dst .und,h:=S.h}
  |.und=>K {t:=ě S.t o.dst .und,h:=S.h}
  |_=>none
def ais {E:Env ρ} {call:List Nat→Bool→Nat→List AV→List Blk→(AV→List Blk→Option ρ)→Option ρ} {fid:Nat} {path:List Nat} {draw:Bool} {all:List Oper} {o:Oper} {os:List Oper} {i nid:Nat} {S:St} {K:St→Option ρ} :
 agw E call fid path draw all (o::os) i nid S K=Cq E call fid path draw all i nid o S fun S'=>agw E call fid path draw all os (i+1) (bif Ď E.clone o.op then nid+1 else nid) S' K:=by
 simp only[agw,Cq]
 have hself:∀d b,lk S.t d=.bool b→({t:=upd S.t d (.bool b),h:=S.h}:St)=S:=fun d b hb=>by rw[←hb,DU]
 have htself:∀d b,lk S.t d=.bool b→upd S.t d (.bool b)=S.t:=fun d b hb=>by rw[←hb,DU]
 cases o.guard with
 |none=>rfl
 |some g =>
  obtain⟨j,want⟩:=g;simp only
  cases hb:lk S.t (tz all j)<;>try rfl
  rename_i b;have h1:=hself _ b hb;have h2:=htself _ b hb
  cases b<;>cases want<;>simp only[h1,h2]<;>rfl
def Nu {E : Env ρ} {call : List Nat → Bool → Nat → List AV → List Blk → (AV → List Blk → Option ρ) → Option ρ} {L : Nat} (hcall : acn E.P L call) (hP : ∀ (f : Nat) (fn : Func), E.P.funcs[f]? = some fn → (fn.name == "runtime.NumGoroutine") = false)
 (hclone:J2 E.P E.clone) {fid:Nat} {path:List Nat} {draw:Bool} {ops:Array Oper} (hg:rk ops.toList ops.toList=true)
 {S:St} {a:Act} {nid i:Nat} {o:Oper} {K:St→Option ρ} {r:ρ} (hp:path.length+1=L) (ho:ops[i]?=some o) (H:Sim ν S a w) (hn:Ď E.clone o.op=true→nid<S.h.length∧lkB S.h nid=.dead)
 (e:Cq E call fid path draw ops.toList i nid o S K=some r) {next:Act→World→Prop} {Q:Exit→Act→World→Prop}
 (hk:∀(ν':Nat→Value) (w':World) (u:Value) (v:AV) (S':St),VR ν' S'.h w' v u→HR ν' S'.h w'→Ev S.h.length ν S.h w ν' S'.h w'→S.h.length≤S'.h.length→(∀j,j<S.h.length→j≠nid∨Ď E.clone o.op=false→lkB S.h j=.dead→lkB S'.h j=.dead)→S'.t=S.t →
  K {t:=ě S'.t o.dst v,h:=S'.h}=some r→next (a.put o.dst u) w') :
 wpOpIn fen 0 E.P ops Q i next a w:=by
 have run:jF E call fid (path++[i]) draw S nid o (fun v S=>K {t:=ě S.t o.dst v,h:=S.h})=some r →
  o.wpIn fen 0 E.P a w next Q:=fun h1=>acI hcall hP hclone (by simpa using hp) H hn h1 hk
 -- it is left out
 have skip:K {t:=ě S.t o.dst .und,h:=S.h}=some r→next (a.put o.dst undef) w :=
  fun h1=>hk ν w undef .und S rfl H.heap (Ev.refl _ _ _ _) (cJ _) (fun _ _ _ hd=>hd) rfl h1
 have hmem:o∈ops.toList:=by
  have:ops.toList[i]?=some o:=by simpa using ho
  exact cR this
 unfold wpOpIn;rw[ho];simp only[Cq] at e
 split at e
 ·rename_i hgd
  have hw:Region.wanted o (yielded ops a.tmps)=true:=by simp[Region.wanted,hgd]
  simp only[hw,if_true];exact run e
 ·rename_i j want hgd;obtain⟨p,d,hp,hd⟩:=UR hg hmem hgd;obtain⟨hy1,hy2⟩:=agc (tmps:=a.tmps) hp hd
  have hslot:tz ops.toList j=d:=by simp[tz,hp,hd]
  rw[hslot] at e;have hv:=H.tmps d
  split at e
  ·rename_i b hb;rw[hb] at hv;have hyb:=hy1 b hv
   split at e
   ·rename_i hbw
    have hw:Region.wanted o (yielded ops a.tmps)=true:=by
     simp only[beq_iff_eq] at hbw;simp[Region.wanted,hgd,hyb,hbw]
    simp only[hw,if_true];exact run e
   ·rename_i hbw
    have hw:Region.wanted o (yielded ops a.tmps)=false:=by
     simp only[beq_eq_false_iff_ne] at hbw;simpa[Region.wanted,hgd,hyb] using hbw
    simp only[hw,dg,if_false];exact⟨fun _ _=>trivial,skip e⟩
  ·rename_i hb;rw[hb] at hv
   have hw:Region.wanted o (yielded ops a.tmps)=false:=by simp[Region.wanted,hgd,hy2 hv]
   simp only[hw,dg,if_false];exact⟨fun _ _=>trivial,skip e⟩
  ·cases e
def air {E : Env ρ} {call : List Nat → Bool → Nat → List AV → List Blk → (AV → List Blk → Option ρ) → Option ρ} {L : Nat} (hcall : acn E.P L call) (hP : ∀ (f : Nat) (fn : Func), E.P.funcs[f]? = some fn → (fn.name == "runtime.NumGoroutine") = false)
 (hclone:J2 E.P E.clone) {fid:Nat} {path:List Nat} {draw:Bool} {ops:Array Oper} (hg:rk ops.toList ops.toList=true)
 {S:St} {a:Act} {nid i:Nat} {o:Oper} {os:List Oper} {K:St→Option ρ} {r:ρ} (hp:path.length+1=L) (ho:ops[i]?=some o) (H:Sim ν S a w) (hn:amI (iy E.clone (o::os)) nid S.h)
 (e:agw E call fid path draw ops.toList (o::os) i nid S K=some r) {next:Act→World→Prop} {Q:Exit→Act→World→Prop}
 (hk:∀(ν':Nat→Value) (w':World) (u:Value) (v:AV) (S':St),VR ν' S'.h w' v u→HR ν' S'.h w'→Ev S.h.length ν S.h w ν' S'.h w'→S.h.length≤S'.h.length→amI (iy E.clone os) (bif Ď E.clone o.op then nid+1 else nid) S'.h→(∀j,j<S.h.length→j<nid→lkB S.h j=.dead→lkB S'.h j=.dead)→S'.t=S.t →
  agw E call fid path draw ops.toList os (i+1) (bif Ď E.clone o.op then nid+1 else nid) {t:=ě S'.t o.dst v,h:=S'.h} K=some r→next (a.put o.dst u) w') :
 wpOpIn fen 0 E.P ops Q i next a w:=by
 have hn0:Ď E.clone o.op=true→nid<S.h.length∧lkB S.h nid=.dead:=fun hal=>hn nid (cJ _) (by rw[mO,hal]; simp)
 have hrest:amI (iy E.clone os) (bif Ď E.clone o.op then nid+1 else nid) S.h:=fun j h1 h2=>by
  cases hal:Ď E.clone o.op with
  |true=>rw[hal] at h1 h2; exact hn j (by simp at h1; omega) (by rw[mO,hal]; simp at h2 ⊢; omega)
  |false=>rw[hal] at h1 h2; exact hn j (by simpa using h1) (by rw[mO,hal]; simpa using h2)
 rw[ais] at e;refine Nu hcall hP hclone hg hp ho H hn0 e fun ν' w' u v S' g1 g2 g3 g4 g5 g6 g7=>hk ν' w' u v S' g1 g2 g3 g4 (fun j h2 h3=>?_) (fun j hj hlt hd=>g5 j hj (.inl (by omega)) hd) g6 g7;obtain⟨h4,h5⟩:=hrest j h2 h3;refine⟨by omega,g5 j h4 ?_ h5⟩
 cases hal:Ď E.clone o.op with
 |true=>left; rw[hal] at h2; simp at h2; omega
 |false=>exact .inr rfl
end
end Go.Am
end

noncomputable section
namespace Go.Am
variable [ó]
section
variable {ρ:Type} {ν ν':Nat→Value} {h h':List Blk} {w w':World} {P:Program}
def Dd (m:Nat) (h h':List Blk):Prop:=∀j,j<m→lkB h j=.dead→lkB h' j=.dead
def Dd.refl (m:Nat) (h:List Blk):Dd m h h:=fun _ _ hd=>hd
def Dd.trans {m m':Nat} {h h' h'':List Blk} (h1:Dd m h h') (h2:Dd m' h' h'') (hm:m≤m'):Dd m h h'':=fun j hj hd=>h2 j (dm hj hm) (h1 j hj hd)
def ahQ (m:Nat) (ν:Nat→Value) (h:List Blk) (w:World) (K:Exit→St→Option ρ) (r:ρ) (e:Exit) (a':Act) (w':World):Prop :=
 ∃ν' S',Sim ν' S' a' w'∧Ev m ν h w ν' S'.h w'∧m≤S'.h.length∧Dd m h S'.h∧K e S'=some r
def ahQ.trans {m m':Nat} {K:Exit→St→Option ρ} {r:ρ} {e:Exit} {a':Act} {ν₁:Nat→Value} {h₁:List Blk} {w₁:World} (ev:Ev m ν h w ν₁ h₁ w₁) (hd:Dd m h h₁) (hm:m≤m') (ha:ahQ m' ν₁ h₁ w₁ K r e a' w'):ahQ m ν h w K r e a' w':=by
 obtain⟨ν',S',h1,h2,h3,h4,h5⟩:=ha;exact⟨ν',S',h1,ev.trans h2 hm,du hm h3,hd.trans h4 hm,h5⟩
def akK (E:Env ρ) (call:List Nat→Bool→Nat→List AV→List Blk→(AV→List Blk→Option ρ)→Option ρ):Prop :=
 (∀path draw g args h K,call path draw g args h K=none) ∨
 ((∀ f p, E.pure f = some p → ∀ path draw args h K, call path draw f args h K = Vw (draw && !E.fz f) p h args K) ∧
  (∀f,E.pure f=none→E.sort f=true→∀path draw args h K,call path draw f args h K=match args with|[x]=>Vo h x K|_=>none) ∧
  (∀f,E.pure f=none→E.sort f=false→E.compact f=true→∀path draw args h K,call path draw f args h K=match args with|[x]=>oE h x K|_=>none))
def NormOk (m:Nat) (N:St→Option St):Prop:=∀(S S':St) (ν:Nat→Value) (a:Act) (w:World),N S=some S'→Sim ν S a w→m≤S.h.length→∃ν',Sim ν' S' a w∧Ev m ν S.h w ν' S'.h w∧m≤S'.h.length∧Dd m S.h S'.h
def af8 (E:Env ρ):Prop:=∀path fid rid m J,E.joins path fid rid m=some J→∃N,NormOk m N∧∀body rest,J body rest=body (fun S=>match N S with|some S'=>rest S'|none=>none)
def hZ {E:Env ρ} (h:E.joins=fun _ _ _ _=>none):af8 E:=by
 intro path fid rid m J e;rw[h] at e;cases e
structure lK (E:Env ρ) (L:Nat) (call:List Nat→Bool→Nat→List AV→List Blk→(AV→List Blk→Option ρ)→Option ρ):Prop where
 pureEq:akK E call
 call:acn E.P L call
 plain : ∀ (f : Nat) (fn : Func), E.P.funcs[f]? = some fn → (fn.name == "runtime.NumGoroutine") = false
 clone:J2 E.P E.clone
 joins:af8 E
def ZG {E:Env ρ} {call:List Nat→Bool→Nat→List AV→List Blk→(AV→List Blk→Option ρ)→Option ρ} {L:Nat} (hE:lK E L call) {fid:Nat} {path:List Nat} {draw:Bool} {ops:Array Oper} (hp:path.length+1=L) (hg:rk ops.toList ops.toList=true)
 {K:St→Option ρ} {r:ρ} {Q:Exit→Act→World→Prop} {m:Nat}:∀(os:List Oper) (i nid:Nat) (S:St) (a:Act) (ν:Nat→Value) (w:World),(∀k,os[k]?=ops[i+k]?)→Sim ν S a w→amI (iy E.clone os) nid S.h→m≤nid→m≤S.h.length →
  agw E call fid path draw ops.toList os i nid S K=some r →
  (∀ν' S' a' w',Sim ν' S' a' w'→Ev m ν S.h w ν' S'.h w'→m≤S'.h.length→Dd m S.h S'.h→K S'=some r→Q .normal a' w') →
  wpOpsIn fen 0 E.P ops Q (List.range' i os.length) a w
 |[],i,nid,S,a,ν,w,_,H,_,_,hm,e,hQ=>hQ ν S a w H (Ev.refl _ _ _ _) hm (Dd.refl _ _) e
 |o::os,i,nid,S,a,ν,w,ho,H,hn,hmn,hm,e,hQ=>by
  rw[cX,List.range'_succ,wpOpsIn_cons]
  have ho0:ops[i]?=some o:=by have:=ho 0; simpa using this.symm
  refine air hE.call hE.plain hE.clone hg hp ho0 H hn e fun ν' w' u v S' h1 h2 h3 h4 h5 h8 h6 h7=>?_;have hput:=H.put h3 h2 o.dst h1
  refine ZG hE hp hg os (i+1) _ {t:=ě S'.t o.dst v,h:=S'.h} _ ν' w' (fun k=>by have:=ho (k+1); rw[show i+1+k=i+(k+1) by omega]; simpa using this) (by rw[h6]; exact hput) h5 (by cases Ď E.clone o.op<;>simp<;>omega) (by simp; omega) h7
   fun ν'' S'' a'' w'' g1 g2 g3 g4 g5=>hQ ν'' S'' a'' w'' g1 ((h3.mono hm).trans g2 (cJ _)) g3 (fun j hj hd=>g4 j hj (h8 j (by omega) (by omega) hd)) g5
def acM {E:Env ρ} {call:List Nat→Bool→Nat→List AV→List Blk→(AV→List Blk→Option ρ)→Option ρ} {L:Nat} (hE:lK E L call) {fid rid:Nat} {path:List Nat} {ops:Array Oper} {S:St} {a:Act} {K:Exit→St→Option ρ} {r:ρ} {m:Nat} (hp:path.length+1=L)
 (e:NE E call fid path false ops.toList S (K .normal)=some r) (H:Sim ν S a w) (hm:m≤S.h.length):(Code.region rid ops false).wpIn fen 0 E.P (ahQ m ν S.h w K r) a w:=by
 unfold NE at e
 split at e<;>try (cases e; done)
 rename_i hg;simp only[Bool.false_and,Bool.false_or,fk] at hg;apply wpIn_region;have hpre:=fun id=>XO S.h (iy E.clone ops.toList) id;have H1:Sim ν {t:=S.t,h:=S.h++List.replicate (iy E.clone ops.toList) .dead} a w:=H.same hpre rfl rfl rfl rfl;have ev0:Ev m ν S.h w ν (S.h++List.replicate (iy E.clone ops.toList) .dead) w:=Ev.same hpre rfl rfl rfl rfl m
 have:=ZG (m:=m) (Q:=ahQ m ν S.h w K r) hE hp hg ops.toList 0 S.h.length _ a ν w (fun k=>by simp) H1 (fun j h1 h2=>⟨by simp; omega,by simp only[hpre]; exact UF _ _ h1⟩) hm (by simp; omega) e
  (fun ν' S' a' w' g1 g2 g3 g4 g5=>⟨ν',S',g1,ev0.trans g2 (cJ _),g3,fun j hj hd=>g4 j hj (by simp only[hpre]; exact hd),g5⟩)
 rw[List.range_eq_range'];simpa using this
def lY (E:Env ρ) (L:Nat) (call:List Nat→Bool→Nat→List AV→List Blk→(AV→List Blk→Option ρ)→Option ρ):Prop :=
 ∀(fid rid:Nat) (path:List Nat) (ops:Array Oper) (S:St) (a:Act) (K:Exit→St→Option ρ) (r:ρ) (m:Nat) (ν:Nat→Value) (w:World),path.length+1=L →
  NE E call fid path true ops.toList S (K .normal)=some r→Sim ν S a w→m≤S.h.length→(Code.region rid ops true).wpIn fen 0 E.P (ahQ m ν S.h w K r) a w
def drawn:Code→Bool
 |.region _ _ d=>d
 |.seq a b=>drawn a||drawn b
 |.cond _ a b=>drawn a||drawn b
 |.block _ b=>drawn b
 |.scope b=>drawn b
 |_=>false
def noGoto (Q:Exit→Act→World→Prop):Exit→Act→World→Prop
 |.goto _,_,_=>False
 |e,a,w=>Q e a w
section
variable {F:Fence} {n:Nat} {P:Program} {Q:Exit→Act→World→Prop} {a:Act} {w:World}
def lZ {b:Frame} {k:List Item} {cs:List Frame} {c:Code}:step P (lone (b.atR a (.code (.scope c)::k)) cs w)=.next (lone (b.atR a (.code c::.inScope c::k)) cs w) :=
 step_lone_go (by simp[stepG,stepG.exec,Frame.atR])
def Vl {b:Frame} {k:List Item} {cs:List Frame} {c:Code}:step P (lone (b.atR a (.inScope c::k)) cs w)=.next (lone (b.atR a k) cs w) :=
 step_lone_go (by simp[stepG,stepG.exec,Frame.atR])
def agd {c:Code} (h:c.wpIn F n P (noGoto Q) a w):(Code.scope c).wpIn F n P Q a w:=by
 intro b k cs hro hb hr;have h0:(lone (b.atR a (.code (.scope c)::k)) cs w).fenced P F:=fenced_calm hb hr rfl;obtain⟨e,a₁,w₁,hq,harr⟩:=h b (.inScope c::k) cs hro hb hr
 cases e with
 |normal=>exact⟨.normal,a₁,w₁,hq,.head h0 lZ (StepsIn.trans harr (.one (fenced_calm hb hr rfl) Vl))⟩
 |exit id =>
  have hx:exitTo id (.inScope c::k)=exitTo id k:=by simp[exitTo]
  exact⟨.exit id,a₁,w₁,hq,fun k' hk=>.head h0 lZ (harr.1 k' (by rw[hx]; exact hk)),
   fun hr' hk=>let ⟨k₁,h1,h2⟩:=harr.2 hr' (by rw[hx]; exact hk); ⟨k₁,h1,.head h0 lZ h2⟩⟩
 |goto l=>exact hq.elim
 |ret=>exact⟨_,a₁,w₁,hq,.of_steps (.one h0 lZ) harr⟩
 |panic ch=>exact⟨_,a₁,w₁,hq,.of_steps (.one h0 lZ) harr⟩
 |outgrown=>exact⟨_,a₁,w₁,hq,.of_steps (.one h0 lZ) harr⟩
end
def nY (E:Env ρ) (path:List Nat) (fid bid:Nat) (b:Code):Prop :=
 ∀(m:Nat) (S:St) (K:Exit→St→Option ρ) (r:ρ) (ν:Nat→Value) (a:Act) (w:World),E.loops path fid bid m S K=some r→Sim ν S a w→m≤S.h.length→(Code.loop b).wpIn fen 0 E.P (ahQ m ν S.h w K r) a w
def JB {E:Env ρ} {call:List Nat→Bool→Nat→List AV→List Blk→(AV→List Blk→Option ρ)→Option ρ} {L:Nat} (hE:lK E L call) {fid:Nat} {path:List Nat} (hp:path.length+2=L) {m:Nat} {r:ρ}:∀(c:Code) (bid:Nat) (S:St) (K:Exit→St→Option ρ) (ν:Nat→Value) (a:Act) (w:World),
 (drawn c=true→lY E L call)→(∀x∈î bid c,nY E path fid x.1 x.2)→goC E call fid path m bid c S K=some r→Sim ν S a w→m≤S.h.length→c.wpIn fen 0 E.P (ahQ m ν S.h w K r) a w:=by
 intro c
 induction c with
 |skip=>exact fun bid S K ν a w _ _ e H hm=>wpIn_skip ⟨ν,S,H,Ev.refl _ _ _ _,hm,Dd.refl _ _,e⟩
 |label l=>exact fun bid S K ν a w _ _ e H hm=>wpIn_label ⟨ν,S,H,Ev.refl _ _ _ _,hm,Dd.refl _ _,e⟩
 |exit id=>exact fun bid S K ν a w _ _ e H hm=>wpIn_exit ⟨ν,S,H,Ev.refl _ _ _ _,hm,Dd.refl _ _,e⟩
 |ret=>exact fun bid S K ν a w _ _ e H hm=>wpIn_ret ⟨ν,S,H,Ev.refl _ _ _ _,hm,Dd.refl _ _,e⟩
 |region rid ops draw =>
  intro bid S K ν a w hD _ e H hm;simp only[goC,ajv] at e
  cases draw with
  |false=>exact acM hE (by simpa using hp) e H hm
  |true=>exact hD rfl fid rid _ ops S a K r m ν w (by simpa using hp) e H hm
 |seq x y ihx ihy =>
  intro bid S K ν a w hD hL e H hm;simp only[goC] at e
  cases hj:E.joins path fid (QB y) m with
  |none =>
   rw[hj] at e;simp only at e;refine wpIn_seq (wpIn_mono (ihx bid S _ ν a w (fun h=>hD (by simp[drawn,h])) (fun z hz=>hL z (dY _ hz)) e H hm) fun e' a' w' ha=>?_);obtain⟨ν',S',h1,h2,h3,h4,h5⟩:=ha
   cases e' with
   |normal =>
    exact wpIn_mono (ihy bid S' K ν' a' w' (fun h=>hD (by simp[drawn,h])) (fun z hz=>hL z (dM _ hz)) h5 h1 h3) fun e'' a'' w'' ha=>ha.trans h2 h4 (cJ _)
   |exit id=>exact⟨ν',S',h1,h2,h3,h4,h5⟩
   |goto l=>exact⟨ν',S',h1,h2,h3,h4,h5⟩
   |ret=>exact⟨ν',S',h1,h2,h3,h4,h5⟩
   |panic ch=>exact⟨ν',S',h1,h2,h3,h4,h5⟩
   |outgrown=>exact⟨ν',S',h1,h2,h3,h4,h5⟩
  |some J =>
   rw[hj] at e;simp only at e;obtain⟨N,hN,hJ⟩:=hE.joins _ _ _ _ _ hj;rw[hJ] at e;refine wpIn_seq (wpIn_mono (ihx bid S _ ν a w (fun h=>hD (by simp[drawn,h])) (fun z hz=>hL z (dY _ hz)) e H hm) fun e' a' w' ha=>?_);obtain⟨ν',S',h1,h2,h3,h4,h5⟩:=ha
   cases e' with
   |normal =>
    simp only at h5
    split at h5<;>try (cases h5; done)
    rename_i S'' hn;obtain⟨ν'',g1,g2,g3,g4⟩:=hN S' S'' ν' a' w' hn h1 h3;exact wpIn_mono (ihy bid S'' K ν'' a' w' (fun h=>hD (by simp[drawn,h])) (fun z hz=>hL z (dM _ hz)) h5 g1 g3) fun e'' a'' w'' ha=>ha.trans (h2.trans g2 (cJ _)) (h4.trans g4 (cJ _)) (cJ _)
   |exit id=>exact⟨ν',S',h1,h2,h3,h4,h5⟩
   |goto l=>exact⟨ν',S',h1,h2,h3,h4,h5⟩
   |ret=>exact⟨ν',S',h1,h2,h3,h4,h5⟩
   |panic ch=>exact⟨ν',S',h1,h2,h3,h4,h5⟩
   |outgrown=>exact⟨ν',S',h1,h2,h3,h4,h5⟩
 |cond c x y ihx ihy =>
  intro bid S K ν a w hD hL e H hm;simp only[goC] at e
  split at e<;>try (cases e; done)
  rename_i b hb;have hv:=Ŏ H c;rw[hb] at hv;have hv:a.eval c=.bool b:=hv
  split at e
  ·exact wpIn_cond_true hv (ihx bid S K ν a w (fun h=>hD (by simp[drawn,h])) (fun z hz=>hL z (dY _ hz)) e H hm)
  ·exact wpIn_cond_false hv (ihy bid S K ν a w (fun h=>hD (by simp[drawn,h])) (fun z hz=>hL z (dM _ hz)) e H hm)
 |block id b ih =>
  intro bid S K ν a w hD hL e H hm;simp only[goC] at e;refine wpIn_block (wpIn_mono (ih id S _ ν a w (fun h=>hD (by simpa[drawn] using h)) hL e H hm) fun e' a' w' ha=>?_);obtain⟨ν',S',h1,h2,h3,h4,h5⟩:=ha
  cases e' with
  |exit j =>
   simp only[Exit.inBlock];simp only at h5
   split at h5
   ·rename_i hj;rw[if_pos (eq_of_beq hj)];exact⟨ν',S',h1,h2,h3,h4,h5⟩
   ·rename_i hj
    have:¬j=id:=by simpa using hj
    rw[if_neg this];exact⟨ν',S',h1,h2,h3,h4,h5⟩
  |normal=>exact⟨ν',S',h1,h2,h3,h4,h5⟩
  |goto l=>exact⟨ν',S',h1,h2,h3,h4,h5⟩
  |ret=>exact⟨ν',S',h1,h2,h3,h4,h5⟩
  |panic ch=>exact⟨ν',S',h1,h2,h3,h4,h5⟩
  |outgrown=>exact⟨ν',S',h1,h2,h3,h4,h5⟩
 |loop b ih =>
  intro bid S K ν a w hD hL e H hm;simp only[goC] at e;exact hL (bid,b) (by simp[î]) m S K r ν a w e H hm
 |scope b ih =>
  intro bid S K ν a w hD hL e H hm;simp only[goC] at e;refine agd (wpIn_mono (ih bid S _ ν a w (fun h=>hD (by simpa[drawn] using h)) hL e H hm) fun e' a' w' ha=>?_);obtain⟨ν',S',h1,h2,h3,h4,h5⟩:=ha
  cases e' with
  |goto l=>cases h5
  |normal=>exact⟨ν',S',h1,h2,h3,h4,h5⟩
  |exit id=>exact⟨ν',S',h1,h2,h3,h4,h5⟩
  |ret=>exact⟨ν',S',h1,h2,h3,h4,h5⟩
  |panic ch=>exact⟨ν',S',h1,h2,h3,h4,h5⟩
  |outgrown=>exact⟨ν',S',h1,h2,h3,h4,h5⟩
 |_=>intro bid S K ν a w hD hL e H hm; cases e
def lv {E:Env ρ} {call:List Nat→Bool→Nat→List AV→List Blk→(AV→List Blk→Option ρ)→Option ρ} {L:Nat} (hE:lK E L call) (hD:lY E L call) {fid:Nat} {path:List Nat} (hp:path.length+2=L) {m:Nat} {r:ρ} (c:Code) (bid:Nat) (S:St) (K:Exit→St→Option ρ) (ν:Nat→Value) (a:Act) (w:World)
 (hL:∀x∈î bid c,nY E path fid x.1 x.2) (e:goC E call fid path m bid c S K=some r) (H:Sim ν S a w) (hm:m≤S.h.length):c.wpIn fen 0 E.P (ahQ m ν S.h w K r) a w :=
 JB hE hp c bid S K ν a w (fun _=>hD) hL e H hm
end
end Go.Am
end

noncomputable section
namespace Go.Am
variable [ó]
section
variable {ρ:Type} {ν ν':Nat→Value} {h h':List Blk} {w w':World} {P:Program}
def akI:Prop:=∀(T:Tpl) (pin:Nat) (cs vs:List Ty) (S:St) (p:Val (tyL cs)) (v:Val (tyL vs)) (ν:Nat→Value) (a:Act) (w:World),Ew T pin cs vs S=some (p,v)→Sim ν S a w →
 ∃ν',Sim ν' (i7 T cs vs p v) a w∧Ev pin ν S.h w ν' (i7 T cs vs p v).h w∧pin≤(i7 T cs vs p v).h.length∧Dd pin S.h (i7 T cs vs p v).h
def UY:∀(l:List (Exit×Tpl×List Ty)) (e:Exit) (i j:Nat),alY l e i=some j→∃x,i≤j∧l[j-i]?=some x∧MQ x.1 e=true
 |[],_,_,_,h=>by cases h
 |x::l,e,i,j,h=>by
  unfold alY at h
  split at h
  ·rename_i hs;cases h;exact⟨x,cJ _,by simp,hs⟩
  ·obtain⟨y,h1,h2,h3⟩:=UY l e (i+1) j h;refine⟨y,by omega,?_,h3⟩;rw[show j-i=(j-(i+1))+1 by omega];simpa using h2
def acH {a b:Exit} (h:MQ a b=true):a=b:=by
 unfold MQ at h
 split at h
 ·rw[eq_of_beq h]
 ·rfl
 ·cases h
def agN (hM:akI) {E:Env ρ} {call:List Nat→Bool→Nat→List AV→List Blk→(AV→List Blk→Option ρ)→Option ρ} {N:Nat} (hE:lK E N call) (hD:lY E N call) {fid bid:Nat} {path:List Nat} (hpath:path.length+2=N) {b:Code}
 (hin:∀x∈î bid b,nY E path fid x.1 x.2) (L:È)
 (bF:Val (tyL L.cs)→Val (tyL L.vs)→(Val (tyL L.vs)→Option ρ)→((i:Nat)→Val (tyL (L.zs i))→Option ρ)→Option ρ)
 (hrun:∀m S K,E.loops path fid bid m S K=acJ L bF m S K)
 (law:∀p v kn kx,goC E call fid path L.pin bid b (i7 L.head L.cs L.vs p v) (YW L kn kx)=bF p v (kn p) (fun i=>kx i p)):nY E path fid bid b:=by
 intro m S K r ν a w e H hm;rw[hrun] at e;unfold acJ at e
 split at e<;>try (cases e; done)
 rename_i hpin;have hpin:m≤L.pin:=fG hpin
 split at e<;>try (cases e; done)
 rename_i p v hmt;obtain⟨n,hn⟩:=agO e;obtain⟨ν₁,H1,ev1,hp1,dd1⟩:=hM _ _ _ _ _ _ _ ν a w hmt H;apply wpIn_loop_rounds n
 have key:∀(n:Nat) (p:Val (tyL L.cs)) (v:Val (tyL L.vs)) (ν₁:Nat→Value) (a₁:Act) (w₁:World),akR (fun v kn=>bF p v kn fun i z=>K (L.xk i) (i7 (L.tpl i) L.cs (L.zs i) p z)) n v=some r →
  Sim ν₁ (i7 L.head L.cs L.vs p v) a₁ w₁→Ev m ν S.h w ν₁ (i7 L.head L.cs L.vs p v).h w₁→L.pin≤(i7 L.head L.cs L.vs p v).h.length→Dd m S.h (i7 L.head L.cs L.vs p v).h →
  Code.roundsIn fen 0 E.P b (ahQ m ν S.h w K r) n a₁ w₁:=by
  intro n
  induction n with
  |zero=>intro p v ν₁ a₁ w₁ e; cases e
  |succ n ih =>
   intro p v ν₁ a₁ w₁ e H1 ev1 hp1 dd1;rw[roundsIn_succ];have hl:=law p v (fun p v=>akR (fun v kn=>bF p v kn fun i z=>K (L.xk i) (i7 (L.tpl i) L.cs (L.zs i) p z)) n v) (fun i p z=>K (L.xk i) (i7 (L.tpl i) L.cs (L.zs i) p z))
   have e':goC E call fid path L.pin bid b (i7 L.head L.cs L.vs p v) (YW L (fun p v=>akR (fun v kn=>bF p v kn fun i z=>K (L.xk i) (i7 (L.tpl i) L.cs (L.zs i) p z)) n v) (fun i p z=>K (L.xk i) (i7 (L.tpl i) L.cs (L.zs i) p z)))=some r:=by
    rw[hl]; exact e
   refine wpIn_mono (lv hE hD hpath b bid _ _ ν₁ a₁ w₁ hin e' H1 hp1) fun x a₂ w₂ ha=>?_;obtain⟨ν₂,S₂,H2,ev2,hp2,dd2,hk⟩:=ha;have ev12:Ev m ν S.h w ν₂ S₂.h w₂:=ev1.trans ev2 hpin;have dd12:Dd m S.h S₂.h:=dd1.trans dd2 hpin
   have out:∀x,x≠.normal→YW L (fun p v=>akR (fun v kn=>bF p v kn fun i z=>K (L.xk i) (i7 (L.tpl i) L.cs (L.zs i) p z)) n v) (fun i p z=>K (L.xk i) (i7 (L.tpl i) L.cs (L.zs i) p z)) x S₂=some r→ahQ m ν S.h w K r x a₂ w₂:=by
    intro x hx hk;unfold YW at hk
    split at hk
    ·exact absurd rfl hx
    ·split at hk<;>try (cases hk; done)
     rename_i i hi
     split at hk<;>try (cases hk; done)
     rename_i p' z hmt;obtain⟨y,_,h1,h2⟩:=UY _ _ _ _ hi
     have hxk:L.xk i=x:=by
      have:L.exits[i]?=some y:=by simpa using h1
      unfold È.xk;rw[this];exact acH h2
     obtain⟨ν₃,H3,ev3,hp3,dd3⟩:=hM _ _ _ _ _ _ _ ν₂ a₂ w₂ hmt H2;have hk:K (L.xk i) (i7 (L.tpl i) L.cs (L.zs i) p' z)=some r:=hk;rw[hxk] at hk;exact⟨ν₃,_,H3,ev12.trans ev3 hpin,du hpin hp3,dd12.trans dd3 hpin,hk⟩
   cases x with
   |normal =>
    simp only[YW] at hk
    split at hk<;>try (cases hk; done)
    rename_i p' v' hmt;obtain⟨ν₃,H3,ev3,hp3,dd3⟩:=hM _ _ _ _ _ _ _ ν₂ a₂ w₂ hmt H2;exact ih p' v' ν₃ a₂ w₂ hk H3 (ev12.trans ev3 hpin) hp3 (dd12.trans dd3 hpin)
   |exit id=>exact out _ (by simp) hk
   |ret=>exact out _ (by simp) hk
   |goto l=>exact out _ (by simp) hk
   |panic ch=>exact out _ (by simp) hk
   |outgrown=>exact out _ (by simp) hk
 exact key n p v ν₁ a w hn H1 (ev1.mono hpin) hp1 (fun j hj hd=>dd1 j (by omega) hd)
end
end Go.Am
end

noncomputable section
namespace Go.Am
variable [ó]
section
variable {ν:Nat→Value} {h h':List Blk} {w:World}
def abQ {t:Ty} {d:DV} {x:Val t} (e:Q6 t d=some x):d=⟨t,x⟩:=by
 unfold Q6 at e
 split at e<;>try (cases e; done)
 rename_i ht _;obtain⟨ty,val⟩:=d;simp only at ht;subst ht;cases e;rfl
def agh (u:Ty) (l:List Ty) (t:Ty) (d:DV) (ds:List DV):agi (u::l) t (d::ds)=(match Q6 t d with
 |some x=>match agi l u ds with
  |some y=>some ((x,y):Val t×Val (tys u l))
  |none=>none
 |none=>none):=rfl
def aiB (t:Ty) (x:Val t):agz t [] x=[⟨t,x⟩]:=rfl
def agy (t u:Ty) (l:List Ty) (x:Val t) (y:Val (tys u l)):agz t (u::l) ((x,y):Val t×Val (tys u l))=⟨t,x⟩::agz u l y:=rfl
def ak1 (l:List Ty):∀(t:Ty) (ds:List DV) (x:Val (tys t l)),agi l t ds=some x→agz t l x=ds:=by
 induction l with
 |nil =>
  intro t ds x e
  match ds,e with
  |[],e=>exact absurd (show(none:Option (Val t))=some x from e) (fun h=>by cases h)
  |[d],e =>
   have e:Q6 t d=some x:=e;rw[abQ e]; exact aiB t x
  |_::_::_,e=>exact absurd (show(none:Option (Val t))=some x from e) (fun h=>by cases h)
 |cons u l ih =>
  intro t ds x e
  match ds,e with
  |[],e=>exact absurd (show(none:Option (Val t×Val (tys u l)))=some x from e) (fun h=>by cases h)
  |d::ds,e =>
   rw[agh] at e
   cases hy:Q6 t d with
   |none=>rw[hy] at e; exact absurd (show(none:Option (Val t×Val (tys u l)))=some x from e) (fun h=>by cases h)
   |some y =>
    cases hz:agi l u ds with
    |none=>rw[hy,hz] at e; exact absurd (show(none:Option (Val t×Val (tys u l)))=some x from e) (fun h=>by cases h)
    |some z =>
     rw[hy,hz] at e;have e:((y,z):Val t×Val (tys u l))=x:=Option.some.inj e;rw[←e,abQ hy,←ih u ds z hz];exact agy t u l y z
def aeL (l:List Ty) (ds:List DV) (x:Val (tyL l)) (e:ani l ds=some x):acU l x=ds:=by
 cases l with
 |nil=>cases ds with
  |nil=>rfl
  |cons=>cases e
 |cons t l=>exact ak1 l t ds x e
def νb (B:List Bd) (ν:Nat→Value) (i:Nat):Value :=
 match jh B i with
 |some (.at_ id)=>ν id
 |some .new=>.slice none 0 0
 |some .newd=>.agg [Value.slice none 0 0].toArray
 |_=>undef
structure Ext (M M':Mt):Prop where
 bd:∀i id,jh M.bd i=some (.at_ id)→jh M'.bd i=some (.at_ id)
 new:∀i,jh M.bd i=some .new→jh M'.bd i=some .new
 newd:∀i,jh M.bd i=some .newd→jh M'.bd i=some .newd
 cons:M.cons <+: M'.cons
 vars:M.vars <+: M'.vars
 freed:∀i∈M.freed,i∈M'.freed
 len:M'.bd.length=M.bd.length
def Ext.refl (M:Mt):Ext M M:=⟨fun _ _ h=>h,fun _ h=>h,fun _ h=>h,dV,dV,fun _ h=>h,rfl⟩
def Ext.trans {M M' M'':Mt} (h:Ext M M') (k:Ext M' M''):Ext M M'' :=
 ⟨fun i id q=>k.bd i id (h.bd i id q),fun i q=>k.new i (h.new i q),fun i q=>k.newd i (h.newd i q),h.cons.trans k.cons,h.vars.trans k.vars,fun i q=>k.freed i (h.freed i q),k.len.trans h.len⟩
def Ŵ:∀(l:List Bd) (d:Nat) (b:Bd) (i:Nat),jh (Lz l d b) i=if i=d∧d<l.length then some b else jh l i
 |[],d,v,i=>by simp[Lz,jh]
 |x::xs,0,v,0=>by simp[Lz,jh]
 |x::xs,0,v,i+1=>by simp[Lz,jh]
 |x::xs,d+1,v,0=>by simp[Lz,jh]
 |x::xs,d+1,v,i+1=>by simp[Lz,jh,Ŵ xs d v i]
def rj:∀(l:List Bd) (d:Nat) (b:Bd),(Lz l d b).length=l.length
 |[],_,_=>rfl
 |_::_,0,_=>rfl
 |_::xs,d+1,v=>by simp[Lz,rj xs d v]
def yX:∀{l:List Bd} {i:Nat} {b:Bd},jh l i=some b→i<l.length
 |[],_,_,h=>by cases h
 |_::_,0,_,_=>gy _
 |_::_,i+1,_,h=>Nat.succ_lt_succ (yX (by simpa[jh] using h))
def iJ {M M':Mt} {i id:Nat} (e:Rl M i id=some M'):Ext M M'∧jh M'.bd i=some (.at_ id)∧M'.cons=M.cons∧M'.vars=M.vars:=by
 unfold Rl at e
 split at e<;>try (cases e; done)
 ·rename_i ho;cases e;have hlt:=yX ho;refine⟨⟨fun j id' q=>?_,fun j q=>?_,fun j q=>?_,dV,dV,fun _ q=>q,rj _ _ _⟩,by simp[Ŵ,hlt],rfl,rfl⟩
  ·simp only[Ŵ]
   by_cases hj:j=i
   ·subst hj; rw[ho] at q; cases q
   ·simp[hj,q]
  ·simp only[Ŵ]
   by_cases hj:j=i
   ·subst hj; rw[ho] at q; cases q
   ·simp[hj,q]
  ·simp only[Ŵ]
   by_cases hj:j=i
   ·subst hj; rw[ho] at q; cases q
   ·simp[hj,q]
 ·rename_i id' ho
  split at e<;>try (cases e; done)
  rename_i hi;cases e;rw[eq_of_beq hi] at ho;exact⟨Ext.refl _,ho,rfl,rfl⟩
def Lt {M M':Mt} {i:Nat} (e:aem M i=some M'):Ext M M'∧jh M'.bd i=some .new∧M'.cons=M.cons∧M'.vars=M.vars:=by
 unfold aem at e
 split at e<;>try (cases e; done)
 rename_i ho;cases e;have hlt:=yX ho;refine⟨⟨fun j id' q=>?_,fun j q=>?_,fun j q=>?_,dV,dV,fun _ q=>q,rj _ _ _⟩,by simp[Ŵ,hlt],rfl,rfl⟩
 ·simp only[Ŵ]
  by_cases hj:j=i
  ·subst hj; rw[ho] at q; cases q
  ·simp[hj,q]
 ·simp only[Ŵ]
  by_cases hj:j=i
  ·subst hj; rw[ho] at q; cases q
  ·simp[hj,q]
 ·simp only[Ŵ]
  by_cases hj:j=i
  ·subst hj; rw[ho] at q; cases q
  ·simp[hj,q]
def HD {M M':Mt} {i:Nat} (e:Yr M i=some M'):Ext M M'∧jh M'.bd i=some .newd∧M'.cons=M.cons∧M'.vars=M.vars:=by
 unfold Yr at e
 split at e<;>try (cases e; done)
 rename_i ho;cases e;have hlt:=yX ho;refine⟨⟨fun j id' q=>?_,fun j q=>?_,fun j q=>?_,dV,dV,fun _ q=>q,rj _ _ _⟩,by simp[Ŵ,hlt],rfl,rfl⟩
 ·simp only[Ŵ]
  by_cases hj:j=i
  ·subst hj; rw[ho] at q; cases q
  ·simp[hj,q]
 ·simp only[Ŵ]
  by_cases hj:j=i
  ·subst hj; rw[ho] at q; cases q
  ·simp[hj,q]
 ·simp only[Ŵ]
  by_cases hj:j=i
  ·subst hj; rw[ho] at q; cases q
  ·simp[hj,q]
def kin:Blk→Blk→Prop
 |.row t _ false xs,B=>B=.row t 0 false xs
 |.row t g true xs,B=>B=.row t g true xs
 |.map k v es,B=>B=.map k v es
 |.cells _,B=>∃cs',B=.cells cs'
 |.dead,B=>B=.dead
 |.deep k _ xss,B=>B=.deep k 0 xss
structure Fin (ν:Nat→Value) (h:List Blk) (w:World) (M:Mt) (h':List Blk):Prop where
 at_:∀i id,jh M.bd i=some (.at_ id)→kin (lkB h id) (lkB h' i)
 new:∀i,jh M.bd i=some .new→∃t,lkB h' i=.row t 0 false []
 newd:∀i,jh M.bd i=some .newd→∃k,lkB h' i=.deep k 0 []
 out:∀i,(∀id,jh M.bd i≠some (.at_ id))→jh M.bd i≠some .new→jh M.bd i≠some .newd→lkB h' i=.dead
 freed:∀id∈M.freed,∀i,jh M.bd i≠some (.at_ id)
 inj:∀i j id,jh M.bd i=some (.at_ id)→jh M.bd j=some (.at_ id)→i=j
def Fin.live {M:Mt} (F:Fin ν h w M h') {b:Nat} (hb:aes (νb M.bd ν) h' b):∃i id,jh M.bd i=some (.at_ id)∧(lkB h id).live=true∧θ (ν id) b:=by
 obtain⟨i,hl,hn⟩:=hb
 cases hB:jh M.bd i with
 |none=>rw[F.out i (by simp[hB]) (by simp[hB]) (by simp[hB])] at hl; cases hl
 |some bd =>
  cases bd with
  |open_=>rw[F.out i (by simp[hB]) (by simp[hB]) (by simp[hB])] at hl; cases hl
  |new=>simp only[νb,hB] at hn; cases hn
  |newd =>
   simp only[νb,hB] at hn;obtain⟨u,hu,hb⟩:=hn;simp at hu;subst hu;cases hb
  |at_ id =>
   refine⟨i,id,hB,?_,by simpa[νb,hB] using hn⟩;have hk:=F.at_ i id hB
   cases hB':lkB h id with
   |dead=>rw[hB'] at hk; rw[show lkB h' i=_ from hk] at hl; cases hl
   |cells=>rfl
   |map=>rfl
   |deep=>rfl
   |row t g fz xs =>
    cases fz with
    |false=>rfl
    |true=>rw[hB'] at hk; rw[show lkB h' i=_ from hk] at hl; cases hl
def Fin.subL {M:Mt} (F:Fin ν h w M h') (b:Nat) (hb:aes (νb M.bd ν) h' b):aes ν h b:=by
 obtain⟨i,id,_,h2,h3⟩:=F.live hb;exact⟨id,h2,h3⟩
def Fin.sub {M:Mt} (F:Fin ν h w M h') (b:Nat) (hb:Av (νb M.bd ν) h' b):Av ν h b:=hb.imp_left (F.subL b)
def afI (H:HR ν h w) {M:Mt} (F:Fin ν h w M h') {t:Ty} {v:AV} {u:Value} {x:Val t} (hf:∀i∈UV h v,i∈M.freed) (e:æ t [Ā h v]=some x) (hv:VR ν h w v u) :
 VR (νb M.bd ν) h' w (ajD ⟨t,x⟩) u:=by
 have main:∀(hag:v.isAgg=false) (htu:v.isTup=false),CR w (Av (νb M.bd ν) h') t x [u]:=by
  intro hag htu;have h1:=hv.one hag htu;refine ű e ⟨DZ H F.sub h1 fun id b hc hl hb=>?_,trivial⟩;rintro(hlive|hgh)
  rotate_left
  ·exact H.ghne id b hl hb hgh
  obtain⟨i,id',h2,h3,h4⟩:=F.live hlive;have hid:id=id':=H.inj id id' b hl h3 hb h4;subst hid;refine F.freed id (hf id ?_) i h2;rcases hc with⟨g,rfl⟩|⟨g,lo,n,rfl⟩|rfl
  ·obtain⟨_,t',g',fz,xs,hl',_⟩:=h1;rw[hl'] at hl
   cases fz with
   |true=>cases hl
   |false=>simp[UV,hl']
  ·obtain⟨_,t',g',fz,xs,hl',_⟩:=h1;rw[hl'] at hl
   cases fz with
   |true=>cases hl
   |false=>simp[UV,hl']
  ·simp[UV]
 have fin:(t≠.unit∧∀a b,t≠.pair a b)→v.isAgg=false∧v.isTup=false:=fun⟨h1,h2⟩=>by
  constructor
  ·cases v<;>try rfl
   cases t<;>first|(exact absurd rfl h1)|(exact absurd rfl (h2 _ _))|(simp[Ā,æ,Ζ] at e)
  ·cases v<;>try rfl
   cases t<;>first|(exact absurd rfl h1)|(exact absurd rfl (h2 _ _))|(simp[Ā,æ,Ζ] at e)
 cases t with
 |unit=>trivial
 |pair a b=>trivial
 |bool=>obtain⟨q1,q2⟩:=fin ⟨by simp,by simp⟩; exact Ln (main q1 q2)
 |int k=>obtain⟨q1,q2⟩:=fin ⟨by simp,by simp⟩; exact Ln (main q1 q2)
 |str=>obtain⟨q1,q2⟩:=fin ⟨by simp,by simp⟩; exact Ln (main q1 q2)
 |slice t=>obtain⟨q1,q2⟩:=fin ⟨by simp,by simp⟩; exact Ln (main q1 q2)
 |map k v=>obtain⟨q1,q2⟩:=fin ⟨by simp,by simp⟩; exact Ln (main q1 q2)
 |ptr t=>obtain⟨q1,q2⟩:=fin ⟨by simp,by simp⟩; exact Ln (main q1 q2)
def ĵ {α:Type} {l C:List α} {d:α} (h:(l++[d]) <+: C):C.drop l.length=d::C.drop (l.length+1):=by
 obtain⟨t,rfl⟩:=h;simp[di]
def oW {B:List Bd} {i id:Nat} (h:jh B i=some (.at_ id)):νb B ν i=ν id:=by simp[νb,h]
def ahR {B:List Bd} {i:Nat} (h:jh B i=some .new):νb B ν i=.slice none 0 0:=by simp[νb,h]
def aew {B:List Bd} {i:Nat} (h:jh B i=some .newd):νb B ν i=.agg [Value.slice none 0 0].toArray:=by simp[νb,h]
def jN:∀(ps:List (Nat×Nat)) (vs:List AV) (us:List Value) (M M1:Mt),xo h ps vs M=some M1→Ext M M1∧M1.cons=M.cons∧M1.vars=M.vars ∧
 ∀Mf,Ext M1 Mf→Fin ν h w Mf h'→ć (VR0 ν h w) vs us→ć (VR0 (νb Mf.bd ν) h' w) (ps.map fun c=>.box c.1 c.2) us
 |[],[],us,M,M1,e=>by
  cases e;exact⟨Ext.refl _,rfl,rfl,fun Mf _ _ hv=>by cases us with|nil=>trivial|cons=>exact hv.elim⟩
 |[],_::_,_,_,_,e=>by cases e
 |_::_,[],_,_,_,e=>by cases e
 |(i,o)::ps,v::vs,us,M,M1,e=>by
  cases v<;>try (simp[xo] at e; done)
  rename_i id off;simp only[xo] at e
  split at e<;>try (cases e; done)
  rename_i ho
  split at e<;>try (cases e; done)
  rename_i cs hl
  split at e<;>try (cases e; done)
  rename_i M2 hb;obtain⟨e1,b1,c1,v1⟩:=iJ hb;obtain⟨e2,c2,v2,_⟩:=jN ps vs us M2 M1 e;refine⟨e1.trans e2,c2.trans c1,v2.trans v1,fun Mf he F hv=>?_⟩
  cases us with
  |nil=>exact hv.elim
  |cons u us =>
   refine⟨?_,(jN ps vs us M2 M1 e).2.2.2 Mf he F hv.2⟩;obtain⟨cs',b,h1,h2,h3⟩:=hv.1;have hat:=he.bd i id (e2.bd i id b1);have hk:=F.at_ i id hat;rw[hl] at hk;obtain⟨cs2,hk⟩:=hk;exact⟨cs2,b,hk,(oW hat).trans h2,by rw[eq_of_beq ho]; exact h3⟩
def N7 (H:HR ν h w) {p:Pat} {v:AV} {M M1:Mt} (e:iX h p v M=some M1):Ext M M1∧∀Mf u,Ext M1 Mf→Fin ν h w Mf h'→VR ν h w v u →
 VR (νb Mf.bd ν) h' w (rW p ⟨Mf.cons.drop M.cons.length,Mf.vars.drop M.vars.length⟩).1 u ∧
  (rW p ⟨Mf.cons.drop M.cons.length,Mf.vars.drop M.vars.length⟩).2=⟨Mf.cons.drop M1.cons.length,Mf.vars.drop M1.vars.length⟩:=by
 cases p with
 |any=>cases e; exact⟨Ext.refl _,fun Mf u _ _ _=>⟨trivial,rfl⟩⟩
 |con t =>
  simp only[iX] at e
  split at e<;>try (cases e; done)
  rename_i x hx;cases e;refine⟨⟨fun _ _ q=>q,fun _ q=>q,fun _ q=>q,ej _ _,dV,fun _ q=>dM _ q,rfl⟩,fun Mf u he F hv=>?_⟩;have hd:=ĵ he.cons;simp only[rW,hd];exact⟨afI H F (fun i hi=>he.freed i (dY _ hi)) hx hv,by simp⟩
 |var t =>
  simp only[iX] at e
  split at e<;>try (cases e; done)
  rename_i x hx;cases e;refine⟨⟨fun _ _ q=>q,fun _ q=>q,fun _ q=>q,dV,ej _ _,fun _ q=>dM _ q,rfl⟩,fun Mf u he F hv=>?_⟩;have hd:=ĵ he.vars;simp only[rW,hd];exact⟨afI H F (fun i hi=>he.freed i (dY _ hi)) hx hv,by simp⟩
 |own i =>
  simp only[iX] at e
  split at e<;>try (cases e; done)
  ·rename_i id g
   split at e<;>try (cases e; done)
   rename_i t g' xs hl
   split at e<;>try (cases e; done)
   rename_i hg;obtain⟨e1,b1,c1,v1⟩:=iJ e;refine⟨e1,fun Mf u he F hv=>⟨?_,by simp only[rW,c1,v1]⟩⟩;have hat:=he.bd i id b1;have hk:=F.at_ i id hat;rw[hl] at hk;obtain⟨ho,t2,g2,fz2,xs2,hl2,_,hq⟩:=hv;rw[hl] at hl2; cases hl2;exact⟨ho,t,0,false,xs,hk,cJ _,fun _=>(hq (eq_of_beq hg)).trans (oW hat).symm⟩
  ·obtain⟨e1,b1,c1,v1⟩:=Lt e;refine⟨e1,fun Mf u he F hv=>⟨?_,by simp only[rW,c1,v1]⟩⟩;have hnw:=he.new i b1;obtain⟨t,hk⟩:=F.new i hnw;have hu:u=.slice none 0 0:=hv;exact⟨by rw[hu]; rfl,t,0,false,[],hk,cJ _,fun _=>hu.trans (ahR hnw).symm⟩
 |dp i =>
  simp only[iX] at e
  split at e<;>try (cases e; done)
  ·rename_i id g
   split at e<;>try (cases e; done)
   rename_i k g' xss hl
   split at e<;>try (cases e; done)
   rename_i hg;obtain⟨e1,b1,c1,v1⟩:=iJ e;refine⟨e1,fun Mf u he F hv=>⟨?_,by simp only[rW,c1,v1]⟩⟩;have hat:=he.bd i id b1;have hk:=F.at_ i id hat;rw[hl] at hk;obtain⟨ho,k2,g2,xss2,hl2,_,hq⟩:=hv;rw[hl] at hl2; cases hl2;exact⟨ho,k,0,xss,hk,cJ _,fun _=>by rw[oW hat]; exact hq (eq_of_beq hg)⟩
  ·obtain⟨e1,b1,c1,v1⟩:=HD e;refine⟨e1,fun Mf u he F hv=>⟨?_,by simp only[rW,c1,v1]⟩⟩;have hnw:=he.newd i b1;obtain⟨k,hk⟩:=F.newd i hnw;have hu:u=.slice none 0 0:=hv;exact⟨by rw[hu]; rfl,k,0,[],hk,cJ _,fun _=>⟨[],by rw[aew hnw,hu]⟩⟩
 |omp i =>
  simp only[iX] at e
  split at e<;>try (cases e; done)
  rename_i id
  split at e<;>try (cases e; done)
  rename_i k v' es hl;obtain⟨e1,b1,c1,v1⟩:=iJ e;refine⟨e1,fun Mf u he F hv=>⟨?_,by simp only[rW,c1,v1]⟩⟩;have hat:=he.bd i id b1;have hk:=F.at_ i id hat;rw[hl] at hk;obtain⟨ho,k2,v2,es2,hl2,hq⟩:=hv;exact⟨ho,k,v',es,hk,hq.trans (oW hat).symm⟩
 |box i off =>
  simp only[iX] at e
  split at e<;>try (cases e; done)
  rename_i id off'
  split at e<;>try (cases e; done)
  rename_i hoff
  split at e<;>try (cases e; done)
  rename_i cs hl;obtain⟨e1,b1,c1,v1⟩:=iJ e;refine⟨e1,fun Mf u he F hv=>⟨?_,by simp only[rW,c1,v1]⟩⟩;have hat:=he.bd i id b1;have hk:=F.at_ i id hat;rw[hl] at hk;obtain⟨cs2,hk⟩:=hk;obtain⟨cs',b,h1,h2,h3⟩:=hv;exact⟨cs2,b,hk,(oW hat).trans h2,by rw[eq_of_beq hoff]; exact h3⟩
 |nils =>
  simp only[iX] at e
  split at e<;>try (cases e; done)
  cases e;exact⟨Ext.refl _,fun Mf u _ _ hv=>⟨hv,rfl⟩⟩
 |nilp =>
  simp only[iX] at e
  split at e<;>try (cases e; done)
  cases e;exact⟨Ext.refl _,fun Mf u _ _ hv=>⟨hv,rfl⟩⟩
 |nilfn =>
  simp only[iX] at e
  split at e<;>try (cases e; done)
  cases e;exact⟨Ext.refl _,fun Mf u _ _ hv=>⟨hv,rfl⟩⟩
 |fn f caps =>
  simp only[iX] at e
  split at e<;>try (cases e; done)
  rename_i f' vs
  split at e<;>try (cases e; done)
  rename_i hf;obtain⟨e1,c1,v1,_⟩:=jN (ν:=ν) (w:=w) (h':=h') caps vs [] M M1 e;refine⟨e1,fun Mf u he F hv=>⟨?_,by simp only[rW,c1,v1]⟩⟩;obtain⟨fs,cs,rfl,q1,q2⟩:=hv;have:=(jN (ν:=ν) (w:=w) (h':=h') caps vs cs.toList M M1 e).2.2.2 Mf he F q2;exact⟨fs,cs,by rw[eq_of_beq hf],by rw[q1.nil_left]; trivial,this⟩
def rest (Mf M:Mt):It:=⟨Mf.cons.drop M.cons.length,Mf.vars.drop M.vars.length⟩
def Cz {Mf M M1:Mt} (h1:M1.cons=M.cons) (h2:M1.vars=M.vars):rest Mf M=rest Mf M1:=by simp only[rest,h1,h2]
def ug {p:Pat} {v:AV} {M M1:Mt} (e:iX h p v M=some M1):Ext M M1∧∀Mf,Ext M1 Mf→(rW p (rest Mf M)).2=rest Mf M1:=by
 cases p with
 |any=>cases e; exact⟨Ext.refl _,fun Mf _=>rfl⟩
 |con t =>
  simp only[iX] at e
  split at e<;>try (cases e; done)
  rename_i x hx;cases e;refine⟨⟨fun _ _ q=>q,fun _ q=>q,fun _ q=>q,ej _ _,dV,fun _ q=>dM _ q,rfl⟩,fun Mf he=>?_⟩;have hd:=ĵ he.cons;simp only[rest,rW,hd]; simp
 |var t =>
  simp only[iX] at e
  split at e<;>try (cases e; done)
  rename_i x hx;cases e;refine⟨⟨fun _ _ q=>q,fun _ q=>q,fun _ q=>q,dV,ej _ _,fun _ q=>dM _ q,rfl⟩,fun Mf he=>?_⟩;have hd:=ĵ he.vars;simp only[rest,rW,hd]; simp
 |own i =>
  simp only[iX] at e
  split at e<;>try (cases e; done)
  ·split at e<;>try (cases e; done)
   split at e<;>try (cases e; done)
   obtain⟨e1,b1,c1,v1⟩:=iJ e;exact⟨e1,fun Mf he=>Cz c1 v1⟩
  ·obtain⟨e1,b1,c1,v1⟩:=Lt e;exact⟨e1,fun Mf he=>Cz c1 v1⟩
 |dp i =>
  simp only[iX] at e
  split at e<;>try (cases e; done)
  ·split at e<;>try (cases e; done)
   split at e<;>try (cases e; done)
   obtain⟨e1,b1,c1,v1⟩:=iJ e;exact⟨e1,fun Mf he=>Cz c1 v1⟩
  ·obtain⟨e1,b1,c1,v1⟩:=HD e;exact⟨e1,fun Mf he=>Cz c1 v1⟩
 |omp i =>
  simp only[iX] at e
  split at e<;>try (cases e; done)
  split at e<;>try (cases e; done)
  obtain⟨e1,b1,c1,v1⟩:=iJ e;exact⟨e1,fun Mf he=>Cz c1 v1⟩
 |box i off =>
  simp only[iX] at e
  split at e<;>try (cases e; done)
  split at e<;>try (cases e; done)
  split at e<;>try (cases e; done)
  obtain⟨e1,b1,c1,v1⟩:=iJ e;exact⟨e1,fun Mf he=>Cz c1 v1⟩
 |nils =>
  simp only[iX] at e
  split at e<;>try (cases e; done)
  cases e; exact⟨Ext.refl _,fun Mf _=>rfl⟩
 |nilp =>
  simp only[iX] at e
  split at e<;>try (cases e; done)
  cases e; exact⟨Ext.refl _,fun Mf _=>rfl⟩
 |nilfn =>
  simp only[iX] at e
  split at e<;>try (cases e; done)
  cases e; exact⟨Ext.refl _,fun Mf _=>rfl⟩
 |fn f caps =>
  simp only[iX] at e
  split at e<;>try (cases e; done)
  rename_i f' vs
  split at e<;>try (cases e; done)
  obtain⟨e1,c1,v1,_⟩:=jN (ν:=fun _=>undef) (w:=default) (h':=[]) caps vs [] M M1 e;exact⟨e1,fun Mf he=>Cz c1 v1⟩
def tr (p:Pat) (ps:List Pat) (I:It):Jy (p::ps) I=((rW p I).1::(Jy ps (rW p I).2).1,(Jy ps (rW p I).2).2):=rfl
def CJ:∀{ps:List Pat} {vs:List AV} {M M1:Mt},Ug h ps vs M=some M1→Ext M M1∧∀Mf,Ext M1 Mf→(Jy ps (rest Mf M)).2=rest Mf M1
 |[],vs,M,M1,e=>by cases e; exact⟨Ext.refl _,fun Mf _=>rfl⟩
 |p::ps,vs,M,M1,e=>by
  simp only[Ug] at e
  split at e<;>try (cases e; done)
  rename_i M2 h1;obtain⟨e1,t1⟩:=ug h1;obtain⟨e2,t2⟩:=CJ e;exact⟨e1.trans e2,fun Mf he=>by rw[tr,t1 Mf (e2.trans he)]; exact t2 Mf he⟩
def ZR (H:HR ν h w):∀{ps:List Pat} {vs:List AV} {M M1:Mt},Ug h ps vs M=some M1→∀Mf,Ext M1 Mf→Fin ν h w Mf h'→∀f:Nat→Value,(∀k,VR ν h w (lk vs k) (f k)) →
 ∀k,VR (νb Mf.bd ν) h' w (lk (Jy ps (rest Mf M)).1 k) (f k)
 |[],vs,M,M1,e,Mf,_,_,f,_,k=>trivial
 |p::ps,vs,M,M1,e,Mf,he,F,f,hf,k=>by
  simp only[Ug] at e
  split at e<;>try (cases e; done)
  rename_i M2 h1;obtain⟨e1,t1⟩:=ug h1;obtain⟨e2,t2⟩:=CJ e;rw[tr,t1 Mf (e2.trans he)]
  cases k with
  |zero=>exact((N7 H h1).2 Mf (f 0) (e2.trans he) F (hf 0)).1
  |succ k =>
   have ht:∀k,lk vs.tail k=lk vs (k+1):=fun k=>by cases vs<;>rfl
   exact ZR H e Mf he F (fun k=>f (k+1)) (fun k=>by rw[ht]; exact hf (k+1)) k
def pd:∀{ps:List Pat} {vs:List AV} {M M1:Mt},oO h ps vs M=some M1→Ext M M1∧∀Mf,Ext M1 Mf→(Jy ps (rest Mf M)).2=rest Mf M1
 |[],[],M,M1,e=>by cases e; exact⟨Ext.refl _,fun Mf _=>rfl⟩
 |[],_::_,M,M1,e=>by cases e
 |_::_,[],M,M1,e=>by cases e
 |p::ps,v::vs,M,M1,e=>by
  simp only[oO] at e
  split at e<;>try (cases e; done)
  rename_i M2 h1;obtain⟨e1,t1⟩:=ug h1;obtain⟨e2,t2⟩:=pd e;exact⟨e1.trans e2,fun Mf he=>by rw[tr,t1 Mf (e2.trans he)]; exact t2 Mf he⟩
def agT (p:Pat) (I:It):(rW p I).1.isAgg=false∧(rW p I).1.isTup=false:=by
 have henc:∀d:DV,(ajD d).isAgg=false∧(ajD d).isTup=false:=fun d=>by
  obtain⟨t,x⟩:=d
  cases t<;>exact⟨rfl,rfl⟩
 cases p<;>simp only[rW]<;>try exact⟨rfl,rfl⟩
 ·split<;>first|exact henc _|exact⟨rfl,rfl⟩
 ·split<;>first|exact henc _|exact⟨rfl,rfl⟩
def Ex (H:HR ν h w):∀{ps:List Pat} {vs:List AV} {us:List Value} {M M1:Mt},oO h ps vs M=some M1→∀Mf,Ext M1 Mf→Fin ν h w Mf h'→ć (VRc ν h w) vs us →
 ć (VRc (νb Mf.bd ν) h' w) (Jy ps (rest Mf M)).1 us
 |[],[],us,M,M1,e,Mf,_,_,hv=>by cases us with|nil=>trivial|cons=>exact hv.elim
 |[],_::_,_,M,M1,e,_,_,_,_=>by cases e
 |_::_,[],_,M,M1,e,_,_,_,_=>by cases e
 |p::ps,v::vs,us,M,M1,e,Mf,he,F,hv=>by
  simp only[oO] at e
  split at e<;>try (cases e; done)
  rename_i M2 h1;obtain⟨e1,t1⟩:=ug h1;obtain⟨e2,t2⟩:=pd e;rw[tr,t1 Mf (e2.trans he)]
  cases us with
  |nil=>exact hv.elim
  |cons u us =>
   have h2:=((N7 H h1).2 Mf u (e2.trans he) F hv.1.1.up).1;have hfl:=agT p (rest Mf M);exact⟨⟨h2.one hfl.1 hfl.2,hv.1.2⟩,Ex H e Mf he F hv.2⟩
def Ap (M:Mt) (d:DV):Ext M {M with cons:=M.cons++[d]}:=⟨fun _ _ q=>q,fun _ q=>q,fun _ q=>q,ej _ _,dV,fun _ q=>q,rfl⟩
def Hp (M:Mt) (d:DV):Ext M {M with vars:=M.vars++[d]}:=⟨fun _ _ q=>q,fun _ q=>q,fun _ q=>q,dV,ej _ _,fun _ q=>q,rfl⟩
def N6 {p:i8} {i:Nat} {M M1:Mt} (e:jO h p i M=some M1):Ext M M1∧∀Mf,Ext M1 Mf→(tv p (rest Mf M)).2=rest Mf M1 ∧
 ((∃id,jh M.bd i=some (.at_ id)∧kin (lkB h id) (tv p (rest Mf M)).1)∨(jh M.bd i=some .new∧∃t,(tv p (rest Mf M)).1=.row t 0 false [])∨(jh M.bd i=some .newd∧∃k,(tv p (rest Mf M)).1=.deep k 0 [])):=by
 cases p with
 |dead =>
  simp only[jO] at e
  split at e<;>try (cases e; done)
  rename_i id hb
  split at e<;>try (cases e; done)
  rename_i hl;cases e;exact⟨Ext.refl _,fun Mf _=>⟨rfl,.inl ⟨id,hb,by rw[hl]; rfl⟩⟩⟩
 |cells ps =>
  simp only[jO] at e
  split at e<;>try (cases e; done)
  rename_i id hb
  split at e<;>try (cases e; done)
  rename_i cs hl;obtain⟨e1,t1⟩:=pd e;exact⟨e1,fun Mf he=>⟨t1 Mf he,.inl ⟨id,hb,by rw[hl]; exact⟨_,rfl⟩⟩⟩⟩
 |rowc t =>
  simp only[jO] at e
  split at e<;>try (cases e; done)
  ·rename_i id hb
   split at e<;>try (cases e; done)
   rename_i t' g xs hl
   split at e<;>try (cases e; done)
   cases e;refine⟨Ap _ _,fun Mf he=>?_⟩;have hd:=ĵ he.cons;simp only[rest,tv,hd];exact⟨by simp,.inl ⟨id,hb,by rw[hl]; rfl⟩⟩
  ·rename_i hb;cases e;refine⟨Ap _ _,fun Mf he=>?_⟩;have hd:=ĵ he.cons;simp only[rest,tv,hd];exact⟨by simp,.inr (.inl ⟨hb,t,rfl⟩)⟩
 |rowf t g =>
  simp only[jO] at e
  split at e<;>try (cases e; done)
  rename_i id hb
  split at e<;>try (cases e; done)
  rename_i t' g' xs hl
  split at e<;>try (cases e; done)
  split at e<;>try (cases e; done)
  rename_i hg _;subst hg;cases e;refine⟨Ap _ _,fun Mf he=>?_⟩;have hd:=ĵ he.cons;simp only[rest,tv,hd];exact⟨by simp,.inl ⟨id,hb,by rw[hl]; rfl⟩⟩
 |rowv t =>
  simp only[jO] at e
  split at e<;>try (cases e; done)
  ·rename_i id hb
   split at e<;>try (cases e; done)
   rename_i t' g xs hl
   split at e<;>try (cases e; done)
   cases e;refine⟨Hp _ _,fun Mf he=>?_⟩;have hd:=ĵ he.vars;simp only[rest,tv,hd];exact⟨by simp,.inl ⟨id,hb,by rw[hl]; rfl⟩⟩
  ·rename_i hb;cases e;refine⟨Hp _ _,fun Mf he=>?_⟩;have hd:=ĵ he.vars;simp only[rest,tv,hd];exact⟨by simp,.inr (.inl ⟨hb,t,rfl⟩)⟩
 |mapc k v =>
  simp only[jO] at e
  split at e<;>try (cases e; done)
  rename_i id hb
  split at e<;>try (cases e; done)
  rename_i k' v' es hl
  split at e<;>try (cases e; done)
  cases e;refine⟨Ap _ _,fun Mf he=>?_⟩;have hd:=ĵ he.cons;simp only[rest,tv,hd];exact⟨by simp,.inl ⟨id,hb,by rw[hl]; rfl⟩⟩
 |mapv k v =>
  simp only[jO] at e
  split at e<;>try (cases e; done)
  rename_i id hb
  split at e<;>try (cases e; done)
  rename_i k' v' es hl
  split at e<;>try (cases e; done)
  cases e;refine⟨Hp _ _,fun Mf he=>?_⟩;have hd:=ĵ he.vars;simp only[rest,tv,hd];exact⟨by simp,.inl ⟨id,hb,by rw[hl]; rfl⟩⟩
 |deepc k =>
  simp only[jO] at e
  split at e<;>try (cases e; done)
  ·rename_i id hb
   split at e<;>try (cases e; done)
   rename_i k' g xss hl
   split at e<;>try (cases e; done)
   cases e;refine⟨Ap _ _,fun Mf he=>?_⟩;have hd:=ĵ he.cons;simp only[rest,tv,hd];exact⟨by simp,.inl ⟨id,hb,by rw[hl]; rfl⟩⟩
  ·rename_i hb;cases e;refine⟨Ap _ _,fun Mf he=>?_⟩;have hd:=ĵ he.cons;simp only[rest,tv,hd];exact⟨by simp,.inr (.inr ⟨hb,k,rfl⟩)⟩
 |deepv k =>
  simp only[jO] at e
  split at e<;>try (cases e; done)
  ·rename_i id hb
   split at e<;>try (cases e; done)
   rename_i k' g xss hl
   split at e<;>try (cases e; done)
   cases e;refine⟨Hp _ _,fun Mf he=>?_⟩;have hd:=ĵ he.vars;simp only[rest,tv,hd];exact⟨by simp,.inl ⟨id,hb,by rw[hl]; rfl⟩⟩
  ·rename_i hb;cases e;refine⟨Hp _ _,fun Mf he=>?_⟩;have hd:=ĵ he.vars;simp only[rest,tv,hd];exact⟨by simp,.inr (.inr ⟨hb,k,rfl⟩)⟩
def aiN (H:HR ν h w) {p:i8} {i id:Nat} {M M1:Mt} {cs:List AV} (e:jO h p i M=some M1) (hb:jh M.bd i=some (.at_ id)) (hl:lkB h id=.cells cs) {Mf:Mt} (he:Ext M1 Mf) (F:Fin ν h w Mf h') {us:List Value} (hv:ć (VRc ν h w) cs us) :
 ∃cs',(tv p (rest Mf M)).1=.cells cs'∧ć (VRc (νb Mf.bd ν) h' w) cs' us:=by
 cases p with
 |cells ps =>
  simp only[jO,hb,hl] at e;exact⟨_,rfl,Ex H e Mf he F hv⟩
 |dead=>simp[jO,hb,hl] at e
 |rowc t=>simp[jO,hb,hl] at e
 |rowf t g=>simp[jO,hb,hl] at e
 |rowv t=>simp[jO,hb,hl] at e
 |mapc k v=>simp[jO,hb,hl] at e
 |mapv k v=>simp[jO,hb,hl] at e
 |deepc k=>simp[jO,hb,hl] at e
 |deepv k=>simp[jO,hb,hl] at e
def Jz (p:i8) (ps:List i8) (I:It):DF (p::ps) I=((tv p I).1::(DF ps (tv p I).2).1,(DF ps (tv p I).2).2):=rfl
def Li:∀(ps:List i8) (I:It),(DF ps I).1.length=ps.length
 |[],_=>rfl
 |p::ps,I=>by rw[Jz]; simp[Li ps]
def CL:∀{ps:List i8} {i:Nat} {M M1:Mt},Uh h ps i M=some M1→Ext M M1∧∀Mf,Ext M1 Mf→∀k,k<ps.length →
 (∃id,jh Mf.bd (i+k)=some (.at_ id)∧kin (lkB h id) (lkB (DF ps (rest Mf M)).1 k))∨(jh Mf.bd (i+k)=some .new∧∃t,lkB (DF ps (rest Mf M)).1 k=.row t 0 false [])∨(jh Mf.bd (i+k)=some .newd∧∃q,lkB (DF ps (rest Mf M)).1 k=.deep q 0 [])
 |[],i,M,M1,e=>by cases e; exact⟨Ext.refl _,fun Mf _ k hk=>by simp at hk⟩
 |p::ps,i,M,M1,e=>by
  simp only[Uh] at e
  split at e<;>try (cases e; done)
  rename_i M2 h1;obtain⟨e1,t1⟩:=N6 h1;obtain⟨e2,t2⟩:=CL e;refine⟨e1.trans e2,fun Mf he k hk=>?_⟩;obtain⟨t3,t4⟩:=t1 Mf (e2.trans he);rw[Jz,t3]
  cases k with
  |zero =>
   rcases t4 with⟨id,q1,q2⟩|⟨q1,q2⟩|⟨q1,q2⟩
   ·exact .inl ⟨id,(e1.trans (e2.trans he)).bd _ _ q1,q2⟩
   ·exact .inr (.inl ⟨(e1.trans (e2.trans he)).new _ q1,q2⟩)
   ·exact .inr (.inr ⟨(e1.trans (e2.trans he)).newd _ q1,q2⟩)
  |succ k =>
   have:=t2 Mf he k (by simpa using hk);rw[show i+(k+1)=i+1+k by omega];exact this
def ZS (H:HR ν h w):∀{ps:List i8} {i:Nat} {M M1:Mt},Uh h ps i M=some M1→∀Mf,Ext M1 Mf→Fin ν h w Mf h'→∀k id cs us,k<ps.length→jh Mf.bd (i+k)=some (.at_ id)→lkB h id=.cells cs→ć (VRc ν h w) cs us →
 ∃cs',lkB (DF ps (rest Mf M)).1 k=.cells cs'∧ć (VRc (νb Mf.bd ν) h' w) cs' us
 |[],i,M,M1,e,Mf,_,_,k,_,_,_,hk,_,_,_=>by simp at hk
 |p::ps,i,M,M1,e,Mf,he,F,k,id,cs,us,hk,hb,hl,hv=>by
  simp only[Uh] at e
  split at e<;>try (cases e; done)
  rename_i M2 h1;obtain⟨e1,t1⟩:=N6 h1;obtain⟨e2,t2⟩:=CL e;obtain⟨t3,t4⟩:=t1 Mf (e2.trans he);rw[Jz,t3]
  cases k with
  |zero =>
   rcases t4 with⟨id',q1,q2⟩|⟨q1,q2⟩|⟨q1,q2⟩
   ·have:=(e1.trans (e2.trans he)).bd _ _ q1;have hb':jh Mf.bd i=some (.at_ id):=hb;rw[this] at hb';cases hb';exact aiN H h1 q1 hl (e2.trans he) F hv
   ·have:=(e1.trans (e2.trans he)).new _ q1;have hb':jh Mf.bd i=some (.at_ id):=hb;rw[this] at hb';cases hb'
   ·have:=(e1.trans (e2.trans he)).newd _ q1;have hb':jh Mf.bd i=some (.at_ id):=hb;rw[this] at hb';cases hb'
  |succ k=>exact ZS H e Mf he F k id cs us (by simpa using hk) (by rw[show i+1+k=i+(k+1) by omega]; exact hb) hl hv
def G1:∀{l:List Bd} {i id:Nat},jh l i=some (.at_ id)→id∈MC l
 |[],_,_,h=>by cases h
 |x::l,0,id,h=>by
  simp only[jh,Option.some.injEq] at h;subst h; simp[MC]
 |x::l,i+1,id,h=>by
  have:=G1 (l:=l) (i:=i) (id:=id) h
  cases x<;>simp[MC,this]
def Lp:∀{l:List Bd} {i j id:Nat},vS (MC l)=true→jh l i=some (.at_ id)→jh l j=some (.at_ id)→i=j
 |[],_,_,_,_,h,_=>by cases h
 |x::l,0,0,_,_,_,_=>rfl
 |x::l,0,j+1,id,hd,h1,h2=>by
  simp only[jh,Option.some.injEq] at h1;subst h1;simp only[MC,vS,cM] at hd;have:=G1 (l:=l) (i:=j) (id:=id) h2;simp[this] at hd
 |x::l,i+1,0,id,hd,h1,h2=>by
  simp only[jh,Option.some.injEq] at h2;subst h2;simp only[MC,vS,cM] at hd;have:=G1 (l:=l) (i:=i) (id:=id) h1;simp[this] at hd
 |x::l,i+1,j+1,id,hd,h1,h2=>by
  have hd':vS (MC l)=true:=by
   cases x<;>simp only[MC,vS,cM] at hd<;>first|exact hd|exact hd.2
  rw[Lp (l:=l) hd' h1 h2]
def agj {pin n i:Nat} (hi:i<pin) (hn:pin≤n):jh (Cr pin n) i=some (.at_ i):=by
 have key:∀(l:List Bd) (k:Nat),jh l k=l[k]?:=by
  intro l
  induction l with
  |nil=>intro k; simp[jh]
  |cons x l ih=>intro k; cases k with
   |zero=>rfl
   |succ k=>simpa[jh] using ih k
 rw[key,Cr,fK,fc (by omega)];simp[hi]
def JC:∀{pin:Nat},ajn h pin=true→∀i,i<pin→(∀t g xs,lkB h i=.row t g false xs→g=0)∧∀k g xss,lkB h i=.deep k g xss→g=0
 |0,_,i,hi=>by omega
 |pin+1,hg,i,hi=>by
  have hrec:ajn h pin=true∧(∀t g xs,lkB h pin=.row t (g+1) false xs→False)∧∀k g xss,lkB h pin=.deep k (g+1) xss→False:=by
   simp only[ajn] at hg
   split at hg<;>try (cases hg; done)
   rename_i hne1 hne2;exact⟨hg,fun t g xs e=>hne1 _ _ _ e,fun k g xss e=>hne2 _ _ _ e⟩
  rcases Nat.lt_succ_iff_lt_or_eq.1 hi with h1|rfl
  ·exact JC hrec.1 i h1
  ·refine⟨fun t g xs hl=>?_,fun k g xss hl=>?_⟩
   ·cases g with
    |zero=>rfl
    |succ g=>exact(hrec.2.1 _ _ _ hl).elim
   ·cases g with
    |zero=>rfl
    |succ g=>exact(hrec.2.2 _ _ _ hl).elim
def Qs:∀(l:List AV) (n k:Nat),lk (l++List.replicate n .any) k=lk l k
 |[],0,_=>rfl
 |[],n+1,0=>rfl
 |[],n+1,k+1=>by simpa[List.replicate_succ,lk] using Qs [] n k
 |x::l,n,0=>rfl
 |x::l,n,k+1=>by simpa[lk] using Qs l n k
def Lh:∀(ps:List Pat) (I:It),(Jy ps I).1.length=ps.length
 |[],_=>rfl
 |p::ps,I=>by rw[tr]; simp[Lh ps]
def Eu:akI:=by
 intro T pin cs vs S p v ν a w e H;unfold Ew at e
 split at e<;>try (cases e; done)
 rename_i hc;simp only[cM,decide_eq_true_eq] at hc;obtain⟨c1,c2,c3,c4⟩:=hc
 split at e<;>try (cases e; done)
 rename_i M0 hL
 split at e<;>try (cases e; done)
 rename_i M hH
 split at e<;>try (cases e; done)
 rename_i hd;simp only[cM,dz] at hd;obtain⟨d1,d2⟩:=hd
 split at e<;>try (cases e; done)
 rename_i p' v' hp hv;cases e;have ep:acU cs p=M.cons:=aeL cs _ _ hp;have ev:acU vs v=M.vars:=aeL vs _ _ hv;obtain⟨eL,tL⟩:=CJ hL;obtain⟨eH,tH⟩:=CL hH
 -- the state of the pattern
 have hI0:({cons:=acU cs p,vars:=acU vs v}:It)=rest M {bd:=Cr pin T.heap.length,cons:=[],vars:=[],freed:=[]}:=by
  simp[rest,ep,ev]
 have hinst:i7 T cs vs p v={t:=(Jy T.slots (rest M {bd:=Cr pin T.heap.length,cons:=[],vars:=[],freed:=[]})).1++List.replicate (T.n-T.slots.length) .any,h:=(DF T.heap (rest M M0)).1}:=by
  unfold i7;rw[hI0];have:=tL M eH;show(St.mk _ _)=_;rw[show(Jy T.slots (rest M {bd:=Cr pin T.heap.length,cons:=[],vars:=[],freed:=[]})).2=rest M M0 from this]
 rw[hinst]
 have hblen:M.bd.length=T.heap.length:=by rw[eH.len,eL.len]; simp[Cr]
 have hhlen:(DF T.heap (rest M M0)).1.length=T.heap.length:=Li _ _
 have F:Fin ν S.h w M (DF T.heap (rest M M0)).1:=by
  refine⟨fun i id hb=>?_,fun i hb=>?_,fun i hb=>?_,fun i h1 h2 h3=>?_,fun id hid i hb=>?_,fun i j id=>Lp d1⟩
  ·have hi:i<T.heap.length:=by rw[←hblen]; exact yX hb
   rcases tH M (Ext.refl _) i hi with⟨id',q1,q2⟩|⟨q1,_⟩|⟨q1,_⟩
   ·rw[dj,hb] at q1; cases q1; exact q2
   ·rw[dj,hb] at q1; cases q1
   ·rw[dj,hb] at q1; cases q1
  ·have hi:i<T.heap.length:=by rw[←hblen]; exact yX hb
   rcases tH M (Ext.refl _) i hi with⟨id',q1,q2⟩|⟨q1,q2⟩|⟨q1,q2⟩
   ·rw[dj,hb] at q1; cases q1
   ·exact q2
   ·rw[dj,hb] at q1; cases q1
  ·have hi:i<T.heap.length:=by rw[←hblen]; exact yX hb
   rcases tH M (Ext.refl _) i hi with⟨id',q1,q2⟩|⟨q1,q2⟩|⟨q1,q2⟩
   ·rw[dj,hb] at q1; cases q1
   ·rw[dj,hb] at q1; cases q1
   ·exact q2
  ·rcases dv i T.heap.length with hi|hi
   ·rcases tH M (Ext.refl _) i hi with⟨id',q1,q2⟩|⟨q1,q2⟩|⟨q1,q2⟩
    ·rw[dj] at q1; exact absurd q1 (h1 id')
    ·rw[dj] at q1; exact absurd q1 h2
    ·rw[dj] at q1; exact absurd q1 h3
   ·exact UF _ _ (by rw[hhlen]; exact hi)
  ·have:=d2 id hid;have hm:=G1 hb;simp[hm] at this
 have hHR:HR (νb M.bd ν) (DF T.heap (rest M M0)).1 w:=by
  refine⟨fun i=>?_,fun i j b hi hj hbi hbj=>?_,H.heap.ghlt,fun i b hl hb hg=>?_⟩
  rotate_left 2
  ·obtain⟨id,q1,q2⟩:=F.subL b ⟨i,hl,hb⟩;exact H.heap.ghne id b q1 q2 hg
  ·cases hb:jh M.bd i with
   |none=>rw[F.out i (by simp[hb]) (by simp[hb]) (by simp[hb])]; trivial
   |some x =>
    cases x with
    |open_=>rw[F.out i (by simp[hb]) (by simp[hb]) (by simp[hb])]; trivial
    |newd =>
     obtain⟨k,hk⟩:=F.newd i hb;rw[hk];exact⟨none,0,[],aew hb,cJ _,gC _ _,.inl ⟨rfl,rfl⟩,trivial⟩
    |new =>
     obtain⟨t,ht⟩:=F.new i hb;rw[ht];exact⟨none,0,ahR hb,cJ _,.inl ⟨rfl,rfl⟩⟩
    |at_ id =>
     have hk:=F.at_ i id hb;have hB:=H.heap.blk id
     cases hl:lkB S.h id with
     |dead=>rw[hl] at hk; rw[show lkB _ i=_ from hk]; trivial
     |cells c =>
      rw[hl] at hB;obtain⟨b,arr,e',q1,q2,q3⟩:=hB
      have hi:i<T.heap.length:=by rw[←hblen]; exact yX hb
      obtain⟨cs',q4,q5⟩:=ZS H.heap hH M (Ext.refl _) F i id c arr.toList hi (by rw[dj]; exact hb) hl q3;rw[q4];exact⟨b,arr,e',(oW hb).trans q1,q2,q5⟩
     |row t g fz xs =>
      rw[hl] at hk hB
      cases fz with
      |true =>
       rw[show lkB _ i=_ from hk];show CR w _ (.slice t) xs [_];rw[oW hb];exact CR.mono F.sub hB
      |false =>
       rw[show lkB _ i=_ from hk];obtain⟨base,cap,q1,q2,q3⟩:=hB;refine⟨base,cap,(oW hb).trans q1,q2,?_⟩;rcases q3 with q3|⟨b,off,c,e',q4,q5,q6,q7⟩
       ·exact .inl q3
       ·refine .inr ⟨b,off,c,e',q4,q5,q6,fun j x hx=>?_⟩;obtain⟨us,q8,q9⟩:=q7 j x hx;exact⟨us,CR.mono F.sub q8,q9⟩
     |map k u es =>
      rw[hl] at hk hB;rw[show lkB _ i=_ from hk];obtain⟨b,entries,clock,q1,q2,q3,q4⟩:=hB;refine⟨b,entries,clock,(oW hb).trans q1,q2,q3,fun j x hx=>?_⟩;obtain⟨m,us,q5,q6,q7,q8⟩:=q4 j x hx;exact⟨m,us,q5,CR.mono F.sub q6,CR.mono F.sub q7,q8⟩
     |deep k g xss =>
      rw[hl] at hk hB;rw[show lkB _ i=_ from hk];obtain⟨base,cap,us,q1,q2⟩:=hB;exact⟨base,cap,us,(oW hb).trans q1,q2⟩
  ·have at1:∀i,(lkB (DF T.heap (rest M M0)).1 i).live=true→θ (νb M.bd ν i) b→∃id,jh M.bd i=some (.at_ id)∧(lkB S.h id).live=true∧θ (ν id) b:=fun i hi hbi=>by
    cases hb:jh M.bd i with
    |none=>rw[F.out i (by simp[hb]) (by simp[hb]) (by simp[hb])] at hi; cases hi
    |some x =>
     cases x with
     |open_=>rw[F.out i (by simp[hb]) (by simp[hb]) (by simp[hb])] at hi; cases hi
     |new=>simp only[νb,hb] at hbi; cases hbi
     |newd =>
      simp only[νb,hb] at hbi;obtain⟨u,hu,hbi⟩:=hbi;simp at hu;subst hu;cases hbi
     |at_ id =>
      refine⟨id,rfl,?_,by simpa[νb,hb] using hbi⟩;have hk:=F.at_ i id hb
      cases hB':lkB S.h id with
      |dead=>rw[hB'] at hk; rw[show lkB _ i=_ from hk] at hi; cases hi
      |cells=>rfl
      |map=>rfl
      |deep=>rfl
      |row t g fz xs =>
       cases fz with
       |false=>rfl
       |true=>rw[hB'] at hk; rw[show lkB _ i=_ from hk] at hi; cases hi
   obtain⟨id,q1,q2,q3⟩:=at1 i hi hbi;obtain⟨id',q4,q5,q6⟩:=at1 j hj hbj;have:=H.heap.inj id id' b q2 q5 q3 q6;subst this;exact F.inj i j id q1 q4
 have hpin:∀i,i<pin→jh M.bd i=some (.at_ i):=fun i hi=>(eL.trans eH).bd i i (agj hi c1);refine⟨νb M.bd ν,⟨H.defers,?_,fun i=>?_,hHR⟩,⟨rfl,rfl,rfl,cJ _,fun b _ hb=>⟨rfl,fun hb'=>hb (F.subL b hb')⟩,fun i hi=>?_⟩,by rw[hhlen]; exact c1,fun i hi hdead=>?_⟩
 ·have:=H.len;simp only[cN,fE,Lh];omega
 ·simp only[Qs];exact ZR H.heap hL M eH F (fun k=>a.tmps.getD k undef) (fun k=>H.tmps k) i
 ·have hb:=hpin i hi;have hk:=F.at_ i i hb
  cases hl:lkB S.h i with
  |dead=>trivial
  |cells c=>rw[hl] at hk; exact⟨hk,oW hb⟩
  |row t g fz xs =>
   rw[hl] at hk
   cases fz with
   |true=>exact⟨g,true,xs,hk,cJ _,fun _=>⟨oW hb,rfl⟩⟩
   |false =>
    have hg:=(JC c4 i hi).1 t g xs hl;exact⟨0,false,xs,hk,by omega,fun _=>⟨oW hb,rfl⟩⟩
  |map k u es=>rw[hl] at hk; exact⟨⟨es,hk⟩,oW hb⟩
  |deep k g xss =>
   rw[hl] at hk;have hg:=(JC c4 i hi).2 k g xss hl;exact⟨0,xss,hk,by omega,fun _=>⟨oW hb,rfl⟩⟩
 ·have hk:=F.at_ i i (hpin i hi);rw[hdead] at hk;exact hk
end
end Go.Am
end

noncomputable section
namespace Go.Am
variable [ó]
section
variable {ρ:Type} {ν ν':Nat→Value} {h h':List Blk} {w w':World} {P:Program}
def kI (w:World) (G:Nat→Prop) (t:Ty) (x:Val t) (v:Value):Prop:=∃us,CR w G t x us∧v=wZ t us
def AT (w:World) (G:Nat→Prop):(l:List Ty)→(t:Ty)→Val (tys t l)→List Value→Prop
 |[],t,x,vs=>∃v,vs=[v]∧kI w G t x v
 |u::l,t,x,vs=>∃v vs',vs=v::vs'∧kI w G t (x:Val t×Val (tys u l)).1 v∧AT w G l u (x:Val t×Val (tys u l)).2 vs'
def AL (w:World) (G:Nat→Prop):(l:List Ty)→Val (tyL l)→List Value→Prop
 |[],_,vs=>vs=[]
 |t::l,x,vs=>AT w G l t x vs
def RR (w:World) (G:Nat→Prop):(l:List Ty)→Val (tyL l)→Value→Prop
 |[],_,u=>u=.tuple #[]
 |[t],x,u=>kI w G t x u
 |t::u'::l,x,u=>∃vs,u=.tuple vs∧AT w G (u'::l) t x vs.toList
def Ï (P:Program) (f:Nat) (p:Ø):Prop :=
 ∀(G:Nat→Prop) (x:Val (tyL p.ts)) (y:Val (tyL p.rs)),p.F x=some y→∀(w:World) (vals:List Value),(∀b,G b→b<w.heap.size)→AL w G p.ts x vals →
  (∃fn c,P.funcs[f]?=some fn∧fn.body=some c) ∧
  CallsIn Fence.wide 0 P f vals.toArray w fun e w'=>∃u,e=.returned u∧RR w' G p.rs y u∧(∀b,b<w.heap.size→w'.heap[b]?=w.heap[b]?)∧w.heap.size≤w'.heap.size∧w'.os=w.os∧w'.tape=w.tape∧w'.output=w.output
def Ye {a:AV} {vs:List AV} (e:ş a=some vs):lH a=vs:=by
 cases a<;>simp only[ş,Option.some.injEq,reduceCtorEq] at e<;>exact e
def zy {G:Nat→Prop} {t:Ty} {x:Val t} {a:AV} {v:Value} {vs:List AV} (hag:(UN a==t.isAgg)=true) (hc:ş a=some vs) (hv:VR ν h w a v)
 (hs:∀c∈lH a,∀u,VR1 ν h w c u→VRs w G (Ā h c) u) (e:æ t (vs.map (Ā h))=some x):kI w G t x v:=by
 have h1:=hv.cells hc;have h2:ć (VRs w G) (vs.map (Ā h)) v.cells.toList:=ć.map_left (aux vs _ h1 fun c hm u hu=>hs c (by rw[Ye hc]; exact hm) u hu.1);refine⟨_,ű e h2,?_⟩
 cases ha:a.isAgg with
 |true =>
  cases a<;>try cases ha
  obtain⟨us,rfl,_⟩:=hv
  have:t.isAgg=true:=by simpa[UN] using hag
  simp[wZ,this,Value.cells]
 |false =>
  have hn:UN a=false:=by cases a<;>first|rfl|cases ha
  have htf:t.isAgg=false:=by rw[hn] at hag; simpa using hag
  have htu:a.isTup=false:=by cases a<;>first|rfl|cases hc
  have h3:=(hv.one ha htu).oneCell hc;simp[wZ,htf,zr h3]
where
 aux {w:World} {G:Nat→Prop} {ν:Nat→Value} {h:List Blk} (vs:List AV) (us:List Value) (h1:ć (VRc ν h w) vs us) (hh:∀c∈vs,∀u,VRc ν h w c u→VRs w G (Ā h c) u):ć (fun c b=>VRs w G (Ā h c) b) vs us:=by
  induction vs generalizing us with
  |nil=>cases us with
   |nil=>trivial
   |cons=>exact h1.elim
  |cons c vs ih=>cases us with
   |nil=>exact h1.elim
   |cons u us=>exact⟨hh c (by simp) u h1.1,ih us h1.2 fun c hm u hu=>hh c (by simp[hm]) u hu⟩
def ah1 (H:HR ν h w) {G:Nat→Prop} {id g:Nat} {k:IntKind} {xss:List (List Int)} (hl:lkB h id=.deep k g xss) {v:Value} (hv:∃us,ν id=.agg (v::us).toArray) (hG:∀b,θ (ν id) b→¬G b) :
 CR w G (.slice (.slice (.int k))) xss [v]:=by
 obtain⟨us,hν⟩:=hv;obtain⟨base,cap,us',h1,h2,_,h3,h4⟩:=H.table hl;have h1':=h1;rw[hν] at h1;have q:=mA h1
 injection q with q1 q2
 subst q1 q2;have own:∀u∈Value.slice base xss.length cap::us,∀b,lI u=some b→¬G b:=fun u hu b hb=>hG b (by rw[h1']; exact⟨u,by simpa using hu,hb⟩);refine⟨base,cap,rfl,h2,?_⟩;rcases h3 with⟨rfl,rfl⟩|⟨b,off,c,e,rfl,h5,h6,h7⟩
 ·exact .inl (dh.1 (by omega))
 ·refine .inr ⟨b,off,rfl,own _ (.head _) b rfl,Ė h5,fun i xs hx=>?_⟩;obtain⟨u,hu,hr⟩:=h4.get hx;refine⟨[u],?_,fun j y hj=>?_⟩
  ·obtain⟨base2,cap2,rfl,h8,h9⟩:=hr;refine⟨base2,cap2,rfl,h8,?_⟩;rcases h9 with⟨rfl,rfl⟩|⟨b2,off2,c2,e2,rfl,h10,h11,h12⟩
   ·exact .inl (dh.1 (by omega))
   ·refine .inr ⟨b2,off2,rfl,own _ (.tail _ (cR hu)) b2 rfl,Ė h10,fun m x hm=>⟨[.int k x],rfl,fun j y hj=>?_⟩⟩
    cases j with
    |zero =>
     simp at hj;subst hj;simp only[World.cell?,h10];have:=h12 m x hm;simpa[Ty.size] using this
    |succ j=>simp at hj
  ·cases j with
   |zero =>
    simp at hj;subst hj;simp only[World.cell?,h5];have:=h7 i _ hu;simpa[Ty.size] using this
   |succ j=>simp at hj
def Yu (H:HR ν h w) {G:Nat→Prop} {t:Ty} {x:Val t} {a:AV} {v:Value} (hv:VR ν h w a v)
 (hs:∀c∈lH a,∀u,VR1 ν h w c u→VRs w G (Ā h c) u) (hb:∀id cs,a=.box id 0→lkB h id=.cells cs→(∀b,θ (ν id) b→¬G b)∧∀c∈cs,∀u,VR1 ν h w c u→VRs w G (Ā h c) u) (hd:∀id g,a=.dp id g→(lkB h id).live=true→∀b,θ (ν id) b→¬G b) (e:akS h t a=some x):kI w G t x v:=by
 cases ht:(match t with|.ptr _=>true|_=>false) with
 |false =>
  by_cases hdp:∃id g,a=.dp id g
  ·obtain⟨id,g,rfl⟩:=hdp
   have e':(match lkB h id with
    |.deep k g' xss=>match g==g' with
     |true=>match decEq (Ty.slice (.slice (.int k))) t with
      |isTrue e=>some (ME (F:=Val) e xss)
      |isFalse _=>none
     |false=>none
    |_=>none)=some x:=by
    cases t<;>first|exact e|cases ht
   split at e'<;>try (cases e'; done)
   rename_i k g' xss hl
   split at e'<;>try (cases e'; done)
   rename_i hg
   split at e'<;>try (cases e'; done)
   rename_i hty _;subst hty;cases e';obtain⟨ho,k2,g2,xss2,hl2,_,hq⟩:=hv;rw[hl] at hl2; cases hl2;have hcr:=ah1 H hl (hq (by simpa using hg)) (hd id g rfl (by rw[hl]; rfl));exact⟨[v],hcr,rfl⟩
  have e':(match UN a==t.isAgg with|true=>(match ş (aeR h a) with|some cs=>æ t cs|none=>none)|false=>none)=some x:=by
   have hn:∀id g,a≠.dp id g:=fun id g q=>hdp ⟨id,g,q⟩
   cases t<;>first|(cases ht; done)|(cases a<;>first|exact e|exact absurd rfl (hn _ _))
  split at e'<;>try (cases e'; done)
  rename_i hag
  split at e'<;>try (cases e'; done)
  rename_i cs hcs;obtain⟨vs,h1,rfl⟩:=HT hcs;exact zy hag h1 hv hs e'
 |true =>
  cases t<;>try cases ht
  rename_i u;simp only[akS] at e
  split at e<;>try (cases e; done)
  ·rename_i id
   split at e<;>try (cases e; done)
   rename_i cs hl;obtain⟨cs',b,h1,h2,h3⟩:=hv.one rfl rfl;have hB:=H.blk id;rw[hl] at hB;obtain⟨b',c,e',h4,h5,h6⟩:=hB;rw[h2] at h4; cases h4;obtain⟨hG,hcs⟩:=hb id cs rfl hl;have hcr:CR w G u x c.toList:=ű e (ć.map_left (zy.aux cs _ h6 fun c hc u hu=>hcs c hc u hu.1));refine⟨[v],⟨b,0,c.toList,by rw[h3],hG b (by rw[h2]; rfl),Ė h5,hcr,Ō.of_cells h5⟩,rfl⟩
  ·rename_i t' y
   split at e<;>try (cases e; done)
   rename_i heq _;subst heq;cases e;have h1:=hs _ (by simp[lH]) v (hv.one rfl rfl);obtain⟨b,o,us,h2,h3,h4,h5,h6⟩:=h1;exact⟨[v],⟨b,o,us,by rw[h2]; rfl,h3,h4,h5,h6⟩,rfl⟩
def Ro (H:HR ν h w) {G:Nat→Prop}:∀(l:List Ty) (t:Ty) (x:Val (tys t l)) (as:List AV) (vs:List Value),ć (VR ν h w) as vs →
 (∀a∈as,∀c∈lH a,∀u,VR1 ν h w c u→VRs w G (Ā h c) u)→(∀a∈as,∀id cs,a=.box id 0→lkB h id=.cells cs→(∀b,θ (ν id) b→¬G b)∧∀c∈cs,∀u,VR1 ν h w c u→VRs w G (Ā h c) u)→(∀a∈as,∀id g,a=.dp id g→(lkB h id).live=true→∀b,θ (ν id) b→¬G b)→Yt h l t as=some x→AT w G l t x vs
 |[],t,x,[],vs,_,_,_,_,e=>by cases e
 |[],t,x,[a],vs,hv,hs,hb,hd,e=>by
  obtain⟨v,rfl,h1⟩:=hv.one;exact⟨v,rfl,Yu H h1 (hs a (by simp)) (hb a (by simp)) (hd a (by simp)) e⟩
 |[],t,x,_::_::_,vs,_,_,_,_,e=>by cases e
 |u::l,t,x,[],vs,_,_,_,_,e=>by cases e
 |u::l,t,x,a::as,[],hv,_,_,_,e=>hv.elim
 |u::l,t,x,a::as,v::vs,hv,hs,hb,hd,e=>by
  simp only[Yt] at e
  split at e<;>try (cases e; done)
  rename_i y hy
  split at e<;>try (cases e; done)
  rename_i z hz;cases e;exact⟨v,vs,rfl,Yu H hv.1 (hs a (by simp)) (hb a (by simp)) (hd a (by simp)) hy,Ro H l u z as vs hv.2 (fun a ha=>hs a (by simp[ha])) (fun a ha=>hb a (by simp[ha])) (fun a ha=>hd a (by simp[ha])) hz⟩
def Rp (H:HR ν h w) {G:Nat→Prop} {l:List Ty} {x:Val (tyL l)} {as:List AV} {vs:List Value} (hv:ć (VR ν h w) as vs)
 (hs:∀a∈as,∀c∈lH a,∀u,VR1 ν h w c u→VRs w G (Ā h c) u) (hb:∀a∈as,∀id cs,a=.box id 0→lkB h id=.cells cs→(∀b,θ (ν id) b→¬G b)∧∀c∈cs,∀u,VR1 ν h w c u→VRs w G (Ā h c) u) (hd:∀a∈as,∀id g,a=.dp id g→(lkB h id).live=true→∀b,θ (ν id) b→¬G b) (e:HE h l as=some x):AL w G l x vs:=by
 cases l with
 |nil=>cases as with
  |nil=>exact hv.nil_left
  |cons=>cases e
 |cons t l=>exact Ro H l t x as vs hv hs hb hd e
def kI.mono {G G':Nat→Prop} (hm:∀b,G' b→G b) {t:Ty} {x:Val t} {v:Value} (hv:kI w G t x v):kI w G' t x v:=by
 obtain⟨us,h1,h2⟩:=hv;exact⟨us,CR.mono hm h1,h2⟩
def JE {av av':Nat→Prop}:∀{t:Ty} {x:Val t} {us:List Value},(flat t x).all AY=true→CR w av t x us→CR w av' t x us
 |.unit,_,_,_,hc=>hc
 |.bool,_,_,_,hc=>hc
 |.int _,_,_,_,hc=>hc
 |.str,_,_,_,hc=>hc
 |.slice _,_,_,hp,_=>by simp[flat,AY] at hp
 |.map _ _,_,_,hp,_=>by simp[flat,AY] at hp
 |.ptr _,_,_,hp,_=>by simp[flat,AY] at hp
 |.pair a b,x,us,hp,hc=>by
  simp only[flat,List.all_append,cM] at hp;obtain⟨u1,u2,e,h1,h2⟩:=hc;exact⟨u1,u2,e,JE hp.1 h1,JE hp.2 h2⟩
def ajB {t:Ty} {x:Val t} (hp:plain (enc t x)=true):(flat t x).all AY=true:=by
 cases t<;>first|exact hp|(simp only[enc,plain,AY] at hp; simp[flat,AY])|(simp[enc,plain,AY] at hp)
def kI.plain {G G':Nat→Prop} {t:Ty} {x:Val t} {v:Value} (hp:plain (enc t x)=true) (hv:kI w G t x v):kI w G' t x v:=by
 obtain⟨us,h1,h2⟩:=hv;exact⟨us,JE (ajB hp) h1,h2⟩
def AT.plain {G G':Nat→Prop}:∀{l:List Ty} {t:Ty} {x:Val (tys t l)} {vs:List Value},(ajC l t x).all Go.Am.plain=true→AT w G l t x vs→AT w G' l t x vs
 |[],t,x,vs,hp,⟨v,h1,h2⟩=>⟨v,h1,h2.plain (by simpa[ajC] using hp)⟩
 |u::l,t,x,vs,hp,⟨v,vs',h1,h2,h3⟩=>by
  simp only[ajC,fI,cM] at hp;exact⟨v,vs',h1,h2.plain hp.1,AT.plain hp.2 h3⟩
def Zf {v:AV} (hp:v.isTup=false):NG v=Go.Am.plain v:=by cases v<;>first|rfl|cases hp
def JJ {t:Ty} {x:Val t}:(enc t x).isTup=false:=by cases t<;>rfl
def RR.plain {G G':Nat→Prop}:∀{l:List Ty} {x:Val (tyL l)} {u:Value},NG (acq l x)=true→RR w G l x u→RR w G' l x u
 |[],_,_,_,h=>h
 |[t],x,u,hp,h=>kI.plain ((Zf (JJ (t:=t) (x:=x))).symm.trans hp) h
 |t::u'::l,x,u,hp,⟨vs,h1,h2⟩=>⟨vs,h1,h2.plain hp⟩
def kI.VR {t:Ty} {x:Val t} {v:Value} (hv:kI w (Av ν h) t x v):VR ν h w (enc t x) v:=by
 obtain⟨us,h1,rfl⟩:=hv;exact Ln h1
def AT.VR:∀{l:List Ty} {t:Ty} {x:Val (tys t l)} {vs:List Value},AT w (Av ν h) l t x vs→ć (VR ν h w) (ajC l t x) vs
 |[],t,x,_,⟨v,rfl,h2⟩=>⟨h2.VR,trivial⟩
 |u::l,t,x,_,⟨v,vs',rfl,h2,h3⟩=>⟨h2.VR,AT.VR h3⟩
def QU:∀{l:List Ty} {t:Ty} {x:Val (tys t l)},∀a∈ajC l t x,a.isTup=false
 |[],t,x,a,hm=>by simp only[ajC,cY] at hm; rw[hm]; exact JJ
 |u::l,t,x,a,hm=>by
  simp only[ajC,cW] at hm;rcases hm with rfl|hm
  ·exact JJ
  ·exact QU a hm
def ć.VR2:∀{as:List AV} {vs:List Value},ć (VR ν h w) as vs→(∀a∈as,a.isTup=false)→ć (VR2 ν h w) as vs
 |[],[],_,_=>trivial
 |a::as,v::vs,hv,hn=>⟨by rw[←JZ (hn a (by simp))]; exact hv.1,ć.VR2 hv.2 fun a ha=>hn a (by simp[ha])⟩
 |[],_::_,hv,_=>hv.elim
 |_::_,[],hv,_=>hv.elim
def RR.VR:∀{l:List Ty} {x:Val (tyL l)} {u:Value},RR w (Av ν h) l x u→VR ν h w (acq l x) u
 |[],_,_,h=>by cases h; exact⟨#[],rfl,trivial⟩
 |[t],x,u,h=>kI.VR h
 |t::u'::l,x,u,⟨vs,h1,h2⟩=>⟨vs,h1,ć.VR2 h2.VR QU⟩
def Lx (P:Program) (g:Nat) (ν:Nat→Value) (h:List Blk) (w:World) (vals:List Value) (K:AV→List Blk→Option ρ) (r:ρ):Prop :=
 (∃fn c,P.funcs[g]?=some fn∧fn.body=some c) ∧
 CallsIn Fence.wide 0 P g vals.toArray w fun e w'=>∃ν' h' v u,e=.returned u∧VR ν' h' w' v u∧HR ν' h' w'∧Ev h.length ν h w ν' h' w'∧h.length≤h'.length∧(∀j,j<h.length→lkB h j=.dead→lkB h' j=.dead)∧K v h'=some r
def afx {c:AV} {u:Value}:∀{as:List AV} {h:List Blk},HR ν h w→c∈as→Uc c=true→VR1 ν h w c u→VRs w (Av ν (zY h as)) (Ā h c) u
 |[],_,_,hm,_,_=>by cases hm
 |a::as,h,H,hm,hn,hv=>by
  obtain⟨e1,H1,l1⟩:=XZ H a;rcases cW.1 hm with rfl|hm
  ·exact VRs.mono ((DH as H1).2.2) (abu H hv hn)
  ·have:=afx (as:=as) H1 hm hn (hv.ev e1)
   rwa [HU] at this
def agu {f:Nat} {p:Ø} (hp:Ï P f p) {b:Bool} {args:List AV} {K:AV→List Blk→Option ρ} {r:ρ} (e:Vw b p h args K=some r) (H:HR ν h w) {vals:List Value} (hv:ć (VR ν h w) args vals):Lx P f ν h w vals K r:=by
 unfold Vw at e
 split at e<;>try (cases e; done)
 rename_i x hx;simp only[Ã] at e
 split at e<;>try (cases e; done)
 rename_i y hy
 -- the call, with what may not be touched
 have call:∀(G:Nat→Prop),(∀b,G b→b<w.heap.size)→AL w G p.ts x vals→∀(h':List Blk),HR ν h' w→Ev h.length ν h w ν h' w→h.length≤h'.length→(∀j,j<h.length→lkB h j=.dead→lkB h' j=.dead) →
  (∀w' u,RR w' G p.rs y u→RR w' (Av ν h') p.rs y u)→K (acq p.rs y) h'=some r→Lx P f ν h w vals K r:=by
  intro G hG hal h' H' ev hl hdead hrr hK;obtain⟨h1,h2⟩:=hp G x y hy w vals hG hal;refine⟨h1,h2.mono fun e w' hw=>?_⟩;obtain⟨u,rfl,g1,g2,g3,g4,g5,g6⟩:=hw;obtain⟨ev',H''⟩:=H'.grow g2 g3 g4 g5 g6 h.length;exact⟨ν,h',_,u,rfl,(hrr w' u g1).VR,H'',ev.trans ev' (cJ _),hl,hdead,hK⟩
 split at e
 ·rename_i hpl;exact call (fun _=>False) (fun _ hf=>hf.elim) (Rp H hv (fun a _ c _ u hu=>Y0 H hu) (fun _ _ _ _ _ _=>⟨fun _ _ hf=>hf,fun c _ u hu=>Y0 H hu⟩) (fun _ _ _ _ _ _ _ _ hf=>hf) hx) h H (Ev.refl _ _ _ _) (cJ _) (fun _ _ hd=>hd) (fun w' u hr=>hr.plain hpl) e
 ·split at e
  ·rename_i hown
   have hown':∀a∈args,tW a=false:=fun a ha=>by have:=dz.1 hown a ha; simpa using this
   refine call (Av ν h) (fun b hb=>H.ltA hb) (Rp H hv (fun a ha c hc u hu=>?_) (fun a ha id cs hid _=>?_) (fun a ha id g hid=>?_) hx) h H (Ev.refl _ _ _ _) (cJ _) (fun _ _ hd=>hd) (fun w' u hr=>hr) e
   ·have hc1:Yx c=false:=by
     have:=hown' a ha
     cases a<;>first
      |(simp only[lH,cY] at hc; subst hc; exact this)
      |(simp only[lH] at hc; simp only[tW,eI] at this; simpa using this c hc)
    have:Ā h c=c:=by cases c<;>first|rfl|cases hc1
    rw[this]; exact hu.data
   ·subst hid; cases hown' _ ha
   ·subst hid; cases hown' _ ha
  ·split at e<;>try (cases e; done)
   rename_i hnr;simp only[Bool.or_eq_false_iff,fk] at hnr;have hnr':∀a∈args,aiF a=true:=dz.1 hnr.2;obtain⟨ev,H',hsub⟩:=DH (args.flatMap lH) H;refine call (Av ν (zY h (args.flatMap lH))) (fun b hb=>H'.ltA hb) (Rp H hv (fun a ha c hc u hu=>?_) (fun a ha id cs hid _=>?_) (fun a ha id g hid=>?_) hx) _ H' ev (by rw[ξ]; exact cJ _) (fun _ _ hd=>QC _ hd) (fun w' u hr=>hr) e
   ·refine afx H (dn.2 ⟨a,ha,hc⟩) ?_ hu;have:=hnr' a ha
    have hc1:aiE c=true:=by
     cases a<;>first
      |(simp only[lH,cY] at hc; subst hc; exact this)
      |(simp only[lH] at hc; simp only[aiF,dz] at this; exact this c hc)
    cases c<;>first|rfl|cases hc1
   ·subst hid; cases hnr' _ ha
   ·subst hid; cases hnr' _ ha
end
end Go.Am
end

noncomputable section
namespace Go.Am
variable [ó]
section
variable {ρ:Type} {ν ν':Nat→Value} {h h':List Blk} {w w':World} {P:Program}
def Ub {v v':AV} (e:aly v=some v'):v'=v∧v.isTup=false:=by
 cases v<;>simp only[aly,Option.some.injEq,reduceCtorEq] at e<;>exact⟨e.symm,rfl⟩
def agr {S:St} {a:Act} (H:Sim ν S a w) {rv:ResultVar} {v:AV} (e:acK P S.h S.t rv=some v) :
 ∃u,(match rv with|.tmp t=>(pure (a.tmps.getD t undef):Sem Value)|.cell x t=>do loadVar t (←asAddr (a.tmps.getD x undef))).run P w=.ok u w∧VR2 ν S.h w v u:=by
 cases rv with
 |tmp i =>
  obtain⟨rfl,ht⟩:=Ub e;have:=H.tmps i;rw[JZ ht] at this;exact⟨_,rfl,this⟩
 |cell x t =>
  simp only[acK] at e
  split at e<;>try (cases e; done)
  rename_i v' hl;obtain⟨rfl,ht⟩:=Ub e;obtain⟨u,h1,h2⟩:=ai4 H.heap hl (H.tmps x);rw[JZ ht] at h2;refine⟨u,?_,h2⟩;simp only[Instr.loadAt] at h1
  cases hx:a.tmps.getD x undef with
  |pointer p =>
   rw[hx] at h1
   cases p with
   |none=>simp[Instr.sureAddr] at h1
   |some ad =>
    show(do loadVar t (←asAddr (a.tmps.getD x undef)):Sem Value).run P w=_;rw[hx];simpa[Instr.sureAddr,asAddr] using h1
  |_=>rw[hx] at h1; simp[Instr.sureAddr] at h1
def TP {S:St} {a:Act} (H:Sim ν S a w):∀{rs:List ResultVar} {vs:List AV},ND P S.h S.t rs=some vs →
 ∃us:List Value,(rs.mapM (m:=Sem) fun|.tmp t=>pure (a.tmps.getD t undef)|.cell x t=>do loadVar t (←asAddr (a.tmps.getD x undef))).run P w=.ok us w∧ć (VR2 ν S.h w) vs us
 |[],vs,e=>by cases e; exact⟨[],rfl,trivial⟩
 |rv::rs,vs,e=>by
  simp only[ND] at e
  split at e<;>try (cases e; done)
  rename_i v hv
  split at e<;>try (cases e; done)
  rename_i vs' hvs;cases e;obtain⟨u,h1,h2⟩:=agr H hv;obtain⟨us,h3,h4⟩:=TP H hvs;refine⟨u::us,?_,h2,h4⟩;simp only[List.mapM_cons,Sem.run_bind,Sem.run_pure];rw[h1];simp only[Result.andThen_ok];rw[h3];rfl
def VR2.up {v:AV} {u:Value} (hv:VR2 ν h w v u):VR ν h w v u:=by
 cases ht:v.isTup with
 |true =>
  cases v<;>try cases ht
  exact hv.elim
 |false=>rw[JZ ht]; exact hv
def HW {S:St} {a:Act} {fn:Func} {v:AV} (H:Sim ν S a w) (e:oZ P fn S=some v):∃u,(results fn a.tmps).run P w=.ok u w∧VR ν S.h w v u:=by
 unfold oZ at e
 cases hr:ND P S.h S.t fn.results.toList with
 |none=>rw[hr] at e; cases e
 |some vs =>
  obtain⟨us,h1,h2⟩:=TP H hr
  have hrun:(results fn a.tmps).run P w=.ok (if h:us.toArray.size=1 then us.toArray[0] else .tuple us.toArray) w:=by
   unfold results;rw[Sem.run_bind,Array.mapM_eq_mapM_toList,Sem.run_map]
   erw [h1]
   rfl
  rw[hr] at e
  rcases vs with _|⟨x,_|⟨y,l⟩⟩<;>rcases us with _|⟨u,_|⟨u',m⟩⟩
  ·cases e; exact⟨_,hrun,⟨#[],by simp,trivial⟩⟩
  ·exact h2.elim
  ·exact h2.elim
  ·exact h2.elim
  ·cases e; exact⟨_,hrun,h2.1.up⟩
  ·exact h2.2.elim
  ·exact h2.elim
  ·exact h2.2.elim
  ·cases e; exact⟨_,hrun,⟨(u::u'::m).toArray,by simp,h2⟩⟩
def ć.lk {R:AV→Value→Prop} (hany:∀u,R .any u):∀{l:List AV} {m:List Value} (i:Nat),ć R l m→R (Am.lk l i) (m.getD i undef)
 |[],[],i,_=>hany _
 |_::_,_::_,0,h=>h.1
 |_::_,_::_,i+1,h=>by simpa[Am.lk] using ć.lk hany i h.2
 |[],_::_,_,h=>h.elim
 |_::_,[],_,h=>h.elim
def Flat:Prop:=ó.D=[]∧ó.Q=none
def G6 (h:ó.Q=none):fen=Fence.wide:=by
 unfold fen;rw[h];rfl
def QT {E:Env ρ} {call:List Nat→Bool→Nat→List AV→List Blk→(AV→List Blk→Option ρ)→Option ρ} {N:Nat} (hE:lK E N call) (hD:lY E N call) {path:List Nat} (hpath:path.length+2=N) {f:Nat} {args:List AV} {K:AV→List Blk→Option ρ} {r:ρ}
 (h0:Flat) (hL:∀fn c,E.P.funcs[f]?=some fn→fn.body=some c→∀x∈î 0 c,nY E path f x.1 x.2)
 (e:afD E call path f args h K=some r) {vals:List Value} (H:HR ν h w) (hargs:ć (VR ν h w) args vals) :
 (∃fn c,E.P.funcs[f]?=some fn∧fn.body=some c) ∧
 CallsIn Fence.wide 0 E.P f vals.toArray w fun e w'=>∃ν' h' v u,e=.returned u∧VR ν' h' w' v u∧HR ν' h' w'∧Ev h.length ν h w ν' h' w'∧h.length≤h'.length∧(∀j,j<h.length→lkB h j=.dead→lkB h' j=.dead)∧K v h'=some r:=by
 unfold afD at e
 split at e<;>try (cases e; done)
 rename_i fn hfn
 split at e<;>try (cases e; done)
 rename_i c hc;refine⟨⟨fn,c,hfn,hc⟩,?_⟩;refine callsIn_of_wp hfn hc trivial ?_;have hlen:=hargs.length
 have hS:Sim ν {t:=args++List.replicate (fn.ntmps-args.length) .any,h:=h} {tmps:=vals.toArray++Array.replicate (fn.ntmps-vals.toArray.size) undef,defers:=[]} w:=by
  refine⟨h0.1.symm,by simp[hlen],fun i=>?_,H⟩;simp only[Qs];rcases dv i args.length with hi|hi
  ·have:=ć.lk (R:=VR ν h w) (fun _=>trivial) i hargs
   have hv:i<vals.length:=by omega
   have h2:(vals.toArray++Array.replicate (fn.ntmps-vals.toArray.size) undef).getD i undef=vals.getD i undef:=by
    simp[dK,eP,hv]
   rw[h2]; exact this
  ·rw[ai6 _ _ hi]; trivial
 have hgo:=lv hE hD hpath c 0 _ _ ν _ w (hL fn c hfn hc) e hS (cJ _);rw[G6 h0.2] at hgo;refine wpIn_mono hgo fun x a' w' ha=>?_;obtain⟨ν',S',h1,h2,h3,h4,h5⟩:=ha
 have fin:∀v,oZ E.P fn S'=some v→K v S'.h=some r→a'.defers=[]∧∃u,(results fn a'.tmps).run E.P w'=.ok u w'∧∃ν' h' v u',Ending.returned u=.returned u'∧VR ν' h' w' v u'∧HR ν' h' w'∧Ev h.length ν h w ν' h' w'∧h.length≤h'.length∧(∀j,j<h.length→lkB h j=.dead→lkB h' j=.dead)∧K v h'=some r:=by
  intro v hv hk;obtain⟨u,q1,q2⟩:=HW h1 hv;exact⟨h1.defers.trans h0.1,u,q1,ν',S'.h,v,u,rfl,q2,h1.heap,h2,h3,h4,hk⟩
 cases x with
 |normal =>
  simp only at h5
  split at h5<;>try (cases h5; done)
  exact fin _ ‹_› h5
 |ret =>
  simp only at h5
  split at h5<;>try (cases h5; done)
  exact fin _ ‹_› h5
 |exit id=>cases h5
 |goto l=>cases h5
 |panic ch=>cases h5
 |outgrown=>cases h5
structure MJ (E:Env ρ):Prop where
 pure:∀f p,E.pure f=some p→Ï E.P f p
 sort:∀f,E.sort f=true→∀(h:List Blk) (x:AV) (K:AV→List Blk→Option ρ) (r:ρ),Vo h x K=some r→∀ν w u,HR ν h w→VR ν h w x u→Lx E.P f ν h w [u] K r
 compact:∀f,E.compact f=true→∀(h:List Blk) (x:AV) (K:AV→List Blk→Option ρ) (r:ρ),oE h x K=some r→∀ν w u,HR ν h w→VR ν h w x u→Lx E.P f ν h w [u] K r
 plain : ∀ (f : Nat) (fn : Func), E.P.funcs[f]? = some fn → (fn.name == "runtime.NumGoroutine") = false
 clone:J2 E.P E.clone
 joins:af8 E
omit [ó] in
def pT {E:Env ρ} (n:Nat):(∀f p,E.pure f=some p→∀path draw args h K,jX E (n+1) path draw f args h K=Vw (draw&&!E.fz f) p h args K) ∧
 (∀f,E.pure f=none→E.sort f=true→∀path draw args h K,jX E (n+1) path draw f args h K=match args with|[x]=>Vo h x K|_=>none) ∧
 (∀f,E.pure f=none→E.sort f=false→E.compact f=true→∀path draw args h K,jX E (n+1) path draw f args h K=match args with|[x]=>oE h x K|_=>none) :=
 ⟨fun f p hf path draw args h K=>by simp only[jX,hf],fun f hf hs path draw args h K=>by simp only[jX,hf,hs]; rfl,fun f hf hs hc path draw args h K=>by simp only[jX,hf,hs,hc]; rfl⟩
def mw {E:Env ρ} (h0:Flat∨∀f,E.inl f=false) (hlib:MJ E) (hdraw:∀L call,lK E L call→lY E L call)
 (hloops:∀n,n≤10→lK E (22-2*n) (jX E n)→∀(path:List Nat) (f:Nat) (fn:Func) (c:Code),path.length+2=22-2*n→E.P.funcs[f]?=some fn→fn.body=some c→∀x∈î 0 c,nY E path f x.1 x.2) :
 ∀n,n≤10→acn E.P (22-2*n) (jX E n):=by
 intro n
 induction n with
 |zero=>intro _ path draw g args h K r _ e; cases e
 |succ n ih =>
  intro hn path draw g args h K r hp e ν w vals H hargs
  have hE:lK E (22-2*n) (jX E n):=⟨by
   cases n with
   |zero=>exact .inl fun _ _ _ _ _ _=>rfl
   |succ n=>exact .inr (pT n),ih (by omega),hlib.plain,hlib.clone,hlib.joins⟩
  simp only[jX] at e
  split at e
  ·rename_i gm hg;exact agu (hlib.pure g gm hg) e H hargs
  ·split at e
   ·rename_i hs
    split at e<;>try (cases e; done)
    rename_i x;obtain⟨u,rfl,hu⟩:=hargs.one;exact hlib.sort g hs h x K r e ν w u H hu
   ·split at e
    ·rename_i hc
     split at e<;>try (cases e; done)
     rename_i x;obtain⟨u,rfl,hu⟩:=hargs.one;exact hlib.compact g hc h x K r e ν w u H hu
    ·split at e<;>try (cases e; done)
     rename_i hinl
     split at e<;>try (cases e; done)
     have hpath:path.length+2=22-2*n:=by omega
     exact QT hE (hdraw _ _ hE) hpath (h0.resolve_right fun hf=>by rw[hf g] at hinl; cases hinl) (fun fn c h1 h2=>hloops n (by omega) hE path g fn c hpath h1 h2) e H hargs
end
end Go.Am
end

noncomputable section
namespace Go.Am
variable [ó]
section
variable {ρ:Type} {P:Program} {h h2:List Blk} {t t2:List AV}
def nv (h h2:List Blk) (v:AV):Prop:=∀id∈refs2 h v,lkB h2 id=lkB h id
def nv.one {v:AV} (hs:nv h h2 v):∀id∈refs1 v,lkB h2 id=lkB h id:=fun id hi=>hs id (by simp only[refs2,cQ]; exact .inl hi)
def nv.refs {v:AV} (hs:nv h h2 v):refs2 h2 v=refs2 h v:=by
 simp only[refs2]
 have:∀(l:List Nat),(∀id∈l,lkB h2 id=lkB h id)→(l.flatMap fun id=>(Q5 (lkB h2 id)).flatMap Į)=l.flatMap fun id=>(Q5 (lkB h id)).flatMap Į:=by
  intro l
  induction l with
  |nil=>intro _; rfl
  |cons x l ih=>intro hl; simp only[dP]; rw[hl x (by simp),ih fun id hi=>hl id (by simp[hi])]
 rw[this _ hs.one]
def oL {v:AV} (hs:∀id∈Į v,lkB h2 id=lkB h id):Ā h2 v=Ā h v:=by
 cases v<;>first
  |rfl
  |(simp only[Ā]; rw[hs _ (by simp[Į])])
def Nz {v:AV} (hs:∀id∈refs1 v,lkB h2 id=lkB h id):aeR h2 v=aeR h v:=by
 have one:(∀id∈Į v,lkB h2 id=lkB h id)→Ā h2 v=Ā h v:=oL
 cases v with
 |agg cs =>
  simp only[aeR,AV.agg.injEq];exact eZ fun c hc=>oL fun id hi=>hs id (dn.2 ⟨c,hc,hi⟩)
 |fn f a b=>exact one fun _ hi=>by cases hi
 |_=>exact one hs
def agP {ty:TypeId} {a:AV} (hs:∀id∈refs1 a,lkB h2 id=lkB h id) (K:AV→Option ρ):TA P h2 ty a K=TA P h ty a K:=by
 cases a<;>first
  |rfl
  |(simp only[TA]; rw[hs _ (by simp[refs1,Į])])
def acC {o:Nat} {a:AV} (hs:∀id∈refs1 a,lkB h2 id=lkB h id) (K:AV→Option ρ):AW h2 a o K=AW h a o K:=by
 cases a<;>first
  |rfl
  |(simp only[AW]; rw[hs _ (by simp[refs1,Į])])
def adM {sz:Nat} {a i:AV} (hs:∀id∈refs1 a,lkB h2 id=lkB h id) (K:AV→Option ρ):GY sz h2 a i K=GY sz h a i K:=by
 cases i<;>try rfl
 cases a<;>first
  |rfl
  |(simp only[GY]; rw[hs _ (by simp[refs1,Į])])
def ajb {d:Option TypeDesc} {a:AV} (hs:∀id∈refs1 a,lkB h2 id=lkB h id) (K:AV→Option ρ):alI d h2 a K=alI d h a K:=by
 unfold alI
 split<;>cases a<;>first
  |rfl
  |(simp only[]; rw[hs _ (by simp[refs1,Į])])
def abc {ty:TypeId} {m i:AV} {ok:Bool} (hs:∀id∈refs1 m,lkB h2 id=lkB h id) (K:AV→Option ρ):nJ P h2 ty m i ok K=nJ P h ty m i ok K:=by
 unfold nJ
 have:Ā h2 m=Ā h m:=oL fun id hi=>hs id (by cases m<;>first|exact hi|simp[Į] at hi)
 rw[this]
def J6 {σ:Type} {sz:Nat} {a:AV} {lo hi:Option AV} (K:AV→List Blk→Option σ):qe sz h a lo hi false K=(qe sz h a lo hi false fun v _=>some v).bind fun v=>K v h:=by
 unfold qe;dsimp only
 (repeat' split)<;>rfl
def acz {sz:Nat} {a:AV} {lo hi:Option AV} (hs:∀id∈refs1 a,lkB h2 id=lkB h id):∃φ:Option AV,(∀{σ:Type} (K:AV→List Blk→Option σ),qe sz h a lo hi false K=φ.bind fun v=>K v h)∧∀{σ:Type} (K:AV→List Blk→Option σ),qe sz h2 a lo hi false K=φ.bind fun v=>K v h2:=by
 refine⟨qe sz h a lo hi false fun v _=>some v,fun K=>?_,fun K=>?_⟩
 ·exact J6 K
 ·rw[J6 K];congr 1
  cases a<;>first
   |rfl
   |(simp only[qe]; rw[hs _ (by simp[refs1,Į])])
def ap (nid:Nat) (ef:Option Blk) (h:List Blk):List Blk:=match ef with|none=>h|some B=>č h nid B
def pbind {α σ σ2:Type} {R:Option σ→Option σ2→Prop} (h0:R none none) {x:Option α} {K:α→Option σ} {K2:α→Option σ2} (h:∀a,R (K a) (K2 a)):R (x.bind K) (x.bind K2):=by
 cases x with
 |none=>exact h0
 |some a=>exact h a
def pb2 {α σ σ2:Type} {R:Option σ→Option σ2→Prop} (h0:R none none) {x:Option α} {K:α→Option σ} {K2:α→Option σ2} {z:Option σ} {z2:Option σ2} (h1:z=x.bind K) (h2:z2=x.bind K2) (h:∀a,R (K a) (K2 a)):R z z2:=by
 subst h1 h2; exact pbind h0 h
def Ui {l:List Operand} (hx:∀x∈l,ev t2 x=ev t x):l.map (ev t2)=l.map (ev t):=eZ hx
def aiP {l:List (Nat×Operand)} (hx:∀x∈l.map (·.2),ev t2 x=ev t x):(l.map fun p=>(p.1,ev t2 p.2))=l.map fun p=>(p.1,ev t p.2):=eZ fun p hp=>by rw[hx p.2 (dT.2 ⟨p,hp,rfl⟩)]
def ajp {v:AV} (hv:tW v=false):frz h v=h:=by
 have one:∀c,Yx c=false→wP h c=h:=fun c hc=>by cases c<;>first|rfl|cases hc
 have this1:=one v
 cases v with
 |agg cs =>
  simp only[tW,eI] at hv;simp only[frz];clear this1
  induction cs with
  |nil=>rfl
  |cons c cs ih=>simp only[zY]; rw[one c (by simpa using hv c (by simp))]; exact ih fun x hx=>hv x (by simp[hx])
 |_=>exact this1 hv
def UU:∀{ps:List (Nat×AV)},(∀p∈ps,tW p.2=false)→frzA h ps=h
 |[],_=>rfl
 |p::ps,hp=>by
  obtain⟨i,v⟩:=p;simp only[frzA];rw[ajp (hp (i,v) (by simp))];exact UU fun q hq=>hp q (by simp[hq])
def TO {ty:Ty}:∀{ps:List (Nat×AV)} {n:Nat},(∀p∈ps,∀id∈refs1 p.2,lkB h2 id=lkB h id)→RB h2 ty n ps=RB h ty n ps
 |[],_,_=>rfl
 |(i,v)::ps,n,hp=>by
  simp only[RB];rw[Nz (hp (i,v) (by simp)),TO fun q hq=>hp q (by simp[hq])]
def op_par {σ σ2:Type} {R:Option σ→Option σ2→Prop} {E:Env ρ} {o:Op} {nid:Nat} {K:AV→St→Option σ} {K2:AV→St→Option σ2} (h0:R none none) (hcl:cls E o≤1) (hcall:abl o=false)
 (hx:∀x∈o.operands.toList,ev t2 x=ev t x) (hs:cls E o=1→∀x∈o.operands.toList,∀id∈refs1 (ev t x),lkB h2 id=lkB h id)
 (hb:∀ty n ps,o=.buildSlice ty n ps→ps.toList.all (fun p=>!tW (ev t p.2))=true)
 (hK:∀v ef,(ef.isSome=true→Ď E.clone o=true)→R (K v {t:=t,h:=ap nid ef h}) (K2 v {t:=t2,h:=ap nid ef h2})) :
 R (opK P {t:=t,h:=h} nid false o K) (opK P {t:=t2,h:=h2} nid false o K2):=by
 have hn:∀v,R (K v {t:=t,h:=h}) (K2 v {t:=t2,h:=h2}):=fun v=>hK v none (by simp);have ha:Ď E.clone o=true→∀v B,R (K v {t:=t,h:=č h nid B}) (K2 v {t:=t2,h:=č h2 nid B}):=fun al v B=>hK v (some B) fun _=>al
 cases o with
 |move x =>
  have e:=hx x (by simp[Op.operands]);simp only[opK,e]; exact hn _
 |assign x =>
  have e:=hx x (by simp[Op.operands]);simp only[opK,e]; exact hn _
 |pick c a b =>
  have e1:=hx c (by simp[Op.operands]);have e2:=hx a (by simp[Op.operands]);have e3:=hx b (by simp[Op.operands]);simp only[opK,e1,e2,e3]
  (repeat' split)<;>first|exact h0|exact hn _
 |box _ x =>
  have e:=hx x (by simp[Op.operands]);simp only[opK,e]
  (repeat' split)<;>first|exact h0|exact ha rfl _ _
 |alloc e =>
  simp only[opK]
  (repeat' split)<;>first|exact h0|exact ha rfl _ _
 |build ty ps =>
  have e:=aiP (l:=ps.toList) (t:=t) (t2:=t2) fun x hm=>hx x (by simpa[Op.operands] using hm);simp only[opK,e]
  (repeat' split)<;>first|exact h0|exact hn _
 |buildSlice ty n ps =>
  have e:=aiP (l:=ps.toList) (t:=t) (t2:=t2) fun x hm=>hx x (by simpa[Op.operands] using hm);have hown:=hb ty n ps rfl
  have hf:∀h:List Blk,frzA h (ps.toList.map fun p=>(p.1,ev t p.2))=h:=fun h=>UU fun p hp=>by
   obtain⟨q,hq,rfl⟩:=dT.1 hp;simpa using dz.1 hown q hq
  have hr:∀ty n,RB h2 ty n (ps.toList.map fun p=>(p.1,ev t p.2))=RB h ty n (ps.toList.map fun p=>(p.1,ev t p.2)):=fun ty n=>TO fun p hp=>by
   obtain⟨q,hq,rfl⟩:=dT.1 hp;exact hs rfl q.2 (by simpa[Op.operands] using⟨q.1,by simpa using hq⟩)
  simp only[opK,e,hf,hr]
  (repeat' split)<;>first|exact h0|exact ha rfl _ _
 |load ty a =>
  have e:=hx a (by simp[Op.operands]);have hsa:=hs rfl a (by simp[Op.operands]);simp only[opK,e];rw[agP hsa];exact pb2 h0 (tq ..) (tq ..) fun v=>hn v
 |nilCheck x =>
  have e:=hx x (by simp[Op.operands]);have hsa:=hs rfl x (by simp[Op.operands]);simp only[opK,e]
  cases hv:ev t x with
  |optr id g i off =>
   have:=hsa id (by rw[hv]; simp[refs1,Į]);simp only[this]
   (repeat' split)<;>first|exact h0|exact hn _
  |_=>first|exact h0|exact hn _
 |binOp op ty x y yt =>
  have e1:=hx x (by simp[Op.operands]);have e2:=hx y (by simp[Op.operands]);simp only[opK,e1,e2];exact pb2 h0 (AA ..) (AA ..) fun v=>hn v
 |unOp op ty x =>
  have e:=hx x (by simp[Op.operands]);simp only[opK,e]
  (repeat' split)<;>first|exact h0|exact hn _|exact pb2 h0 (DP ..) (DP ..) fun v=>hn v
 |convert src dst x =>
  have e:=hx x (by simp[Op.operands]);simp only[opK,e]
  (repeat' split)<;>first|exact h0|exact hn _
 |makeFunc fn first captured =>
  have e1:=Ui (l:=first.toList) (t:=t) (t2:=t2) fun x hm=>hx x (by simp[Op.operands]; exact .inl (by simpa using hm));have e2:=Ui (l:=captured.toList) (t:=t) (t2:=t2) fun x hm=>hx x (by simp[Op.operands]; exact .inr (by simpa using hm));simp only[opK,e1,e2]
  (repeat' split)<;>first|exact h0|exact hn _
 |makeMap ty r =>
  simp only[opK]
  (repeat' split)<;>first|exact h0|exact ha rfl _ _
 |makeSlice ty l c =>
  have e:=hx l (by simp[Op.operands]);simp only[opK,e]
  (repeat' split)<;>first|exact h0|exact ha rfl _ _
 |slice ty x lo hi mx =>
  have e:=hx x (by simp[Op.operands]);have hsa:=hs rfl x (by simp[Op.operands])
  have e1:lo.map (ev t2)=lo.map (ev t):=by
   cases lo with
   |none=>rfl
   |some l=>simp[hx l (by simp[Op.operands])]
  have e2:hi.map (ev t2)=hi.map (ev t):=by
   cases hi with
   |none=>rfl
   |some l=>simp[hx l (by simp[Op.operands])]
  simp only[opK,e,e1,e2]
  (repeat' split)<;>first
   |exact h0
   | (obtain ⟨φ, q1, q2⟩ := acz hsa
      rw[q1,q2]
      exact pbind h0 fun v=>hn v)
 |fieldAddr ty x f =>
  have e:=hx x (by simp[Op.operands]);have hsa:=hs rfl x (by simp[Op.operands]);simp only[opK,e]
  (repeat' split)<;>first
   |exact h0
   |(rw[acC hsa]; exact pb2 h0 (oM ..) (oM ..) fun v=>hn v)
 |field ty x f =>
  have e:=hx x (by simp[Op.operands]);simp only[opK,e]
  (repeat' split)<;>first|exact h0|exact hn _
 |indexAddr ty x i =>
  have e1:=hx x (by simp[Op.operands]);have e2:=hx i (by simp[Op.operands]);have hsa:=hs rfl x (by simp[Op.operands]);simp only[opK,e1,e2]
  (repeat' split)<;>first
   |exact h0
   |exact hn _
   |exact pb2 h0 (iM ..) (iM ..) fun v=>hn _
   |(rw[adM hsa]; exact pb2 h0 (oR ..) (oR ..) fun v=>hn v)
 |index ty x i =>
  have e1:=hx x (by simp[Op.operands]);have e2:=hx i (by simp[Op.operands]);simp only[opK,e1,e2]
  (repeat' split)<;>first|exact h0|exact hn _|exact pb2 h0 (iM ..) (iM ..) fun v=>by(repeat' split)<;>first|exact h0|exact hn _
 |lookup ty m i ok =>
  have e1:=hx m (by simp[Op.operands]);have e2:=hx i (by simp[Op.operands]);have hsa:=hs rfl m (by simp[Op.operands]);simp only[opK,e1,e2];rw[abc hsa];exact pb2 h0 (mn ..) (mn ..) fun v=>hn v
 |extract x i =>
  have e:=hx x (by simp[Op.operands]);simp only[opK,e]
  (repeat' split)<;>first|exact h0|exact hn _
 |call c =>
  obtain⟨callee,args,tys⟩:=c
  cases callee with
  |builtin b =>
   have e:=Ui (l:=args.toList) (t:=t) (t2:=t2) fun x hm=>hx x (by simpa[Op.operands,Call.operands] using hm);have hsa:cls E (.call ⟨.builtin b,args,tys⟩)=1→∀x∈args.toList,∀id∈refs1 (ev t x),lkB h2 id=lkB h id:=fun h1 x hm=>hs h1 x (by simpa[Op.operands,Call.operands] using hm);generalize hl:args.toList=l at e hsa;generalize hm:tys.toList=m
   cases b with
   |append=>simp[cls] at hcl
   |clear=>simp[cls] at hcl
   |len =>
    rcases l with _|⟨x,_|⟨y,l⟩⟩<;>rcases m with _|⟨ty,m⟩<;>simp only[opK,hl,hm]<;>try exact h0
    have e1:ev t2 x=ev t x:=by simpa using e
    rw[e1,ajb (hsa rfl x (by simp))];exact pb2 h0 (zW ..) (zW ..) fun v=>hn v
   |cap =>
    rcases l with _|⟨x,_|⟨y,l⟩⟩<;>rcases m with _|⟨ty,m⟩<;>simp only[opK,hl,hm]<;>try exact h0
    have e1:ev t2 x=ev t x:=by simpa using e
    rw[e1]
    (repeat' split)<;>first|exact h0|exact hn _
   |min =>
    rcases l with _|⟨x,l⟩<;>simp only[opK,hl,hm]<;>try exact h0
    simp only[ew,List.cons.injEq] at e;rw[e.1,e.2];exact pb2 h0 (iz _ _ _ _) (iz _ _ _ _) fun v=>hn v
   |max =>
    rcases l with _|⟨x,l⟩<;>simp only[opK,hl,hm]<;>try exact h0
    simp only[ew,List.cons.injEq] at e;rw[e.1,e.2];exact pb2 h0 (iz _ _ _ _) (iz _ _ _ _) fun v=>hn v
   |_=>simp only[opK]; (repeat' split)<;>first|exact h0|contradiction
  |value f=>cases hcall
  |invoke r m=>exact h0
 |store=>simp[cls] at hcl
 |mapUpdate=>simp[cls] at hcl
 |_=>exact h0
def aps (ups:List (Nat×Blk)) (h:List Blk):List Blk:=ups.foldl (fun h p=>č h p.1 p.2) h
def aks {id:Nat} {B:Blk}:aps [(id,B)] h=č h id B:=rfl
def AB {u v:List (Nat×Blk)}:aps (u++v) h=aps v (aps u h):=by simp[aps]
def Ju:∀(ups:List (Nat×Blk)) (h:List Blk),(aps ups h).length=h.length
 |[],_=>rfl
 |p::ups,h=>by show(aps ups (č h p.1 p.2)).length=_; rw[Ju ups,Û]
def Vh {id:Nat}:∀{ups:List (Nat×Blk)} {h:List Blk},(∀p∈ups,p.1≠id)→lkB (aps ups h) id=lkB h id
 |[],_,_=>rfl
 |p::ups,h,hn=>by
  show lkB (aps ups (č h p.1 p.2)) id=_;rw[Vh fun q hq=>hn q (by simp[hq]),ù _ (Ne.symm (hn p (by simp)))]
def HF {id:Nat}:∀{ups:List (Nat×Blk)} {h h2:List Blk},h2.length=h.length→lkB h2 id=lkB h id→lkB (aps ups h2) id=lkB (aps ups h) id
 |[],_,_,_,he=>he
 |p::ups,h,h2,hl,he=>HF (ups:=ups) (h:=č h p.1 p.2) (h2:=č h2 p.1 p.2) (by simp[Û,hl]) (by simp only[M5,hl,he])
def afz {v:AV} (hs:∀id∈Į v,lkB h2 id=lkB h id):∃ups,wP h v=aps ups h∧wP h2 v=aps ups h2∧∀p∈ups,p.1∈Į v:=by
 have no:wP h v=h→wP h2 v=h2→∃ups,wP h v=aps ups h∧wP h2 v=aps ups h2∧∀p∈ups,p.1∈Į v:=fun h1 h2'=>⟨[],h1,h2',by simp⟩
 cases v with
 |own id g =>
  have e:=hs id (by simp[Į])
  cases hl:lkB h id with
  |row t g fz xs =>
   rw[hl] at e;exact⟨[(id,.row t g true xs)],by simp only[wP,hl]; rfl,by simp only[wP,e]; rfl,by simp[Į]⟩
  |_=>rw[hl] at e; exact no (by simp only[wP,hl]) (by simp only[wP,e])
 |sub id g lo n =>
  have e:=hs id (by simp[Į])
  cases hl:lkB h id with
  |row t g fz xs =>
   rw[hl] at e;exact⟨[(id,.row t g true xs)],by simp only[wP,hl]; rfl,by simp only[wP,e]; rfl,by simp[Į]⟩
  |_=>rw[hl] at e; exact no (by simp only[wP,hl]) (by simp only[wP,e])
 |_=>exact no rfl rfl
def XY:∀{cs:List AV} {h h2:List Blk},h2.length=h.length→(∀c∈cs,∀id∈Į c,lkB h2 id=lkB h id)→∃ups,zY h cs=aps ups h∧zY h2 cs=aps ups h2∧∀p∈ups,∃c∈cs,p.1∈Į c
 |[],_,_,_,_=>⟨[],rfl,rfl,by simp⟩
 |c::cs,h,h2,hl,hs=>by
  obtain⟨u,h1,h2',h3⟩:=afz (hs c (by simp));obtain⟨v,h4,h5,h6⟩:=XY (cs:=cs) (h:=wP h c) (h2:=wP h2 c) (by rw[vA,vA,hl]) (fun d hd id hi=>by rw[h1,h2']; exact HF hl (hs d (by simp[hd]) id hi));refine⟨u++v,by simp only[zY]; rw[h4,h1,AB],by simp only[zY]; rw[h5,h2',AB],fun p hp=>?_⟩;rcases cQ.1 hp with hp|hp
  ·exact⟨c,by simp,h3 p hp⟩
  ·obtain⟨d,hd,hi⟩:=h6 p hp;exact⟨d,by simp[hd],hi⟩
def ajr {v:AV} (hl:h2.length=h.length) (hs:∀id∈refs1 v,lkB h2 id=lkB h id):∃ups,frz h v=aps ups h∧frz h2 v=aps ups h2∧∀p∈ups,p.1∈refs1 v:=by
 have one:(∀id∈Į v,lkB h2 id=lkB h id)→∃ups,wP h v=aps ups h∧wP h2 v=aps ups h2∧∀p∈ups,p.1∈Į v:=afz
 cases v with
 |agg cs =>
  obtain⟨u,h1,h2',h3⟩:=XY (cs:=cs) hl fun c hc id hi=>hs id (dn.2 ⟨c,hc,hi⟩);exact⟨u,h1,h2',fun p hp=>dn.2 (h3 p hp)⟩
 |fn f a b =>
  obtain⟨u,h1,h2',h3⟩:=one fun _ hi=>by cases hi
  exact⟨u,h1,h2',fun p hp=>by cases h3 p hp⟩
 |_=>exact one hs
def J5 {ty:Ty} {x:AV} (hs:∀id∈refs1 x,lkB h2 id=lkB h id):æ (.slice ty) [Ā h2 x]=æ (.slice ty) [Ā h x]:=by
 have:Ā h2 x=Ā h x:=oL fun id hi=>hs id (by cases x<;>first|exact hi|simp[Į] at hi)
 rw[this]
def ahf {v:AV} {vs:List AV} (hc:ş v=some vs):∀c∈vs,∀id∈Į c,id∈refs1 v:=by
 intro c hm id hi
 cases v<;>simp only[ş,Option.some.injEq,reduceCtorEq] at hc<;>subst hc
 all_goals first
  |(simp only[cY] at hm; subst hm; exact hi)
  |(simp only[cY] at hm; subst hm; cases hi; done)
  |exact dn.2 ⟨c,hm,hi⟩
def YU {σ σ2:Type} {R:Option σ→Option σ2→Prop} {ty:TypeId} {a v:AV} {K:List Blk→Option σ} {K2:List Blk→Option σ2} (h0:R none none) (hlen:h2.length=h.length)
 (s1:∀id∈refs1 a,lkB h2 id=lkB h id) (s2:∀id∈refs1 v,lkB h2 id=lkB h id) (hK:∀ups,(∀p∈ups,p.1∈refs1 a∨p.1∈refs1 v)→R (K (aps ups h)) (K2 (aps ups h2))):R (we P h ty a v K) (we P h2 ty a v K2):=by
 unfold we
 split<;>try exact h0
 rename_i vs hvs
 split<;>try exact h0
 split<;>try exact h0
 ·rename_i id off;have e3:=s1 id (by simp[refs1,Į]);rw[e3]
  (repeat' split)<;>first
   |exact h0
   |exact hK [(id,_)] fun p hp=>.inl (by simp only[cY] at hp; subst hp; simp[refs1,Į])
 ·rename_i id g i off;have e3:=s1 id (by simp[refs1,Į]);obtain⟨u,f1,f2,f3⟩:=ajr (v:=v) hlen s2
  have e4:lkB (frz h2 v) id=lkB (frz h v) id:=by rw[f1,f2]; exact HF hlen e3
  have e5:vs.map (Ā h2)=vs.map (Ā h):=eZ fun c hc=>oL fun id hi=>s2 id (ahf hvs c hc id hi);rw[e4,e5]
  (repeat' split)<;>first
   |exact h0
   | (rw [f1, f2]
      refine hK (u++[(id,_)]) (fun p hp=>?_) |> fun q=>(by simpa only[AB,aks] using q)
      rcases cQ.1 hp with hp|hp
      ·exact .inr (f3 p hp)
      ·exact .inl (by simp only[cY] at hp; subst hp; simp[refs1,Į]))
 ·rename_i id g i j;have e3:=s1 id (by simp[refs1,Į]);rw[e3]
  (repeat' split)<;>first
   |exact h0
   |exact hK [(id,_)] fun p hp=>.inl (by simp only[cY] at hp; subst hp; simp[refs1,Į])
def anD {σ σ2:Type} {R:Option σ→Option σ2→Prop} {E:Env ρ} {o:Op} {nid:Nat} {eat:Bool} {K:AV→St→Option σ} {K2:AV→St→Option σ2} (h0:R none none) (hcl:cls E o=2) (hcall:abl o=false) (hlen:h2.length=h.length)
 (hx:∀x∈o.operands.toList,ev t2 x=ev t x) (hs:∀x∈o.operands.toList,∀id∈refs1 (ev t x),lkB h2 id=lkB h id)
 (hK:∀v ups,(∀p∈ups,(p.1=nid∧Ď E.clone o=true)∨∃x∈o.operands.toList,p.1∈refs1 (ev t x))→R (K v {t:=t,h:=aps ups h}) (K2 v {t:=t2,h:=aps ups h2})) :
 R (opK P {t:=t,h:=h} nid eat o K) (opK P {t:=t2,h:=h2} nid eat o K2):=by
 cases o with
 |store ty a v =>
  have e1:=hx a (by simp[Op.operands]);have e2:=hx v (by simp[Op.operands]);have s1:=hs a (by simp[Op.operands]);have s2:=hs v (by simp[Op.operands]);have ma:∀{id:Nat},id∈refs1 (ev t a)→∃x∈(Op.store ty a v).operands.toList,id∈refs1 (ev t x):=fun hi=>⟨a,by simp[Op.operands],hi⟩;have mv:∀{id:Nat},id∈refs1 (ev t v)→∃x∈(Op.store ty a v).operands.toList,id∈refs1 (ev t x):=fun hi=>⟨v,by simp[Op.operands],hi⟩;simp only[opK,e1,e2]
  cases eat with
  |false =>
   simp only;exact YU h0 hlen s1 s2 fun ups hu=>hK _ ups fun p hp=>.inr ((hu p hp).elim ma mv)
  |true =>
   simp only
   cases hv:ev t v with
   |sub id g lo n =>
    rw[hv] at s2 mv;have e3:=s2 id (by simp[refs1,Į]);simp only[e3]
    split<;>try exact h0
    split<;>try exact h0
    refine YU h0 (by simp[Û,hlen]) (fun j hj=>?_) (fun j hj=>?_) fun ups hu=>hK _ ((id,_)::ups) fun p hp=>.inr ?_
    ·exact HF (ups:=[(id,_)]) hlen (s1 j hj)
    ·simp only[refs1,Į,cY] at hj;subst hj;exact HF (ups:=[(_,_)]) hlen e3
    ·rcases cW.1 hp with rfl|hp
     ·exact mv (by simp[refs1,Į])
     ·rcases hu p hp with hu|hu
      ·exact ma hu
      ·exact mv (by simpa[refs1,Į] using hu)
   |_=>exact h0
 |mapUpdate ty m i x =>
  have e1:=hx m (by simp[Op.operands]);have e2:=hx i (by simp[Op.operands]);have e3:=hx x (by simp[Op.operands]);have s1:=hs m (by simp[Op.operands]);have s3:=hs x (by simp[Op.operands]);obtain⟨u,f1,f2,f3⟩:=ajr (v:=ev t x) hlen s3;simp only[opK,e1,e2,e3];unfold kv;rw[Nz s3]
  split<;>try exact h0
  split<;>try exact h0
  rename_i id hm;rw[hm] at s1;rw[s1 id (by simp[refs1,Į])]
  (repeat' split)<;>first
   |exact h0
   | (rw [f1, f2]
      refine hK _ (u++[(id,_)]) (fun p hp=>?_) |> fun q=>(by simpa only[AB,aks] using q)
      rcases cQ.1 hp with hp|hp
      ·exact .inr ⟨x,by simp[Op.operands],f3 p hp⟩
      ·exact .inr ⟨m,by simp[Op.operands],by simp only[cY] at hp; subst hp; rw[hm]; simp[refs1,Į]⟩)
 |call c =>
  obtain⟨callee,args,tys⟩:=c
  cases callee with
  |builtin b =>
   have e:=Ui (l:=args.toList) (t:=t) (t2:=t2) fun x hm=>hx x (by simpa[Op.operands,Call.operands] using hm);have hsa:∀x∈args.toList,∀id∈refs1 (ev t x),lkB h2 id=lkB h id:=fun x hm=>hs x (by simpa[Op.operands,Call.operands] using hm)
   have hmem:∀x∈args.toList,x∈(Op.call ⟨.builtin b,args,tys⟩).operands.toList:=fun x hm=>by simpa[Op.operands,Call.operands] using hm
   generalize hl:args.toList=l at e hsa hmem;generalize hm:tys.toList=m
   cases b with
   |append =>
    rcases l with _|⟨x,_|⟨y,_|⟨z,l⟩⟩⟩<;>rcases m with _|⟨ty,_|⟨ty',_|⟨ty'',m⟩⟩⟩<;>simp only[opK,hl,hm]<;>try exact h0
    simp only[ew,List.cons.injEq,ff,and_true] at e;rw[e.1,e.2];have sx:=hsa x (by simp);have sy:=hsa y (by simp);have hnew:∀v B,R (K v {t:=t,h:=č h nid B}) (K2 v {t:=t2,h:=č h2 nid B}):=fun v B=>hK v [(nid,B)] fun p hp=>.inl ⟨by simp only[cY] at hp; subst hp; rfl,rfl⟩
    (repeat' split)<;>first
     |exact h0
     | (unfold zz
        simp only[J5 sy]
        split<;>try exact h0
        split<;>try exact h0
        split<;>try exact h0
        split<;>try exact h0
        split<;>try exact h0
        ·split<;>first|exact h0|exact hnew _ _
        ·rename_i id g hv;rw[hv] at sx;rw[sx id (by simp[refs1,Į])]
         (repeat' split)<;>first
          |exact h0
          |exact hK _ [(id,_)] fun p hp=>.inr ⟨x,hmem x (by simp),by simp only[cY] at hp; subst hp; rw[hv]; simp[refs1,Į]⟩)
     | (rename_i id2 g2 hdp
        rw[hdp] at sy;have my:∃q∈(Op.call ⟨.builtin .append,args,tys⟩).operands.toList,id2∈refs1 (ev t q):=⟨y,hmem y (by simp),by rw[hdp]; simp[refs1,Į]⟩;unfold abK;rw[sy id2 (by simp[refs1,Į])]
        split<;>try exact h0
        split<;>try exact h0
        split<;>try exact h0
        split<;>try exact h0
        split<;>try exact h0
        ·split<;>first
          |exact h0
          |exact hK _ [(id2,_),(nid,_)] fun p hp=>by
             simp only[cW,fA,or_false] at hp;rcases hp with rfl|rfl
             ·exact .inr my
             ·exact .inl ⟨rfl,rfl⟩
        ·rename_i id g hv;rw[hv] at sx;have mx:∃q∈(Op.call ⟨.builtin .append,args,tys⟩).operands.toList,id∈refs1 (ev t q):=⟨x,hmem x (by simp),by rw[hv]; simp[refs1,Į]⟩;rw[sx id (by simp[refs1,Į])]
         (repeat' split)<;>first
          |exact h0
          |exact hK _ [(id2,_),(id,_)] fun p hp=>by
             simp only[cW,fA,or_false] at hp;rcases hp with rfl|rfl
             ·exact .inr my
             ·exact .inr mx)
     | (unfold J3
        (repeat' split)<;>first|exact h0|exact hnew _ _)
   |clear =>
    rcases l with _|⟨x,_|⟨y,l⟩⟩<;>rcases m with _|⟨ty,_|⟨ty',m⟩⟩<;>simp only[opK,hl,hm]<;>try exact h0
    simp only[ew,List.cons.injEq,ff,and_true] at e;rw[e];have sx:=hsa x (by simp)
    split<;>try exact h0
    unfold Lq
    split<;>try exact h0
    ·exact hK _ [] (by simp)
    ·rename_i id g lo n _ hv _;rw[hv] at sx;rw[sx id (by simp[refs1,Į])]
     (repeat' split)<;>first
      |exact h0
      |exact hK _ [(id,_)] fun p hp=>.inr ⟨x,hmem x (by simp),by simp only[cY] at hp; subst hp; rw[hv]; simp[refs1,Į]⟩
   |_=>simp[cls] at hcl
  |value f=>cases hcall
  |invoke r m=>simp[cls] at hcl
 |_=>simp[cls] at hcl
end
end Go.Am
end

noncomputable section
namespace Go.Am
variable [ó]
section
variable {ρ:Type} {P:Program} {h h2:List Blk} {t t2:List AV}
def ab9 {ty:Ty} {a:AV} (hs:nv h h2 a):akS h2 ty a=akS h ty a:=by
 have hsn:aeR h2 a=aeR h a:=Nz hs.one
 cases ty with
 |ptr u =>
  cases a with
  |box id off =>
   cases off with
   |zero =>
    have h1:lkB h2 id=lkB h id:=hs.one id (by simp[refs1,Į]);simp only[akS,h1]
    cases hl:lkB h id with
    |cells cs =>
     simp only
     have:cs.map (Ā h2)=cs.map (Ā h):=eZ fun c hc=>oL fun i hi=>hs i (by
      simp only[refs2,cQ,dn]
      exact .inr ⟨id,by simp[refs1,Į],by rw[hl]; exact⟨c,hc,hi⟩⟩)
     rw[this]
    |_=>rfl
   |succ n=>rfl
  |eptr t' x off=>cases off<;>rfl
  |_=>rfl
 |_=>cases a with
  |dp id g =>
   have h1:lkB h2 id=lkB h id:=hs.one id (by simp[refs1,Į]);simp only[akS,h1]
  |_=>simp only[akS,hsn]
def Vf:∀{l:List Ty} {ty:Ty} {as:List AV},(∀a∈as,nv h h2 a)→Yt h2 l ty as=Yt h l ty as
 |[],ty,[],_=>rfl
 |[],ty,[a],hs=>by simp only[Yt]; exact ab9 (hs a (by simp))
 |[],ty,_::_::_,_=>rfl
 |u::l,ty,[],_=>rfl
 |u::l,ty,a::as,hs=>by
  simp only[Yt];rw[ab9 (hs a (by simp)),Vf fun b hb=>hs b (by simp[hb])]
def Vg {l:List Ty} {as:List AV} (hs:∀a∈as,nv h h2 a):HE h2 l as=HE h l as:=by
 cases l with
 |nil=>rfl
 |cons ty l=>exact Vf hs
def adY {E:Env ρ} {o:Op} (hx:∀x∈o.operands.toList,ev t2 x=ev t x):QV E t2 o=QV E t o:=by
 unfold QV
 split
 ·rename_i ty n ps;rw[dJ];simp only[dz];refine forall_congr' fun p=>forall_congr' fun hm=>?_;rw[hx p.2 (by simpa[Op.operands] using⟨p.1,by simpa using hm⟩)]
 ·rename_i s args tys;rw[hx (.tmp s) (by simp[Op.operands,Call.operands])]
 ·rfl
def adX {E:Env ρ} {o:Op} (hx:∀x∈o.operands.toList,ev t2 x=ev t x) (hs:1≤cls E o→∀x∈o.operands.toList,nv h h2 (ev t x)) :
 pS E {t:=t2,h:=h2} o=pS E {t:=t,h:=h} o:=by
 unfold pS
 split
 ·rename_i hc;have hc1:1≤cls E o:=fG hc
  have h1:(o.operands.toList.all fun x=>(refs2 h2 (ev t2 x)).all fun id=>!ajh (lkB h2 id))=o.operands.toList.all fun x=>(refs2 h (ev t x)).all fun id=>!ajh (lkB h id):=by
   rw[dJ];simp only[dz];refine forall_congr' fun x=>forall_congr' fun hm=>?_;rw[hx x hm,(hs hc1 x hm).refs]
   exact forall_congr' fun id=>forall_congr' fun hi=>by rw[hs hc1 x hm id hi]
  exact congr (congrArg and h1) (adY hx)
 ·rfl
def oy {E:Env ρ} {o:Op} (hc:1≤cls E o) {id:Nat}:id∈DS E {t:=t,h:=h} o↔∃x∈o.operands.toList,id∈refs2 h (ev t x):=by
 unfold DS;have:Nat.ble 1 (cls E o)=true:=Nat.ble_eq_true_of_le hc;simp only[this,List.mem_flatMap]
def ajt {E:Env ρ} {o:Op} (hc:cls E o=0) {S:St}:DS E S o=[]:=by
 unfold DS; rw[hc]
def Loc (E:Env ρ) (o:Op) (nid:Nat) (t:List AV) (h:List Blk) (t2:List AV) (h2:List Blk) (z z2:(AV→St→Option ρ)→Option ρ):Prop :=
 ∃φ:Option (AV×List (Nat×Blk)),(∀r,φ=some r→∀p∈r.2,(p.1=nid∧Ď E.clone o=true)∨(cls E o=2∧p.1∈DS E {t:=t,h:=h} o)) ∧
  (∀K,z K=φ.bind fun r=>K r.1 {t:=t,h:=aps r.2 h})∧∀K,z2 K=φ.bind fun r=>K r.1 {t:=t2,h:=aps r.2 h2}
def Loc.no {E:Env ρ} {o:Op} {nid:Nat} {z z2:(AV→St→Option ρ)→Option ρ} (h1:∀K,z K=none) (h2':∀K,z2 K=none):Loc E o nid t h t2 h2 z z2 :=
 ⟨none,by simp,fun K=>by rw[h1]; rfl,fun K=>by rw[h2']; rfl⟩
def ajQ {σ σ2:Type} {R:Option σ→Option σ2→Prop} {g nid:Nat} {fz:Bool} {x:AV} {K:AV→St→Option σ} {K2:AV→St→Option σ2} (h0:R none none) (hs:∀id∈refs1 x,lkB h2 id=lkB h id)
 (hK:∀v ef,R (K v {t:=t,h:=ap nid ef h}) (K2 v {t:=t2,h:=ap nid ef h2})):R (zq P g fz {t:=t,h:=h} nid x K) (zq P g fz {t:=t2,h:=h2} nid x K2):=by
 simp only[zq,J5 hs]
 (repeat' split)<;>first|exact h0|exact hK _ none|exact hK _ (some _)
def efU (nid:Nat):Option Blk→List (Nat×Blk)
 |none=>[]
 |some B=>[(nid,B)]
def af1 {nid:Nat} {ef:Option Blk}:ap nid ef h=aps (efU nid ef) h:=by cases ef<;>rfl
def anp {E:Env ρ} {call:List Nat→Bool→Nat→List AV→List Blk→(AV→List Blk→Option ρ)→Option ρ} {fid:Nat} {path:List Nat} {nid:Nat} {o:Oper}
 (hpe:akK E call) (hcl:cls E o.op≤2) (hlen:h2.length=h.length) (hx:∀x∈o.op.operands.toList,ev t2 x=ev t x) (hs:1≤cls E o.op→∀x∈o.op.operands.toList,nv h h2 (ev t x)) :
 Loc E o.op nid t h t2 h2 (jF E call fid path true {t:=t,h:=h} nid o) (jF E call fid path true {t:=t2,h:=h2} nid o):=by
 have hwf:=adX hx hs
 cases hw:pS E {t:=t,h:=h} o.op with
 |false=>exact .no (fun K=>by simp[jF,hw]) (fun K=>by simp[jF,hwf,hw])
 |true =>
  rw[hw] at hwf
  have plain:(∀f args tys,o.op≠.call ⟨.value f,args,tys⟩)→Loc E o.op nid t h t2 h2 (jF E call fid path true {t:=t,h:=h} nid o) (jF E call fid path true {t:=t2,h:=h2} nid o):=by
   intro hno
   have hr:∀S:St,pS E S o.op=true→∀K,jF E call fid path true S nid o K=opK E.P S nid (adW E true fid o) o.op K:=fun S hS K=>by
    unfold jF;simp only[hS,Bool.not_true,Bool.and_false,Bool.false_and]
   have hcall:abl o.op=false:=by
    cases ho:o.op<;>try rfl
    rename_i c;obtain⟨f,args,tys⟩:=c
    cases f<;>first|rfl|exact absurd ho (hno _ _ _)
   have fin:(∃φ:Option (AV×List (Nat×Blk)),(∀r,φ=some r→∀p∈r.2,(p.1=nid∧Ď E.clone o.op=true)∨(cls E o.op=2∧p.1∈DS E {t:=t,h:=h} o.op)) ∧
    opK E.P {t:=t,h:=h} nid (adW E true fid o) o.op (fun v S=>some (v,S))=φ.map (fun r=>(r.1,({t:=t,h:=aps r.2 h}:St)))∧opK E.P {t:=t2,h:=h2} nid (adW E true fid o) o.op (fun v S=>some (v,S))=φ.map fun r=>(r.1,({t:=t2,h:=aps r.2 h2}:St))) →
    Loc E o.op nid t h t2 h2 (jF E call fid path true {t:=t,h:=h} nid o) (jF E call fid path true {t:=t2,h:=h2} nid o):=by
    rintro⟨φ,h1,h2',h3⟩;refine⟨φ,h1,fun K=>?_,fun K=>?_⟩
    ·rw[hr _ hw,acT]; unfold opR; rw[h2']; cases φ<;>rfl
    ·rw[hr _ hwf,acT]; unfold opR; rw[h3]; cases φ<;>rfl
   apply fin
   by_cases h2c:cls E o.op=2
   ·refine anD (P:=E.P) (E:=E) (o:=o.op) (nid:=nid) (σ:=AV×St) (σ2:=AV×St) (K:=fun v S=>some (v,S)) (K2:=fun v S=>some (v,S))
     (R:=fun x y=>∃φ:Option (AV×List (Nat×Blk)),(∀r,φ=some r→∀p∈r.2,(p.1=nid∧Ď E.clone o.op=true)∨(cls E o.op=2∧p.1∈DS E {t:=t,h:=h} o.op))∧x=φ.map (fun r=>(r.1,({t:=t,h:=aps r.2 h}:St)))∧y=φ.map fun r=>(r.1,({t:=t2,h:=aps r.2 h2}:St)))
     ⟨none,by simp,rfl,rfl⟩ h2c hcall hlen hx (fun x hm=>(hs (by omega) x hm).one) fun v ups hu=>⟨some (v,ups),fun r hr' p hp=>?_,rfl,rfl⟩
    cases hr';rcases hu p hp with hu|⟨x,hm,hi⟩
    ·exact .inl hu
    ·exact .inr ⟨h2c,(oy (by omega)).2 ⟨x,hm,by simp only[refs2,cQ]; exact .inl hi⟩⟩
   ·have hea:adW E true fid o=false:=by
     unfold adW
     cases ho:o.op<;>first|rfl|(exfalso; apply h2c; rw[ho]; rfl)
    rw[hea]
    have hb:∀ty n ps,o.op=.buildSlice ty n ps→ps.toList.all (fun p=>!tW (ev t p.2))=true:=fun ty n ps ho=>by
     have h1:=hw;unfold pS at h1;rw[ho] at h1;have hb1:Nat.ble 1 (cls E (.buildSlice ty n ps))=true:=rfl;simp only[hb1,Bool.and_eq_true,QV] at h1;exact h1.2
    refine op_par (P:=E.P) (E:=E) (o:=o.op) (nid:=nid) (σ:=AV×St) (σ2:=AV×St) (K:=fun v S=>some (v,S)) (K2:=fun v S=>some (v,S))
     (R:=fun x y=>∃φ:Option (AV×List (Nat×Blk)),(∀r,φ=some r→∀p∈r.2,(p.1=nid∧Ď E.clone o.op=true)∨(cls E o.op=2∧p.1∈DS E {t:=t,h:=h} o.op))∧x=φ.map (fun r=>(r.1,({t:=t,h:=aps r.2 h}:St)))∧y=φ.map fun r=>(r.1,({t:=t2,h:=aps r.2 h2}:St)))
     ⟨none,by simp,rfl,rfl⟩ (by omega) hcall hx (fun h1 x hm=>(hs (by omega) x hm).one) hb fun v ef hef=>⟨some (v,efU nid ef),fun r hr' p hp=>?_,by rw[af1]; rfl,by rw[af1]; rfl⟩
    cases hr'
    cases ef with
    |none=>cases hp
    |some B =>
     simp only[efU,cY] at hp;subst hp;exact .inl ⟨rfl,hef rfl⟩
  cases ho:o.op with
  |call c =>
   obtain⟨f,args,tys⟩:=c
   cases f with
   |value f =>
    cases f with
    |func g =>
     rw[ho] at hx hs hcl;have hxa:∀x∈args.toList,ev t2 x=ev t x:=fun x hm=>hx x (by simp[Op.operands,Call.operands]; exact .inr (by simpa using hm))
     have hmem:∀x∈args.toList,x∈(Op.call ⟨.value (.func g),args,tys⟩).operands.toList:=fun x hm=>by simp[Op.operands,Call.operands]; exact .inr (by simpa using hm)
     have he:=Ui hxa
     cases hc:E.clone g with
     |true =>
      have hcls:cls E (.call ⟨.value (.func g),args,tys⟩)=1:=by simp[cls,hc]
      have hr:∀(S:St),pS E S o.op=true→∀K,jF E call fid path true S nid o K=match args.toList with
       |[x]=>zq E.P g (E.eat fid (o.dst.getD 0)) S nid (ev S.t x) K
       |_=>none:=fun S hS K=>by
       unfold jF;simp only[hS,Bool.not_true,Bool.and_false];rw[ho];simp only[ev,hc,alO,Bool.and_self];rfl
      generalize hl:args.toList=l at hr he hxa hmem;rcases l with _|⟨x,_|⟨y,l⟩⟩
      ·exact .no (fun K=>hr _ hw K) (fun K=>hr _ hwf K)
      ·have hsx:=(hs (by omega) x (hmem x (by simp))).one;have e1:=hxa x (by simp)
       obtain⟨φ,h1,h2',h3⟩:=ajQ (P:=E.P) (g:=g) (fz:=E.eat fid (o.dst.getD 0)) (nid:=nid) (t:=t) (t2:=t2) (σ:=AV×St) (σ2:=AV×St) (K:=fun v S=>some (v,S)) (K2:=fun v S=>some (v,S))
        (R:=fun x y=>∃φ:Option (AV×List (Nat×Blk)),(∀r,φ=some r→∀p∈r.2,p.1=nid)∧x=φ.map (fun r=>(r.1,({t:=t,h:=aps r.2 h}:St)))∧y=φ.map fun r=>(r.1,{t:=t2,h:=aps r.2 h2}))
        ⟨none,by simp,rfl,rfl⟩ hsx fun v ef=>⟨some (v,efU nid ef),fun r hr' p hp=>by
         cases hr'
         cases ef with
         |none=>cases hp
         |some B=>simp only[efU,cY] at hp; rw[hp],by rw[af1]; rfl,by rw[af1]; rfl⟩
       refine⟨φ,fun r hr' p hp=>.inl ⟨h1 r hr' p hp,by simpa[Ď] using hc⟩,fun K=>?_,fun K=>?_⟩
       ·rw[hr _ hw];simp only;rw[JO,h2']
        cases φ<;>rfl
       ·rw[hr _ hwf];simp only[e1];rw[JO,h3]
        cases φ<;>rfl
      ·exact .no (fun K=>hr _ hw K) (fun K=>hr _ hwf K)
     |false =>
      have hr:∀(S:St),pS E S o.op=true→∀K,jF E call fid path true S nid o K=call path true g (args.toList.map (ev S.t)) S.h fun v h=>K v {t:=S.t,h:=h}:=fun S hS K=>by
       unfold jF;simp only[hS,Bool.not_true,Bool.and_false];rw[ho];simp only[ev,hc,alO,Bool.false_and,List.nil_append,List.append_nil]
      rcases hpe with hpe|⟨hpe,hse,hce⟩
      ·exact .no (fun K=>by rw[hr _ hw]; exact hpe _ _ _ _ _ _) (fun K=>by rw[hr _ hwf]; exact hpe _ _ _ _ _ _)
      cases hp:E.pure g with
      |none =>
       have h1c:1≤cls E (.call ⟨.value (.func g),args,tys⟩):=by simp only[cls,hc,hp]; cases E.sort g<;>cases E.compact g<;>simp
       have row:∀(f:List Blk→AV→(AV→List Blk→Option ρ)→Option ρ),(∀S K,pS E S o.op=true→jF E call fid path true S nid o K=match args.toList.map (ev S.t) with|[x]=>f S.h x fun v h=>K v {t:=S.t,h:=h}|_=>none)→cls E (.call ⟨.value (.func g),args,tys⟩)=2 →
        (∀x,(∀id∈refs1 x,lkB h2 id=lkB h id)→∃φ:Option (AV×List (Nat×Blk)),(∀r,φ=some r→∀p∈r.2,p.1∈refs1 x)∧(∀K,f h x K=φ.bind fun r=>K r.1 (aps r.2 h))∧∀K,f h2 x K=φ.bind fun r=>K r.1 (aps r.2 h2)) →
        Loc E (.call ⟨.value (.func g),args,tys⟩) nid t h t2 h2 (jF E call fid path true {t:=t,h:=h} nid o) (jF E call fid path true {t:=t2,h:=h2} nid o):=by
        intro f hf h2c hloc;generalize hl:args.toList=l at hf he hmem;rcases l with _|⟨x,_|⟨y,l⟩⟩
        ·exact .no (fun K=>hf _ K hw) (fun K=>hf _ K hwf)
        ·obtain⟨φ,q1,q2,q3⟩:=hloc (ev t x) (hs h1c x (hmem x (by simp))).one;refine⟨φ,fun r hr' p hp=>.inr ⟨h2c,(oy h1c).2 ⟨x,hmem x (by simp),by simp only[refs2,cQ]; exact .inl (q1 r hr' p hp)⟩⟩,fun K=>?_,fun K=>?_⟩
         ·rw[hf _ K hw];exact q2 _
         ·rw[hf _ K hwf];simp only[he];exact q3 _
        ·exact .no (fun K=>hf _ K hw) (fun K=>hf _ K hwf)
       cases hso:E.sort g with
       |true =>
        refine row Vo (fun S K hS=>(hr S hS K).trans (hse g hp hso path true _ S.h _)) (by simp[cls,hc,hp,hso]) fun x hx1=>?_;unfold Vo
        cases x with
        |own id g =>
         have e3:=hx1 id (by simp[refs1,Į]);simp only[e3]
         cases lkB h id with
         |row ty g' fz xs =>
          cases fz<;>simp only
          ·split
           ·split
            ·split
             ·exact⟨some (_,[(id,_)]),by simp[refs1,Į],fun K=>rfl,fun K=>rfl⟩
             ·exact⟨none,by simp,fun K=>rfl,fun K=>rfl⟩
            ·exact⟨none,by simp,fun K=>rfl,fun K=>rfl⟩
           ·exact⟨none,by simp,fun K=>rfl,fun K=>rfl⟩
          ·exact⟨none,by simp,fun K=>rfl,fun K=>rfl⟩
         |_=>exact⟨none,by simp,fun K=>rfl,fun K=>rfl⟩
        |nils=>exact⟨some (_,[]),by simp,fun K=>rfl,fun K=>rfl⟩
        |_=>exact⟨none,by simp,fun K=>rfl,fun K=>rfl⟩
       |false =>
        cases hco:E.compact g with
        |true =>
         refine row oE (fun S K hS=>(hr S hS K).trans (hce g hp hso hco path true _ S.h _)) (by simp[cls,hc,hp,hso,hco]) fun x hx1=>?_;unfold oE
         cases x with
         |own id g =>
          have e3:=hx1 id (by simp[refs1,Į]);simp only[e3]
          cases lkB h id with
          |row ty g' fz xs =>
           cases fz<;>simp only
           ·split
            ·split
             ·split
              ·exact⟨some (_,[(id,_)]),by simp[refs1,Į],fun K=>rfl,fun K=>rfl⟩
              ·exact⟨none,by simp,fun K=>rfl,fun K=>rfl⟩
             ·exact⟨none,by simp,fun K=>rfl,fun K=>rfl⟩
            ·exact⟨none,by simp,fun K=>rfl,fun K=>rfl⟩
           ·exact⟨none,by simp,fun K=>rfl,fun K=>rfl⟩
          |_=>exact⟨none,by simp,fun K=>rfl,fun K=>rfl⟩
         |nils=>exact⟨some (_,[]),by simp,fun K=>rfl,fun K=>rfl⟩
         |_=>exact⟨none,by simp,fun K=>rfl,fun K=>rfl⟩
        |false=>simp[cls,hc,hp,hso,hco] at hcl
      |some p =>
       have h1c:1≤cls E (.call ⟨.value (.func g),args,tys⟩):=by simp only[cls,hc,hp]; cases E.fz g<;>simp
       have hsa:∀a∈args.toList.map (ev t),nv h h2 a:=fun a ha=>by
        obtain⟨x,hm,rfl⟩:=dT.1 ha;exact hs h1c x (hmem x hm)
       obtain⟨u,f1,f2,f3⟩:=XY (cs:=(args.toList.map (ev t)).flatMap lH) hlen fun c hcm id hi=>by
        obtain⟨a,ha,hca⟩:=dn.1 hcm;refine(hsa a ha).one id ?_
        cases a<;>first
         |(simp only[lH,cY] at hca; subst hca; exact hi)
         |(simp only[lH,cY] at hca; subst hca; cases hi; done)
         |exact dn.2 ⟨c,hca,hi⟩
       have f3':∀q∈u,∃x∈args.toList,q.1∈refs2 h (ev t x):=fun q hq=>by
        obtain⟨c,hcm,hi⟩:=f3 q hq;obtain⟨a,ha,hca⟩:=dn.1 hcm;obtain⟨x,hm,rfl⟩:=dT.1 ha;refine⟨x,hm,?_⟩;simp only[refs2,cQ];left;generalize ev t x=a at hca
        cases a<;>first
         |(simp only[lH,cY] at hca; subst hca; exact hi)
         |(simp only[lH,cY] at hca; subst hca; cases hi; done)
         |exact dn.2 ⟨c,hca,hi⟩
       have hpk:∀(b:Bool) (h':List Blk),HE h' p.ts (args.toList.map (ev t))=HE h p.ts (args.toList.map (ev t))→zY h' ((args.toList.map (ev t)).flatMap lH)=aps u h'→∀(K:AV→List Blk→Option ρ),
        Vw b p h' (args.toList.map (ev t)) K=(match HE h p.ts (args.toList.map (ev t)) with
        |some x=>(p.F x).bind fun y=>match NG (acq p.rs y) with
         |true=>some (acq p.rs y,[])
         |false=>match (args.toList.map (ev t)).all (fun a=>!tW a) with
          |true=>some (acq p.rs y,[])
          |false=>match b||!(args.toList.map (ev t)).all aiF with
           |true=>none
           |false=>some (acq p.rs y,u)
        |none=>none).bind fun r=>K r.1 (aps r.2 h'):=fun b h' ha hf K=>by
        unfold Vw Ã;rw[ha,hf]
        cases HE h p.ts (args.toList.map (ev t)) with
        |none=>rfl
        |some x =>
         simp only
         cases p.F x with
         |none=>rfl
         |some y =>
          simp only[eD]
          cases NG (acq p.rs y) with
          |true=>rfl
          |false=>cases(args.toList.map (ev t)).all (fun a=>!tW a) with
           |true=>rfl
           |false=>cases b||!(args.toList.map (ev t)).all aiF<;>rfl
       refine⟨_,?_,fun K=>(hr _ hw K).trans ((hpe g p hp path true _ h _).trans (hpk (true&&!E.fz g) h rfl f1 _)),fun K=>(hr _ hwf K).trans (by simp only[he]; exact(hpe g p hp path true _ h2 _).trans (hpk (true&&!E.fz g) h2 (Vg hsa) f2 _))⟩;intro r hr1 q hq
       have hcase:r.2=[]∨(E.fz g=true∧r.2=u):=by
        cases hA:HE h p.ts (args.toList.map (ev t)) with
        |none=>rw[hA] at hr1; cases hr1
        |some x =>
         rw[hA] at hr1;simp only at hr1
         cases hF:p.F x with
         |none=>rw[hF] at hr1; cases hr1
         |some y =>
          rw[hF] at hr1;simp only[eD] at hr1
          split at hr1
          ·cases hr1; exact .inl rfl
          ·split at hr1
           ·cases hr1; exact .inl rfl
           ·split at hr1
            ·cases hr1
            ·rename_i hb;cases hr1;simp only[dQ,Bool.or_eq_false_iff,fk] at hb;exact .inr ⟨hb.1,rfl⟩
       rcases hcase with hz|⟨hfz,hz⟩
       ·rw[hz] at hq; cases hq
       ·rw[hz] at hq;obtain⟨x,hm,hi⟩:=f3' q hq;exact .inr ⟨by simp[cls,hc,hp,hfz],(oy h1c).2 ⟨x,hmem x hm,hi⟩⟩
    |tmp s =>
     rw[ho] at hx hs hcl
     obtain⟨g,hg⟩:∃g,E.hint s=some g:=by
      cases hh:E.hint s with
      |none=>simp[cls,hh] at hcl
      |some g=>exact⟨g,rfl⟩
     have hpf:(E.pure g).isSome=true∧E.fz g=false:=by
      simp only[cls,hg] at hcl
      split at hcl
      ·rename_i hb; simpa using hb
      ·omega
     obtain⟨hpg,hfz⟩:=hpf;obtain⟨p,hp⟩:=gA.1 hpg
     have hcls:cls E (.call ⟨.value (.tmp s),args,tys⟩)=1:=by simp[cls,hg,hp,hfz]
     have hmem:∀x∈args.toList,x∈(Op.call ⟨.value (.tmp s),args,tys⟩).operands.toList:=fun x hm=>by simp[Op.operands,Call.operands]; exact .inr (by simpa using hm)
     have hms:Operand.tmp s∈(Op.call ⟨.value (.tmp s),args,tys⟩).operands.toList:=by simp[Op.operands,Call.operands]
     have he:=Ui fun x hm=>hx x (hmem x hm)
     have hnf:QV E t (.call ⟨.value (.tmp s),args,tys⟩)=true:=by
      have h1:=hw;unfold pS at h1;rw[ho] at h1
      have hb1:Nat.ble 1 (cls E (.call ⟨.value (.tmp s),args,tys⟩))=true:=by rw[hcls]; rfl
      simp only[hb1,cM] at h1;exact h1.2
     simp only[QV,hg] at hnf
     split at hnf<;>try (cases hnf; done)
     rename_i g' fa fb hfn;simp only[cM,dz] at hnf;obtain⟨hgg,hna,hnb⟩:=hnf;have hgg:g'=g:=dc hgg;subst hgg;have hfn2:=(hx _ hms).trans hfn
     have hr:∀(S:St),pS E S o.op=true→ev S.t (.tmp s)=.fn (.func g') fa fb→∀K,jF E call fid path true S nid o K=call path true g' (fa++(args.toList.map (ev S.t)++fb)) S.h fun v h=>K v {t:=S.t,h:=h}:=fun S hS hSf K=>by
      unfold jF;simp only[hS,Bool.not_true,Bool.and_false];rw[ho];simp only[hSf,alO,Bool.and_false]
     rcases hpe with hpe|⟨hpe,hse,hce⟩
     ·exact .no (fun K=>by rw[hr _ hw hfn]; exact hpe _ _ _ _ _ _) (fun K=>by rw[hr _ hwf hfn2]; exact hpe _ _ _ _ _ _)
     have hcap:∀v,(v∈fa∨v∈fb)→anF v=true→nv h h2 v:=fun v hv hn id hi=>by
      refine hs (by omega) _ hms id ?_;rw[hfn]
      have e1:Go.Am.refs1 v=aik v:=by cases v<;>first|rfl|cases hn
      simp only[refs2,cQ,dn,e1] at hi ⊢
      have hsub:∀i,i∈aik v→i∈Go.Am.refs1 (.fn (.func g') fa fb):=fun i hi=>by
       simp only[Go.Am.refs1,cQ,dn];exact hv.imp (fun h=>⟨v,h,hi⟩) fun h=>⟨v,h,hi⟩
      rcases hi with hi|⟨i,hi,q⟩
      ·exact .inl (hsub _ hi)
      ·exact .inr ⟨i,hsub _ hi,q⟩
     have hsa:∀a∈fa++(args.toList.map (ev t)++fb),nv h h2 a:=fun a ha=>by
      rcases cQ.1 ha with ha|ha
      ·exact hcap a (.inl ha) (hna a ha)
      ·rcases cQ.1 ha with ha|ha
       ·obtain⟨x,hm,rfl⟩:=dT.1 ha;exact hs (by omega) x (hmem x hm)
       ·exact hcap a (.inr ha) (hnb a ha)
     have hpk:∀(h':List Blk),HE h' p.ts (fa++(args.toList.map (ev t)++fb))=HE h p.ts (fa++(args.toList.map (ev t)++fb))→∀(K:AV→List Blk→Option ρ),
      Vw (true&&!E.fz g') p h' (fa++(args.toList.map (ev t)++fb)) K=(match HE h p.ts (fa++(args.toList.map (ev t)++fb)) with
      |some x=>(p.F x).bind fun y=>match NG (acq p.rs y) with
       |true=>some (acq p.rs y,([]:List (Nat×Blk)))
       |false=>match (fa++(args.toList.map (ev t)++fb)).all (fun a=>!tW a) with
        |true=>some (acq p.rs y,[])
        |false=>none
      |none=>none).bind fun r=>K r.1 (aps r.2 h'):=fun h' ha K=>by
      unfold Vw Ã;rw[ha,hfz]
      cases HE h p.ts (fa++(args.toList.map (ev t)++fb)) with
      |none=>rfl
      |some x =>
       simp only
       cases p.F x with
       |none=>rfl
       |some y =>
        simp only[eD]
        cases NG (acq p.rs y) with
        |true=>rfl
        |false=>cases(fa++(args.toList.map (ev t)++fb)).all (fun a=>!tW a)<;>rfl
     refine⟨_,?_,fun K=>(hr _ hw hfn K).trans ((hpe g' p hp path true _ h _).trans (hpk h rfl _)),fun K=>(hr _ hwf hfn2 K).trans (by simp only[he]; exact(hpe g' p hp path true _ h2 _).trans (hpk h2 (Vg hsa) _))⟩;intro r hr1 q hq;exfalso
     cases hA:HE h p.ts (fa++(args.toList.map (ev t)++fb)) with
     |none=>rw[hA] at hr1; cases hr1
     |some x =>
      rw[hA] at hr1;simp only at hr1
      cases hF:p.F x with
      |none=>rw[hF] at hr1; cases hr1
      |some y =>
       rw[hF] at hr1;simp only[eD] at hr1
       split at hr1
       ·cases hr1; cases hq
       ·split at hr1<;>cases hr1
        cases hq
    |_=>rw[ho] at hcl; simp[cls] at hcl
   |_=>exact ho▸plain fun _ _ _ hf=>by rw[ho] at hf; cases hf
  |_=>exact ho▸plain fun _ _ _ hf=>by rw[ho] at hf; cases hf
def anj {l:List Operand} (ht:∀s∈TJ l,lk t2 s=lk t s):∀x∈l,ev t2 x=ev t x:=by
 induction l with
 |nil=>intro x hm; cases hm
 |cons y l ih =>
  intro x hm;rcases cW.1 hm with rfl|hm
  ·cases x with
   |tmp i=>exact ht i (by simp[TJ])
   |_=>rfl
  ·refine ih (fun s hs=>ht s ?_) x hm
   cases y<;>simp[TJ,hs]
def aeH:∀(t:List AV) {d d':Nat} (v v':AV),d≠d'→upd (upd t d v) d' v'=upd (upd t d' v') d v
 |[],_,_,_,_,_=>rfl
 |_::_,0,0,_,_,h=>absurd rfl h
 |_::_,0,_+1,_,_,_=>rfl
 |_::_,_+1,0,_,_,_=>rfl
 |x::t,d+1,d'+1,v,v',h=>by simp only[upd]; rw[aeH t v v' (by omega)]
def YP:∀(t:List Blk) {d d':Nat} (v v':Blk),d≠d'→č (č t d v) d' v'=č (č t d' v') d v
 |[],_,_,_,_,_=>rfl
 |_::_,0,0,_,_,h=>absurd rfl h
 |_::_,0,_+1,_,_,_=>rfl
 |_::_,_+1,0,_,_,_=>rfl
 |x::t,d+1,d'+1,v,v',h=>by simp only[č]; rw[YP t v v' (by omega)]
def acE {da db:Option Nat} (hd:∀x,da=some x→db≠some x) (va vb:AV):ě (ě t da va) db vb=ě (ě t db vb) da va:=by
 cases da with
 |none=>rfl
 |some x=>cases db with
  |none=>rfl
  |some y=>exact aeH t va vb fun h=>hd x rfl (by rw[h])
def NB {d:Option Nat} {s:Nat} (hd:d≠some s) (v:AV):lk (ě t d v) s=lk t s:=by
 cases d with
 |none=>rfl
 |some x =>
  simp only[ě,ai5];rw[if_neg];rintro⟨rfl,_⟩;exact hd rfl
def af0:∀{u v:List (Nat×Blk)} {h:List Blk},(∀p∈u,∀q∈v,p.1≠q.1)→aps v (aps u h)=aps u (aps v h)
 |[],_,_,_=>rfl
 |p::u,v,h,hn=>by
  show aps v (aps u (č h p.1 p.2))=aps u (č (aps v h) p.1 p.2);rw[af0 fun q hq=>hn q (by simp[hq])];congr 1
  have:∀(v:List (Nat×Blk)) (h:List Blk),(∀q∈v,p.1≠q.1)→aps v (č h p.1 p.2)=č (aps v h) p.1 p.2:=by
   intro v
   induction v with
   |nil=>intro h _; rfl
   |cons q v ih =>
    intro h hq;show aps v (č (č h p.1 p.2) q.1 q.2)=č (aps v (č h q.1 q.2)) p.1 p.2;rw[YP _ _ _ (hq q (by simp)),ih _ fun r hr=>hq r (by simp[hr])]
  exact this v h (hn p (by simp))
def jE (all:List Oper) (o:Oper) (t:List AV):Option Bool :=
 match o.guard with
 |none=>some true
 |some (j,want)=>match lk t (tz all j) with
  |.bool b=>some (b==want)
  |.und=>some false
  |_=>none
def DI (E:Env ρ) (all:List Oper) (o:Oper) (S:St):List Nat :=
 match jE all o S.t with
 |some true=>DS E S o.op
 |_=>[]
def LA (E:Env ρ) (call:List Nat→Bool→Nat→List AV→List Blk→(AV→List Blk→Option ρ)→Option ρ) (fid:Nat) (path:List Nat) (all:List Oper) (bef:List Nat) (acc:List (Nat×List Nat)) (i nid:Nat) (o:Oper) (S:St) (K:List Nat→St→Option ρ):Option ρ :=
 match jE all o S.t==some true&&!chk E all bef acc i (DS E S o.op) with
 |true=>none
 |false=>Cq E call fid path true all i nid o S (K (DI E all o S))
def ait {E:Env ρ} {call:List Nat→Bool→Nat→List AV→List Blk→(AV→List Blk→Option ρ)→Option ρ} {fid:Nat} {path:List Nat} {all:List Oper} {bef:List Nat} {o:Oper} {os:List Oper} {i nid:Nat} {acc:List (Nat×List Nat)} {S:St} {K:St→Option ρ} :
 aiu E call fid path all bef (o::os) i nid acc S K=LA E call fid path all bef acc i nid o S fun F S'=>aiu E call fid path all bef os (i+1) (bif Ď E.clone o.op then nid+1 else nid) ((i,F)::acc) S' K:=by
 have hself:∀d b,lk S.t d=.bool b→({t:=upd S.t d (.bool b),h:=S.h}:St)=S:=fun d b hb=>by rw[←hb,DU]
 have htself:∀d b,lk S.t d=.bool b→upd S.t d (.bool b)=S.t:=fun d b hb=>by rw[←hb,DU]
 simp only[aiu,LA,Cq,DI,jE]
 cases o.guard with
 |none=>cases chk E all bef acc i (DS E S o.op)<;>rfl
 |some g =>
  obtain⟨j,want⟩:=g;simp only
  cases hb:lk S.t (tz all j)<;>try rfl
  rename_i b;have h1:=hself _ b hb;have h2:=htself _ b hb
  cases b<;>cases want<;>simp only[h1,h2]<;>first
   |rfl
   |(cases chk E all bef acc i (DS E S o.op)<;>rfl)
def QE {E:Env ρ} {o:Op} (hx:∀x∈o.operands.toList,ev t2 x=ev t x) (hs:1≤cls E o→∀x∈o.operands.toList,nv h h2 (ev t x)):DS E {t:=t2,h:=h2} o=DS E {t:=t,h:=h} o:=by
 unfold DS
 split
 ·rename_i hc;have hc1:1≤cls E o:=fG hc
  have:∀l:List Operand,(∀x∈l,x∈o.operands.toList)→(l.flatMap fun x=>refs2 h2 (ev t2 x))=l.flatMap fun x=>refs2 h (ev t x):=by
   intro l
   induction l with
   |nil=>intro _; rfl
   |cons x l ih =>
    intro hl;simp only[dP];rw[hx x (hl x (by simp)),(hs hc1 x (hl x (by simp))).refs,ih fun y hy=>hl y (by simp[hy])]
  exact this _ fun _ h=>h
 ·rfl
def ZF {all:List Oper} {o:Oper} (ht:∀s∈kL all o,lk t2 s=lk t s):∀x∈o.op.operands.toList,ev t2 x=ev t x:=anj fun s hm=>ht s (by simp only[kL,cQ]; exact .inr hm)
def zE {all:List Oper} {o:Oper} (ht:∀s∈kL all o,lk t2 s=lk t s):jE all o t2=jE all o t:=by
 unfold jE
 cases hg:o.guard with
 |none=>rfl
 |some g =>
  obtain⟨j,want⟩:=g;simp only;rw[ht _ (by simp[kL,hg])]
def akZ {E:Env ρ} {o:Op} (hc:1≤cls E o) (hw:pS E {t:=t,h:=h} o=true):∀id∈DS E {t:=t,h:=h} o,lkB h id≠.dead:=fun id hi hd=>by
 obtain⟨x,hm,hi⟩:=(oy hc).1 hi;unfold pS at hw;have hb1:Nat.ble 1 (cls E o)=true:=Nat.ble_eq_true_of_le hc;simp only[hb1,Bool.and_eq_true,List.all_eq_true] at hw;have:=hw.1 x hm id hi;rw[hd] at this;cases this
def MP {E:Env ρ} {call:List Nat→Bool→Nat→List AV→List Blk→(AV→List Blk→Option ρ)→Option ρ} {fid:Nat} {path:List Nat} {all:List Oper} {i nid:Nat} {o:Oper} (r0:ρ)
 (hpe:akK E call) (hcl:cls E o.op≤2) (hlen:h2.length=h.length) (ht:∀s∈kL all o,lk t2 s=lk t s)
 (hs:jE all o t=some true→1≤cls E o.op→∀x∈o.op.operands.toList,nv h h2 (ev t x)) :
 ∃φ:Option (AV×List (Nat×Blk)),(∀r,φ=some r→∀p∈r.2,(p.1=nid∧Ď E.clone o.op=true)∨(cls E o.op=2∧p.1∈DI E all o {t:=t,h:=h})) ∧
  (∀r,φ=some r→∀id∈DI E all o {t:=t,h:=h},lkB h id≠.dead) ∧
  (∀K,Cq E call fid path true all i nid o {t:=t,h:=h} K=φ.bind fun r=>K {t:=ě t o.dst r.1,h:=aps r.2 h}) ∧
  ∀K,Cq E call fid path true all i nid o {t:=t2,h:=h2} K=φ.bind fun r=>K {t:=ě t2 o.dst r.1,h:=aps r.2 h2}:=by
 have hx:=ZF (t:=t) (t2:=t2) (o:=o) ht;have hwt:=zE (t:=t) (t2:=t2) (o:=o) ht
 cases hw:jE all o t with
 |none =>
  rw[hw] at hwt
  have:∀(S:St),jE all o S.t=none→∀K,Cq E call fid path true all i nid o S K=none:=fun S hS K=>by
   unfold jE at hS;unfold Cq
   cases hg:o.guard with
   |none=>rw[hg] at hS; cases hS
   |some g =>
    obtain⟨j,want⟩:=g;rw[hg] at hS;simp only at hS ⊢
    cases hb:lk S.t (tz all j)<;>rw[hb] at hS<;>first|rfl|cases hS
  exact⟨none,by simp,by simp,fun K=>this _ hw K,fun K=>this _ hwt K⟩
 |some b =>
  cases b with
  |false =>
   rw[hw] at hwt
   have:∀(S:St),jE all o S.t=some false→∀K,Cq E call fid path true all i nid o S K=K {t:=ě S.t o.dst .und,h:=S.h}:=fun S hS K=>by
    unfold jE at hS;unfold Cq
    cases hg:o.guard with
    |none=>rw[hg] at hS; cases hS
    |some g =>
     obtain⟨j,want⟩:=g;rw[hg] at hS;simp only at hS ⊢
     cases hb:lk S.t (tz all j)<;>rw[hb] at hS<;>first|rfl|(cases hS; done)|skip
     simp only[Option.some.injEq] at hS ⊢;rw[hS]
   refine⟨some (.und,[]),?_,?_,fun K=>this _ hw K,fun K=>this _ hwt K⟩
   ·intro r hr p hp;cases hr;cases hp
   ·intro r hr id hi;simp only[DI,hw] at hi;cases hi
  |true =>
   rw[hw] at hwt
   have hst:∀(S:St),jE all o S.t=some true→∀K,Cq E call fid path true all i nid o S K=jF E call fid (path++[i]) true S nid o fun v S=>K {t:=ě S.t o.dst v,h:=S.h}:=fun S hS K=>by
    unfold jE at hS;unfold Cq
    cases hg:o.guard with
    |none=>rfl
    |some g =>
     obtain⟨j,want⟩:=g;rw[hg] at hS;simp only at hS ⊢
     cases hb:lk S.t (tz all j)<;>rw[hb] at hS<;>first|(cases hS; done)|skip
     simp only[Option.some.injEq] at hS ⊢;rw[hS]
   obtain⟨φ,h1,h2',h3⟩:=anp (fid:=fid) (path:=path++[i]) (nid:=nid) hpe hcl hlen hx (hs hw)
   have hfp:DI E all o {t:=t,h:=h}=DS E {t:=t,h:=h} o.op:=by simp only[DI,hw]
   refine⟨φ,fun r hr p hp=>?_,fun r hr id hi=>?_,fun K=>by rw[hst _ hw,h2'],fun K=>by rw[hst _ hwt,h3]⟩
   ·rw[hfp]; exact h1 r hr p hp
   ·rw[hfp] at hi
    by_cases hc:1≤cls E o.op
    ·refine akZ hc ?_ id hi
     cases hwf:pS E {t:=t,h:=h} o.op with
     |true=>rfl
     |false =>
      exfalso;have hk:=h2' fun v S=>some r0;rw[hr] at hk;simp[jF,hwf] at hk
    ·rw[ajt (by omega)] at hi;cases hi
def zp:∀{l m:List Nat},disj l m=true↔∀x∈l,x∉m
 |[],m=>by simp[disj]
 |x::l,m=>by
  simp only[disj,cM,eF,eI,cW,forall_eq_or_imp,zp (l:=l)];refine and_congr_left fun _=>⟨fun h hm=>h x hm (Nat.beq_refl x),fun h y hy he=>?_⟩;have:=dc he;subst this;exact h hy
structure aou (E:Env ρ) (all:List Oper) (bef:List Nat) (ia ib:Nat) (a b:Oper):Prop where
 ha:all[ia]?=some a
 hb:all[ib]?=some b
 a3:cls E a.op≤2
 b3:cls E b.op≤2
 rb:∀s∈kL all b,a.dst≠some s
 ra:∀s∈kL all a,b.dst≠some s
 dd:∀x,a.dst=some x→b.dst≠some x
 bab:(bef.getD ib 0).testBit ia=false
 bba:(bef.getD ia 0).testBit ib=false
def am7 (E:Env ρ) (o:Op):cls E o≤3:=by
 cases o with
 |call c =>
  obtain⟨f,args,tys⟩:=c
  cases f with
  |value f=>cases f<;>simp only[cls]<;>(repeat' split)<;>omega
  |builtin b=>cases b<;>simp[cls]
  |_=>simp[cls]
 |_=>simp[cls]
def ad5 {E:Env ρ} {all:List Oper} {bef:List Nat} {ia ib:Nat} {a b:Oper} (hc:ami E all a b=false) (ha:all[ia]?=some a) (hb:all[ib]?=some b) (h1:(bef.getD ib 0).testBit ia=false) (h2:(bef.getD ia 0).testBit ib=false):aou E all bef ia ib a b:=by
 unfold ami at hc;simp only[Bool.or_eq_false_iff,beq_eq_false_iff_ne] at hc;obtain⟨⟨⟨⟨_,h3⟩,h5⟩,h6⟩,h7⟩:=hc;have qa:=am7 E a.op;have qb:=am7 E b.op;refine⟨ha,hb,by omega,by omega,fun s hs hd=>?_,fun s hs hd=>?_,fun x hx hy=>?_,h1,h2⟩
 ·rw[hd] at h5;simp[alC,hs] at h5
 ·rw[hd] at h6;simp[alC,hs] at h6
 ·rw[hx,hy] at h7;simp at h7
def Eb {E:Env ρ} {all:List Oper} {bef:List Nat} {j i:Nat} {a b:Oper} {Fj Fi:List Nat} (hp:Ec E all bef j i Fj Fi=true) (ha:all[j]?=some a) (hb:all[i]?=some b) (h1:(bef.getD j 0).testBit i=false) (h2:(bef.getD i 0).testBit j=false)
 (hc:Ck E a.op b.op=true):∀x∈Fj,x∉Fi:=by
 unfold Ec at hp;simp only[ha,hb,hc,h1,h2,Bool.not_true,Bool.false_or] at hp;exact zp.1 hp
def ad6 {E:Env ρ} {a b:Op}:Ck E a b=Ck E b a:=by
 unfold Ck; cases cls E a==2<;>cases cls E b==2<;>cases Nat.ble 1 (cls E a)<;>cases Nat.ble 1 (cls E b)<;>rfl
def acP {E:Env ρ} {all:List Oper} {bef:List Nat} {j i:Nat} {Fj Fi:List Nat} (hp:Ec E all bef j i Fj Fi=true):Ec E all bef i j Fi Fj=true:=by
 unfold Ec at hp ⊢
 cases ha:all[j]? with
 |none=>rw[ha] at hp; cases hp
 |some a=>cases hb:all[i]? with
  |none=>rw[ha,hb] at hp; cases hp
  |some b =>
   rw[ha,hb] at hp;simp only[Bool.or_eq_true,eF] at hp ⊢;rw[ad6];rcases hp with hp|hp|hp|hp
   ·exact .inl hp
   ·exact .inr (.inr (.inl hp))
   ·exact .inr (.inl hp)
   ·exact .inr (.inr (.inr (zp.2 fun x hx hy=>zp.1 hp x hy hx)))
def oT {E:Env ρ} {a b:Op}:Ck E a b=true↔(cls E a=2∧1≤cls E b)∨(1≤cls E a∧cls E b=2):=by
 unfold Ck;simp only[Bool.or_eq_true,Bool.and_eq_true,beq_iff_eq,Nat.ble_eq]
def vV {E:Env ρ} {all:List Oper} {bef:List Nat} {acc:List (Nat×List Nat)} {p:Nat×List Nat} {i:Nat} {F:List Nat}:chk E all bef (p::acc) i F=(Ec E all bef p.1 i p.2 F&&chk E all bef acc i F):=by
 simp[chk]
def TV {E:Env ρ} {all:List Oper} {bef:List Nat} {j i:Nat} {a b:Oper} {Fj:List Nat} (ha:all[j]?=some a) (hb:all[i]?=some b):Ec E all bef j i Fj []=true:=by
 unfold Ec;simp only[ha,hb,Bool.or_eq_true];exact .inr (.inr (.inr (zp.2 fun x _=>by simp)))
def abw {E:Env ρ} {all:List Oper} {o:Oper} (ht:∀s∈kL all o,lk t2 s=lk t s) (hs:jE all o t=some true→1≤cls E o.op→∀x∈o.op.operands.toList,nv h h2 (ev t x)):DI E all o {t:=t2,h:=h2}=DI E all o {t:=t,h:=h}:=by
 unfold DI;simp only[zE (t:=t) (t2:=t2) ht]
 cases hw:jE all o t with
 |none=>rfl
 |some b=>cases b with
  |false=>rfl
  |true=>exact QE (ZF ht) (hs hw)
def swap {E:Env ρ} {call:List Nat→Bool→Nat→List AV→List Blk→(AV→List Blk→Option ρ)→Option ρ} {fid:Nat} {path:List Nat} {all:List Oper} {bef:List Nat} {acc:List (Nat×List Nat)} {ia na ib nb:Nat} {a b:Oper} {K:List Nat→List Nat→St→Option ρ} {r:ρ}
 (hpe:akK E call) (hc:aou E all bef ia ib a b) (hbd:Ď E.clone b.op=true→lkB h nb=.dead) (hn:Ď E.clone a.op=true→Ď E.clone b.op=true→na≠nb)
 (hfar1:Ď E.clone a.op=true→∀x∈b.op.operands.toList,na∉refs1 (ev t x))
 (hfar:1≤cls E b.op→Ď E.clone a.op=true→(∀p∈acc,∀c,all[p.1]?=some c→Ck E c.op b.op=true→(bef.getD ib 0).testBit p.1=false→(bef.getD p.1 0).testBit ib=false→∀x∈b.op.operands.toList,∀id∈refs1 (ev t x),id∉p.2)→∀x∈b.op.operands.toList,na∉refs2 h (ev t x))
 (e:LA E call fid path all bef acc ia na a {t:=t,h:=h} (fun Fa S=>LA E call fid path all bef ((ia,Fa)::acc) ib nb b S (K Fa))=some r) :
 LA E call fid path all bef acc ib nb b {t:=t,h:=h} (fun Fb S=>LA E call fid path all bef ((ib,Fb)::acc) ia na a S fun Fa=>K Fa Fb)=some r:=by
 -- what a does
 obtain⟨φa,a0,a1,a2,_⟩:=MP (t:=t) (t2:=t) (h:=h) (h2:=h) (call:=call) (fid:=fid) (path:=path) (i:=ia) (nid:=na) (all:=all) r hpe hc.a3 rfl (fun _ _=>rfl) (fun _ _ _ _ _ _=>rfl);unfold LA at e
 split at e<;>try (cases e; done)
 rename_i hcha;rw[a2] at e;obtain⟨⟨va,ea⟩,q1,q2⟩:=ζ e;simp only at q2
 split at q2<;>try (cases q2; done)
 rename_i hchb;have hal1:=a1 _ q1;have hea:=a0 _ q1;simp only at hea
 -- b looks at the same
 have htb:∀s∈kL all b,lk (ě t a.dst va) s=lk t s:=fun s hs=>NB (hc.rb s hs) _;have htb':∀s∈kL all b,lk t s=lk (ě t a.dst va) s:=fun s hs=>(htb s hs).symm;have hxb:=ZF htb;have hwb:jE all b (ě t a.dst va)=jE all b t:=zE htb
 have hne1:1≤cls E b.op→jE all b t=some true→chk E all bef ((ia,DI E all a {t:=t,h:=h})::acc) ib (DS E {t:=ě t a.dst va,h:=aps ea h} b.op)=true:=fun _ hw=>by
  rw[hwb,hw] at hchb;simpa using hchb
 have hone:jE all b t=some true→1≤cls E b.op→∀x∈b.op.operands.toList,∀id∈refs1 (ev t x),lkB (aps ea h) id=lkB h id:=fun hw h1 x hx id hi=>by
  refine Vh fun p hp hid=>?_;rcases hea p hp with⟨h2,h3⟩|⟨h2,h3⟩
  ·exact hfar1 h3 x hx (by rw[←h2,hid]; exact hi)
  ·have hk:=hne1 h1 hw;rw[vV,cM] at hk;refine Eb hk.1 hc.ha hc.hb hc.bba hc.bab (oT.2 (.inl ⟨h2,h1⟩)) p.1 h3 ?_;rw[hid];refine(oy h1).2 ⟨x,hx,?_⟩;rw[hxb x hx];simp only[refs2,cQ];exact .inl hi
 have hrefs:jE all b t=some true→1≤cls E b.op→∀x∈b.op.operands.toList,refs2 (aps ea h) (ev t x)=refs2 h (ev t x):=fun hw h1 x hx=>by
  have:∀(l:List Nat),(∀id∈l,lkB (aps ea h) id=lkB h id)→(l.flatMap fun id=>(Q5 (lkB (aps ea h) id)).flatMap Į)=l.flatMap fun id=>(Q5 (lkB h id)).flatMap Į:=by
   intro l
   induction l with
   |nil=>intro _; rfl
   |cons y l ih=>intro hl; simp only[dP]; rw[hl y (by simp),ih fun id hi=>hl id (by simp[hi])]
  simp only[refs2];rw[this _ (hone hw h1 x hx)]
 have hfar2:jE all b t=some true→1≤cls E b.op→Ď E.clone a.op=true→∀x∈b.op.operands.toList,na∉refs2 h (ev t x):=fun hw h1 h2=>hfar h1 h2 fun p hp c hc1 hc2 hb1 hb2 x hx id hi hid=>by
  have hk:=hne1 h1 hw;rw[vV,cM] at hk;have hk2:=dz.1 hk.2 p hp;refine Eb hk2 hc1 hc.hb hb2 hb1 hc2 id hid ((oy h1).2 ⟨x,hx,?_⟩);rw[hxb x hx];simp only[refs2,cQ];exact .inl hi
 have hsame:jE all b t=some true→1≤cls E b.op→∀x∈b.op.operands.toList,nv h (aps ea h) (ev t x):=fun hw h1 x hx id hi=>by
  refine Vh fun p hp hid=>?_;rcases hea p hp with⟨h2,h3⟩|⟨h2,h3⟩
  ·exact hfar2 hw h1 h3 x hx (by rw[←h2,hid]; exact hi)
  ·have hk:=hne1 h1 hw;rw[vV,cM] at hk;refine Eb hk.1 hc.ha hc.hb hc.bba hc.bab (oT.2 (.inl ⟨h2,h1⟩)) p.1 h3 ?_;rw[hid];refine(oy h1).2 ⟨x,hx,?_⟩;rw[hxb x hx,hrefs hw h1 x hx];exact hi
 -- what b does
 obtain⟨φb,b0,b1,b2,b3⟩:=MP (t:=t) (t2:=ě t a.dst va) (h:=h) (h2:=aps ea h) (call:=call) (fid:=fid) (path:=path) (i:=ib) (nid:=nb) (all:=all) r hpe hc.b3 (Ju _ _) htb hsame;have hfb:DI E all b {t:=ě t a.dst va,h:=aps ea h}=DI E all b {t:=t,h:=h}:=abw htb hsame;rw[b3] at q2;obtain⟨⟨vb,eb⟩,q3,q4⟩:=ζ q2;simp only at q4;rw[hfb] at q4;have heb:=b0 _ q3;simp only at heb;have hfo:jE all b t=some true→DS E {t:=ě t a.dst va,h:=aps ea h} b.op=DS E {t:=t,h:=h} b.op:=fun hw=>QE hxb (hsame hw)
 -- a looks at the same
 have hta:∀s∈kL all a,lk (ě t b.dst vb) s=lk t s:=fun s hs=>NB (hc.ra s hs) _
 have hdisj:Ck E a.op b.op=true→∀id∈DI E all a {t:=t,h:=h},id∉DI E all b {t:=t,h:=h}:=fun hcl id hi hj=>by
  unfold DI at hj;simp only at hj
  split at hj
  ·rename_i hw
   have h1:1≤cls E b.op:=by rcases oT.1 hcl with h|h<;>omega
   have hk:=hne1 h1 hw;rw[vV,cM,hfo hw] at hk;exact Eb hk.1 hc.ha hc.hb hc.bba hc.bab hcl id hi hj
  ·cases hj
 have hsamea:jE all a t=some true→1≤cls E a.op→∀x∈a.op.operands.toList,nv h (aps eb h) (ev t x):=fun hw h1 x hx id hi=>by
  have hidF:id∈DI E all a {t:=t,h:=h}:=by
   unfold DI;simp only[hw];exact(oy h1).2 ⟨x,hx,hi⟩
  refine Vh fun p hp hid=>?_;rcases heb p hp with⟨h2,h3⟩|⟨h2,h3⟩
  ·exact hal1 id hidF (by rw[←hid,h2]; exact hbd h3)
  ·exact hdisj (oT.2 (.inr ⟨h1,h2⟩)) id hidF (hid▸h3)
 obtain⟨φa',a0',a1',a2',a3'⟩:=MP (t:=t) (t2:=ě t b.dst vb) (h:=h) (h2:=aps eb h) (call:=call) (fid:=fid) (path:=path) (i:=ia) (nid:=na) (all:=all) r hpe hc.a3 (Ju _ _) hta hsamea;have hfa:DI E all a {t:=ě t b.dst vb,h:=aps eb h}=DI E all a {t:=t,h:=h}:=abw hta hsamea
 have h3:Cq E call fid path true all ia na a {t:=t,h:=h} (fun S=>K (DI E all a {t:=t,h:=h}) (DI E all b {t:=t,h:=h}) {t:=ě S.t b.dst vb,h:=aps eb S.h})=some r:=by rw[a2,q1]; exact q4
 rw[a2'] at h3;obtain⟨⟨va',ea'⟩,q5,q6⟩:=ζ h3;simp only at q6;have hea':=a0' _ q5;simp only at hea'
 have hcomm:aps eb (aps ea' h)=aps ea' (aps eb h):=af0 fun p hp q hq hpq=>by
  rcases hea' p hp with⟨h2,h3⟩|⟨h2,h3⟩<;>rcases heb q hq with⟨h4,h5⟩|⟨h4,h5⟩
  ·exact hn h3 h5 (by rw[←h2,←h4]; exact hpq)
  ·-- b would write a's new block
   have hw:jE all b t=some true:=by
    unfold DI at h5;simp only at h5
    split at h5
    ·assumption
    ·cases h5
   have h5':q.1∈DS E {t:=t,h:=h} b.op:=by
    unfold DI at h5;simp only[hw] at h5;exact h5
   obtain⟨x,hx,hi⟩:=(oy (by omega)).1 h5';exact hfar2 hw (by omega) h3 x hx (by rw[←h2,hpq]; exact hi)
  ·exact hal1 p.1 h3 (by rw[hpq,h4]; exact hbd h5)
  ·exact hdisj (oT.2 (.inl ⟨h2,by omega⟩)) p.1 h3 (by rw[hpq]; exact h5)
 rw[acE hc.dd,hcomm] at q6
 -- the checks
 have chb:(jE all b t==some true&&!chk E all bef acc ib (DS E {t:=t,h:=h} b.op))=false:=by
  cases hw:jE all b t==some true with
  |false=>rfl
  |true =>
   have hw':jE all b t=some true:=by simpa using hw
   rw[hwb,hw] at hchb;simp only[dQ,fk] at hchb ⊢;rw[vV,cM,hfo hw'] at hchb;exact hchb.2
 have cha:(jE all a (ě t b.dst vb)==some true&&!chk E all bef ((ib,DI E all b {t:=t,h:=h})::acc) ia (DS E {t:=ě t b.dst vb,h:=aps eb h} a.op))=false:=by
  rw[zE hta]
  cases hw:jE all a t==some true with
  |false=>rfl
  |true =>
   have hw':jE all a t=some true:=by simpa using hw
   rw[hw] at hcha;simp only[dQ,fk] at hcha ⊢;rw[QE (ZF hta) (hsamea hw'),vV,cM];refine⟨acP ?_,hcha⟩
   have hfa0:DI E all a {t:=t,h:=h}=DS E {t:=t,h:=h} a.op:=by simp only[DI,hw']
   cases hwb':jE all b t with
   |some wb=>cases wb with
    |true =>
     rw[hwb,hwb'] at hchb;simp only[beq_self_eq_true,dQ,fk] at hchb;rw[vV,cM,hfo hwb',hfa0] at hchb;simp only[DI,hwb'];exact hchb.1
    |false=>simp only[DI,hwb']; exact TV hc.ha hc.hb
   |none=>simp only[DI,hwb']; exact TV hc.ha hc.hb
 unfold LA;simp only[chb];rw[b2,q3];simp only[Option.bind_some,cha];rw[a3',q5];simp only[Option.bind_some];rw[hfa];exact q6
abbrev Item:=Nat×Nat×Oper
def nM (clone:Nat→Bool):List Oper→Nat→Nat→List Item
 |[],_,_=>[]
 |o::os,i,nid=>(i,nid,o)::nM clone os (i+1) (bif Ď clone o.op then nid+1 else nid)
def aeT (E:Env ρ) (call:List Nat→Bool→Nat→List AV→List Blk→(AV→List Blk→Option ρ)→Option ρ) (fid:Nat) (path:List Nat) (all:List Oper) (bef:List Nat):List Item→List (Nat×List Nat)→St→(St→Option ρ)→Option ρ
 |[],_,S,K=>K S
 |x::l,acc,S,K=>LA E call fid path all bef acc x.1 x.2.1 x.2.2 S fun F S=>aeT E call fid path all bef l ((x.1,F)::acc) S K
def ZH {E:Env ρ} {call:List Nat→Bool→Nat→List AV→List Blk→(AV→List Blk→Option ρ)→Option ρ} {fid:Nat} {path:List Nat} {all:List Oper} {bef:List Nat}:∀(os:List Oper) (i nid:Nat) (acc:List (Nat×List Nat)) (S:St) (K:St→Option ρ),
 aiu E call fid path all bef os i nid acc S K=aeT E call fid path all bef (nM E.clone os i nid) acc S K
 |[],_,_,_,_,_=>rfl
 |o::os,i,nid,acc,S,K=>by
  rw[ait];simp only[nM,aeT];congr 1;funext F S';exact ZH os _ _ _ S' K
def aml {E:Env ρ} {all:List Oper} {bef:List Nat} {acc acc':List (Nat×List Nat)} {i:Nat} {F:List Nat} (h:∀p,p∈acc↔p∈acc'):chk E all bef acc i F=chk E all bef acc' i F:=by
 rw[dJ];simp only[chk,dz]
 exact forall_congr' fun p=>by rw[h p]
def Y6 {E:Env ρ} {call:List Nat→Bool→Nat→List AV→List Blk→(AV→List Blk→Option ρ)→Option ρ} {fid:Nat} {path:List Nat} {all:List Oper} {bef:List Nat} {K:St→Option ρ}:∀(l:List Item) {acc acc':List (Nat×List Nat)} (S:St),(∀p,p∈acc↔p∈acc') →
 aeT E call fid path all bef l acc S K=aeT E call fid path all bef l acc' S K
 |[],_,_,_,_=>rfl
 |x::l,acc,acc',S,h=>by
  simp only[aeT,LA];rw[aml h]
  split
  ·rfl
  ·congr 1;funext S'
   exact Y6 l S' fun p=>by simp[h p]
def anc {E:Env ρ} {call:List Nat→Bool→Nat→List AV→List Blk→(AV→List Blk→Option ρ)→Option ρ} {fid:Nat} {path:List Nat} {all:List Oper} {bef:List Nat} {b:Item} {rest:List Item} {K:St→Option ρ} {r:ρ} {h0:List Blk} {t0:List AV}
 (hpe:akK E call) :
 ∀(as:List Item) (acc:List (Nat×List Nat)) (t:List AV) (h:List Blk),(∀a∈as,aou E all bef a.1 b.1 a.2.2 b.2.2)→(∀s∈kL all b.2.2,lk t s=lk t0 s)→(Ď E.clone b.2.2.op=true→lkB h b.2.1=.dead) →
  (∀a∈as,Ď E.clone a.2.2.op=true→Ď E.clone b.2.2.op=true→a.2.1≠b.2.1)→(∀a∈as,Ď E.clone a.2.2.op=true→∀x∈b.2.2.op.operands.toList,a.2.1∉refs2 h0 (ev t0 x)) →
  (1≤cls E b.2.2.op→∀x∈b.2.2.op.operands.toList,∀id∈refs1 (ev t0 x),lkB h id=lkB h0 id∨∃p∈acc,(∃c,all[p.1]?=some c∧Ck E c.op b.2.2.op=true∧(bef.getD b.1 0).testBit p.1=false∧(bef.getD p.1 0).testBit b.1=false)∧id∈p.2) →
  aeT E call fid path all bef (as++b::rest) acc {t:=t,h:=h} K=some r→aeT E call fid path all bef (b::(as++rest)) acc {t:=t,h:=h} K=some r
 |[],acc,t,h,_,_,_,_,_,_,e=>e
 |a::as,acc,t,h,hap,ht,hbd,hn,hfar,hinv,e=>by
  have hA:=hap a (by simp);have hx0:∀x∈b.2.2.op.operands.toList,ev t x=ev t0 x:=ZF ht
  have hf1:Ď E.clone a.2.2.op=true→∀x∈b.2.2.op.operands.toList,a.2.1∉refs1 (ev t x):=fun hal x hx hi=>hfar a (by simp) hal x hx (by
   rw[hx0 x hx] at hi;simp only[refs2,cQ]
   exact .inl hi)
  simp only[eS,aeT] at e ⊢
  have fin:=swap (K:=fun Fa Fb S=>aeT E call fid path all bef (as++rest) ((b.1,Fb)::(a.1,Fa)::acc) S K) (r:=r) (t:=t) (h:=h) (acc:=acc) (ia:=a.1) (na:=a.2.1) (ib:=b.1) (nb:=b.2.1) (a:=a.2.2) (b:=b.2.2) (fid:=fid) (path:=path) hpe hA hbd (hn a (by simp)) hf1
   (fun h1 hal hno x hx=>by
    rw[hx0 x hx];have hcells:∀id∈refs1 (ev t0 x),lkB h id=lkB h0 id:=fun id hi=>(hinv h1 x hx id hi).resolve_right fun⟨p,hp,⟨c,c1,c2,c3,c4⟩,hid⟩=>hno p hp c c1 c2 c3 c4 x hx id (by rw[hx0 x hx]; exact hi) hid
    have:refs2 h (ev t0 x)=refs2 h0 (ev t0 x):=by
     have key:∀(l:List Nat),(∀id∈l,lkB h id=lkB h0 id)→(l.flatMap fun id=>(Q5 (lkB h id)).flatMap Į)=l.flatMap fun id=>(Q5 (lkB h0 id)).flatMap Į:=by
      intro l
      induction l with
      |nil=>intro _; rfl
      |cons y l ih=>intro hl; simp only[dP]; rw[hl y (by simp),ih fun id hi=>hl id (by simp[hi])]
     simp only[refs2];rw[key _ hcells]
    rw[this]
    exact hfar a (by simp) hal x hx) ?_
  ·have hperm:∀(Fa Fb:List Nat) (S:St),aeT E call fid path all bef (as++rest) ((b.1,Fb)::(a.1,Fa)::acc) S K=aeT E call fid path all bef (as++rest) ((a.1,Fa)::(b.1,Fb)::acc) S K:=fun Fa Fb S=>Y6 _ S fun p=>by
    simp only[cW]
    constructor<;>rintro(h|h|h)<;>simp[h]
   simp only[hperm] at fin;exact fin
  ·-- behind a
   obtain⟨φa,a0,a1,a2,_⟩:=MP (t:=t) (t2:=t) (h:=h) (h2:=h) (call:=call) (fid:=fid) (path:=path) (i:=a.1) (nid:=a.2.1) (all:=all) r hpe hA.a3 rfl (fun _ _=>rfl) (fun _ _ _ _ _ _=>rfl);unfold LA at e ⊢
   split at e<;>try (cases e; done)
   rename_i hcha;simp only[hcha];rw[a2] at e ⊢;obtain⟨⟨va,ea⟩,q1,q2⟩:=ζ e;rw[q1];simp only[eD];have hal1:=a1 _ q1;have hea:=a0 _ q1;simp only at hea q2;refine anc hpe as _ _ _ (fun c hc=>hap c (by simp[hc])) (fun s hs=>(NB (hA.rb s hs) _).trans (ht s hs)) (fun hal=>?_) (fun c hc=>hn c (by simp[hc])) (fun c hc=>hfar c (by simp[hc])) (fun h1 x hx id hi=>?_) q2
   ·refine(Vh fun p hp hid=>?_).trans (hbd hal);rcases hea p hp with⟨h2,h3⟩|⟨h2,h3⟩
    ·exact hn a (by simp) h3 hal (h2.symm.trans hid)
    ·exact hal1 p.1 h3 (by rw[hid]; exact hbd hal)
   ·by_cases hin:∃p∈ea,p.1=id
    ·obtain⟨p,hp,hid⟩:=hin;rcases hea p hp with⟨h2,h3⟩|⟨h2,h3⟩
     ·exfalso;exact hf1 h3 x hx (by rw[hx0 x hx,←h2,hid]; exact hi)
     ·exact .inr ⟨(a.1,_),List.mem_cons_self ..,⟨a.2.2,hA.ha,oT.2 (.inl ⟨h2,h1⟩),hA.bab,hA.bba⟩,hid▸h3⟩
    ·have hne:lkB (aps ea h) id=lkB h id:=Vh fun p hp hid=>hin ⟨p,hp,hid⟩;rw[hne];rcases hinv h1 x hx id hi with h2|⟨p,hp,h2⟩
     ·exact .inl h2
     ·exact .inr ⟨p,by simp[hp],h2⟩
section
variable {ν:Nat→Value} {w:World}
def VR0.refs {a:AV} {v:Value} (hv:VR0 ν h w a v):∀id∈Į a,lkB h id≠.dead:=by
 intro id hi hd
 cases a<;>simp only[Į,cY,fA] at hi
 ·subst hi; obtain⟨_,t,g',fz,xs,hl,_⟩:=hv; rw[hd] at hl; cases hl
 ·subst hi; obtain⟨_,t,g',fz,xs,hl,_⟩:=hv; rw[hd] at hl; cases hl
 ·subst hi; obtain⟨_,t,g',fz,hl,_⟩:=hv; rw[hd] at hl; cases hl
 ·subst hi; obtain⟨_,_,hl,_⟩:=hv; rw[hd] at hl; cases hl
 ·subst hi; obtain⟨_,t,g',fz,xs,hl,_⟩:=hv; rw[hd] at hl; cases hl
 ·subst hi; obtain⟨_,k,g',xss,hl,_⟩:=hv; rw[hd] at hl; cases hl
 ·subst hi; obtain⟨_,k,g',xss,hl,_⟩:=hv; rw[hd] at hl; cases hl
 ·subst hi; obtain⟨_,k,g',xss,hl,_⟩:=hv; rw[hd] at hl; cases hl
 ·subst hi; obtain⟨_,k,g',xss,hl,_⟩:=hv; rw[hd] at hl; cases hl
def VR1.refs {a:AV} {v:Value} (hv:VR1 ν h w a v):∀id∈Į a,lkB h id≠.dead:=by
 cases hf:a.isFn with
 |true=>cases a<;>first|(cases hf; done)|(intro id hi; cases hi)
 |false=>rw[Rr hf] at hv; exact hv.refs
def ć.left_mem {α β:Type} {R:α→β→Prop}:∀{l:List α} {m:List β},ć R l m→∀a∈l,∃b∈m,R a b
 |[],_,_,a,ha=>by cases ha
 |x::l,y::m,h,a,ha=>by
  rcases cW.1 ha with rfl|ha
  ·exact⟨y,by simp,h.1⟩
  ·obtain⟨b,hb,hr⟩:=ć.left_mem h.2 a ha;exact⟨b,by simp[hb],hr⟩
 |_::_,[],h,_,_=>h.elim
def VR.refs1 {a:AV} {v:Value} (hv:VR ν h w a v):∀id∈Go.Am.refs1 a,lkB h id≠.dead:=by
 cases hag:a.isAgg with
 |true =>
  cases a<;>try cases hag
  obtain⟨us,_,h2⟩:=hv;intro id hi;simp only[Go.Am.refs1,dn] at hi;obtain⟨c,hc,hi⟩:=hi;obtain⟨u,_,hu⟩:=h2.left_mem c hc;exact hu.1.refs id hi
 |false =>
  cases htu:a.isTup with
  |true=>cases a<;>first|(cases htu; done)|(intro id hi; cases hi)
  |false =>
   have h1:=hv.one hag htu;have h2:=h1.refs
   cases a with
   |fn f fa fb =>
    obtain⟨fs,cs,_,h3,h4⟩:=h1
    have one:∀c u,VR0 ν h w c u→∀id∈aik c,lkB h id≠.dead:=fun c u hu id hi=>by
     cases c with
     |agg=>exact hu.elim
     |_=>exact hu.refs id hi
    intro id hi;simp only[Go.Am.refs1,cQ,dn] at hi;rcases hi with⟨c,hc,hi⟩|⟨c,hc,hi⟩
    ·obtain⟨u,_,hu⟩:=h3.left_mem c hc;exact one c u hu id hi
    ·obtain⟨u,_,hu⟩:=h4.left_mem c hc;exact one c u hu id hi
   |agg=>cases hag
   |_=>exact h2
def VR.refs2 (H:HR ν h w) {a:AV} {v:Value} (hv:VR ν h w a v):∀id∈Go.Am.refs2 h a,lkB h id≠.dead:=by
 intro id hi;simp only[Go.Am.refs2,cQ,dn] at hi;rcases hi with hi|⟨j,hj,c,hc,hi⟩
 ·exact hv.refs1 id hi
 ·have hB:=H.blk j
  cases hl:lkB h j with
  |cells cs =>
   rw[hl] at hB hc;obtain⟨b,arr,e,_,_,h3⟩:=hB;obtain⟨u,_,hu⟩:=h3.left_mem c hc;exact hu.1.refs id hi
  |_=>rw[hl] at hc; cases hc
end
end
end Go.Am
end
