/- lemmas -/
import Derived.Test.YtmadligicacpkaaGreatAmA
import Derived.OrdersIn
import Derived.LoopNIn
set_option linter.all false
set_option linter.unusedSectionVars false
set_option linter.unusedVariables false
set_option linter.unusedSimpArgs false
noncomputable section
namespace Go.Am
variable [ô]
section
variable {ν ν':Nat→Value} {h h':List Blk} {w w':World} {P:Program}
def V5 (b:AV):∀(as:List AV) (h:List Blk),Ă (Bk h as) b=Ă h b
 |[],_=>rfl
 |a::as,h=>by rw[Bk,V5 b as,JK]
def B5.mono {av av':Nat→Prop} (hm:∀b,av' b→av b) {t:Ty} {xs:List (Val t)} {news:List Value} (hr:B5 w av t xs news):B5 w av' t xs news :=
 ⟨hr.1,fun i x hi=>CR.mono hm (hr.2 i x hi)⟩
def aej {a:AV} {id:Nat} {h:List Blk} (hl:lkB h id=.dead):lkB (xP h a) id=.dead:=by
 have key:∀(j g:Nat) (t:Ty) (fz:Bool) (xs:List (Val t)),lkB h j=.row t g fz xs→lkB (Ē h j (.row t g true xs)) id=.dead:=fun j g t fz xs hr=>by
  by_cases hj:id=j
  ·subst hj; rw[hl] at hr; cases hr
  ·rw[ý _ hj]; exact hl
 cases a<;>try exact hl
 all_goals
  simp only[xP]
  split
  ·exact key _ _ _ _ _ ‹_›
  ·exact hl
def SQ {id:Nat}:∀(as:List AV) {h:List Blk},lkB h id=.dead→lkB (Bk h as) id=.dead
 |[],_,hl=>hl
 |_::as,_,hl=>SQ as (aej hl)
def aif {v:AV} {id:Nat} {h:List Blk} (hl:lkB h id=.dead):lkB (frz h v) id=.dead:=by
 unfold frz; split
 ·exact SQ _ hl
 ·exact aej hl
def SS {id:Nat}:∀(ps:List (Nat×AV)) {h:List Blk},lkB h id=.dead→lkB (frzA h ps) id=.dead
 |[],_,hl=>hl
 |(_,_)::ps,_,hl=>SS ps (aif hl)
def ahz {h0:List Blk} {ty:Ty}:∀(ps:List (Nat×AV)) (us:List (Nat×Value)) (k:Nat) (c:Array Value) (xs:List (Val ty)) (h:List Blk),(∀b,Ă h b=Ă h0 b)→HR ν h w→T5 h0 ty k ps=some xs →
 ĉ (fun(a:Nat×AV) (b:Nat×Value)=>a.1=b.1∧VR ν h w a.2 b.2) ps us→(k+ps.length)*ty.size≤c.size →
 ∃c' news,Instr.fill (fun i=>some (i*ty.size,ty.size)) c us=some c'∧c'.toList=c.toList.take (k*ty.size)++news++c.toList.drop ((k+ps.length)*ty.size)∧B5 w (Av ν (frzA h ps)) ty xs news∧xs.length=ps.length ∧
  Ev h.length ν h w ν (frzA h ps) w∧HR ν (frzA h ps) w∧(∀b,Av ν (frzA h ps) b→Av ν h b)∧(frzA h ps).length=h.length
 |[],[],k,c,xs,h,hsn,H,e,_,_=>by
  cases e;exact⟨c,[],rfl,by simp,⟨by simp,fun i x hi=>by simp at hi⟩,rfl,Ev.refl _ _ _ _,H,fun _ hb=>hb,rfl⟩
 |[],_::_,_,_,_,_,_,_,_,hu,_=>hu.elim
 |_::_,[],_,_,_,_,_,_,_,hu,_=>hu.elim
 |(i,v)::ps,(j,u)::us,k,c,xs,h,hsn,H,e,hu,hc=>by
  obtain⟨⟨hij,hvu⟩,hu⟩:=hu;simp only at hij hvu; subst hij;simp only[T5] at e
  split at e<;>try (cases e; done)
  rename_i hik;simp only[cW,beq_iff_eq] at hik;obtain⟨rfl,hnm⟩:=hik
  split at e<;>try (cases e; done)
  rename_i cs hcs
  split at e<;>try (cases e; done)
  rename_i x hx
  split at e<;>try (cases e; done)
  rename_i xs' hxs;cases e;obtain⟨vs,hvs,rfl⟩:=JJ hcs;obtain⟨hfe,hfm⟩:=ama hvs h;have hcx:=hvu.cells hvs;have hs:=IP H (hcx.mono fun _ _ q=>q.1) (hfm hnm);have hmap:vs.map (Ă h)=vs.map (Ă h0):=fk fun b _=>hsn b;rw[hmap] at hs;have hxc:=Ū hx hs;obtain⟨e1,H1,hlv⟩:=E8 vs H;simp only[frzA,hfe]
  have hsz:u.cells.size=ty.size:=by have:=hxc.length; simpa using this
  have hlen:(i+1+ps.length)*ty.size≤c.size:=by rw[show i+1+ps.length=i+(ps.length+1) by omega]; simpa using hc
  have hi:i*ty.size+ty.size≤c.size:=by
   have:=dH ty.size (show i+1≤i+1+ps.length by omega);rw[dF i 1,fp] at this;omega
  have hcl:u.cells.toList.length=ty.size:=by simpa using hsz
  have hcsz:(c.toList.take (i*ty.size)++u.cells.toList++c.toList.drop (i*ty.size+ty.size)).toArray.size=c.size:=by
   simp only[eT,cX,di,gN,fm,hcl]; omega
  obtain⟨c',news,h1,h2,h3,h4,h5,h6,h7,h8⟩:=ahz ps us (i+1) (c.toList.take (i*ty.size)++u.cells.toList++c.toList.drop (i*ty.size+ty.size)).toArray xs' (Bk h vs)
   (fun b=>(V5 b vs h).trans (hsn b)) H1 hxs (hu.mono fun _ _ q=>⟨q.1,q.2.ev e1⟩) (by rw[hcsz]; exact hlen)
  refine⟨c',u.cells.toList++news,?_,?_,?_,by simp[h4],e1.trans h5 (by rw[ξ]; exact cR _),h6,fun b hb=>hlv b (h7 b hb),by rw[h8,ξ]⟩
  ·rw[IR rfl hsz hi]; exact h1
  ·rw[h2]
   have a1:(c.toList.take (i*ty.size)++u.cells.toList++c.toList.drop (i*ty.size+ty.size)).take ((i+1)*ty.size)=c.toList.take (i*ty.size)++u.cells.toList:=by
    have hl1:(c.toList.take (i*ty.size)++u.cells.toList).length=(i+1)*ty.size:=by
     rw[cX,di,fm,hcl,dF,fp]; omega
    rw[←hl1,List.take_left]
   have a2:(c.toList.take (i*ty.size)++u.cells.toList++c.toList.drop (i*ty.size+ty.size)).drop ((i+1+ps.length)*ty.size)=c.toList.drop ((i+(ps.length+1))*ty.size):=by
    have hl1:(c.toList.take (i*ty.size)++u.cells.toList).length=i*ty.size+ty.size:=by
     rw[cX,di,fm,hcl]; omega
    rw[show(i+1+ps.length)*ty.size=(c.toList.take (i*ty.size)++u.cells.toList).length+ps.length*ty.size by rw[hl1,dF,dF,fp],←gj,List.drop_left,gj];congr 1;rw[dF,dF,fp]; omega
   show(List.take ((i+1)*ty.size) _++news++List.drop ((i+1+ps.length)*ty.size) _)=_;rw[a1,a2];simp
  ·have hone:B5 w (Av ν (frzA (Bk h vs) ps)) ty [x] u.cells.toList:=⟨by simp[hsz],fun q y hq=>by
    cases q with
    |zero =>
     simp at hq; subst hq;simp only[Nat.zero_mul,List.drop_zero];rw[ee (by omega)];exact CR.mono h7 hxc
    |succ q=>simp at hq⟩
   exact hone.append h3
def aaT {S:St} {a:Act} {nid n:Nat} {t e:TypeId} {ty:Ty} {ps:Array (Nat×Operand)} {xs:List (Val ty)} (H:Sim ν S a w) (hn:nid<S.h.length) (hd:lkB S.h nid=.dead) (he:Ov P t=some e)
 (hrow:Px P e ty.size=true) (hln:ps.toList.length=n) (hlim:n*ty.size≤65536) (hx:T5 S.h ty 0 (ps.toList.map fun p=>(p.1,ev S.t p.2))=some xs) :
 iT P ν S.h w (Instr.buildSlice t n (ps.map fun(i,x)=>(i,a.eval x))) (.own nid 0) (Ē (frzA S.h (ps.toList.map fun p=>(p.1,ev S.t p.2))) nid (.row ty 0 false xs)):=by
 obtain⟨i,z,hi,hsz,hpos,hby,hz,hzs⟩:=mq hrow;have ht:=kY he
 have hcs:((Array.range (n*ty.size)).map (fun j=>(if n*ty.size=0 then(#[]:Array Value) else z.cells)[j % (if n*ty.size=0 then(#[]:Array Value) else z.cells).size]!)).size=n*ty.size:=by simp
 obtain⟨c',news,h1,h2,h3,h4,h5,h6,h7,h8⟩:=ahz (ν:=ν) (w:=w) (h0:=S.h) _ (ps.toList.map fun p=>(p.1,a.eval p.2)) 0 ((Array.range (n*ty.size)).map (fun j=>(if n*ty.size=0 then(#[]:Array Value) else z.cells)[j % (if n*ty.size=0 then(#[]:Array Value) else z.cells).size]!)) xs S.h (fun _=>rfl) H.heap hx (FF H ps.toList)
  (by rw[hcs]; simp only[dV]; rw[hln,dl]; exact cR _)
 rw[dV,hln] at h2 h4
 have h2':c'.toList=news:=by
  rw[h2];simp
 have hd':lkB (frzA S.h (ps.toList.map fun p=>(p.1,ev S.t p.2))) nid=.dead:=SS _ hd
 have hnew:=JL (w':=w.alloc (.cells c' e)) h6 (id:=nid) (g':=0) (xs':=xs) (cap':=n) (by rw[h8]; exact hn) (fun V=>by rw[hd']; trivial) rfl rfl rfl rfl (by omega) (by
  have:c'.size=news.length:=by rw[←h2']; simp
  rw[this,h3.1,h4]; exact cR _) h3 (fun j v hj=>by rw[←h2'] at hj; simpa using hj)
 rw[h4] at hnew;refine⟨_,_,_,?_,yv (by rw[h8]; exact hn) rfl,hnew.2,(h5.trans hnew.1 (by rw[h8]; exact cR _)),by rw[ß,h8]⟩
 have hp:(ps.map fun(x:Nat×Operand)=>(x.1,a.eval x.2)).toList=ps.toList.map fun p=>(p.1,a.eval p.2):=by simp
 have hlt:¬(16777216<n*ty.size):=by omega
 have h1':Instr.fill (fun i=>some (i*ty.size,ty.size)) ((Array.range (n*ty.size)).map (fun j=>(if n*ty.size=0 then(#[]:Array Value) else z.cells)[j % (if n*ty.size=0 then(#[]:Array Value) else z.cells).size]!)) (ps.map fun(x:Nat×Operand)=>(x.1,a.eval x.2)).toList=some c':=by rw[hp]; exact h1
 simp only[Instr.buildSlice,Sem.run_bind,run_underlying ht,Result.andThen_ok,sizeOf,typeInfo,run_program,hi,Sem.run_pure,hsz];rw[show(2:Nat) ^ 24=16777216 from rfl,if_neg (by omega:¬n*ty.size>16777216)]
 by_cases h0:n*ty.size=0
 ·simp only[h0,if_true,Sem.run_bind,Sem.run_pure,Result.andThen_ok] at h1' ⊢
  erw [h1']
  simp[newRow]
 ·simp only[h0,if_false,Sem.run_bind,zeroValue,typeInfo,run_program,hi,hz,Sem.run_pure,Result.andThen_ok] at h1' ⊢
  erw [h1']
  simp[newRow]
end
end Go.Am
end

noncomputable section
namespace Go.Am
variable [ô]
section
variable {ν ν':Nat→Value} {h h':List Blk} {w w':World} {P:Program}
def upd2 (H:HR ν h w) {i j:Nat} {A B:Blk} {U V:Value} (hij:i≠j) (hi:i<h.length) (hj:j<h.length) (hos:w'.os=w.os) (htape:w'.tape=w.tape) (hout:w'.output=w.output)
 (hsize:w.heap.size≤w'.heap.size)
 (hkeep:∀b,b<w.heap.size→((lkB h i).live=true→¬η (ν i) b)→((lkB h j).live=true→¬η (ν j) b)→w'.heap[b]?=w.heap[b]?)
 (hU:A.live=true→∀b,η U b→((lkB h i).live=true∧η (ν i) b)∨((lkB h j).live=true∧η (ν j) b)∨w.heap.size≤b)
 (hV:B.live=true→∀b,η V b→((lkB h i).live=true∧η (ν i) b)∨((lkB h j).live=true∧η (ν j) b)∨w.heap.size≤b)
 (hdis:A.live=true→B.live=true→∀b,η U b→η V b→False)
 (hni:(lkB h i).next ν (ď (ď ν i U) j V) i A) (hnj:(lkB h j).next ν (ď (ď ν i U) j V) j B)
 (hbi:Ev h.length ν h w (ď (ď ν i U) j V) (Ē (Ē h i A) j B) w'→BR (ď (ď ν i U) j V) (Ē (Ē h i A) j B) w' i A)
 (hbj:Ev h.length ν h w (ď (ď ν i U) j V) (Ē (Ē h i A) j B) w'→BR (ď (ď ν i U) j V) (Ē (Ē h i A) j B) w' j B) :
 Ev h.length ν h w (ď (ď ν i U) j V) (Ē (Ē h i A) j B) w'∧HR (ď (ď ν i U) j V) (Ē (Ē h i A) j B) w':=by
 have li:lkB (Ē (Ē h i A) j B) i=A:=by rw[ý _ hij,ø _ hi]
 have lj:lkB (Ē (Ē h i A) j B) j=B:=ø _ (by rw[ß]; exact hj)
 have lo:∀{m},m≠i→m≠j→lkB (Ē (Ē h i A) j B) m=lkB h m:=fun h1 h2=>by rw[ý _ h2,ý _ h1]
 have vi:ď (ď ν i U) j V i=U:=by rw[Ξ _ _ hij,ã]
 have vj:ď (ď ν i U) j V j=V:=ã _ _ _
 have vo:∀{m},m≠i→m≠j→ď (ď ν i U) j V m=ν m:=fun h1 h2=>by rw[Ξ _ _ h2,Ξ _ _ h1]
 -- who owns a block now owned it, or it is new
 have own:∀m b,(lkB (Ē (Ē h i A) j B) m).live=true→η (ď (ď ν i U) j V m) b →
  (∃q,(lkB h q).live=true∧η (ν q) b∧(q=m∨((q=i∨q=j)∧(m=i∨m=j))))∨(w.heap.size≤b∧(m=i∨m=j)):=by
  intro m b hl hb
  by_cases h1:m=i
  ·subst h1;rw[li] at hl; rw[vi] at hb;rcases hU hl b hb with h2|h2|h2
   ·exact .inl ⟨m,h2.1,h2.2,.inl rfl⟩
   ·exact .inl ⟨j,h2.1,h2.2,.inr ⟨.inr rfl,.inl rfl⟩⟩
   ·exact .inr ⟨h2,.inl rfl⟩
  ·by_cases h2:m=j
   ·subst h2;rw[lj] at hl; rw[vj] at hb;rcases hV hl b hb with h2|h2|h2
    ·exact .inl ⟨i,h2.1,h2.2,.inr ⟨.inl rfl,.inr rfl⟩⟩
    ·exact .inl ⟨m,h2.1,h2.2,.inl rfl⟩
    ·exact .inr ⟨h2,.inr rfl⟩
   ·rw[lo h1 h2] at hl; rw[vo h1 h2] at hb;exact .inl ⟨m,hl,hb,.inl rfl⟩
 have ev:Ev h.length ν h w (ď (ď ν i U) j V) (Ē (Ē h i A) j B) w':=by
  refine⟨hos,htape,hout,hsize,fun b hb hn=>⟨hkeep b hb (fun hl he=>hn ⟨i,hl,he⟩) (fun hl he=>hn ⟨j,hl,he⟩),?_⟩,fun m hm=>?_⟩
  ·rintro⟨m,hl,he⟩;rcases own m b hl he with⟨q,h1,h2,_⟩|⟨h1,_⟩
   ·exact hn ⟨q,h1,h2⟩
   ·omega
  ·by_cases h1:m=i
   ·subst h1; rw[li]; exact hni
   ·by_cases h2:m=j
    ·subst h2; rw[lj]; exact hnj
    ·rw[lo h1 h2]
     cases hB:lkB h m with
     |dead=>trivial
     |cells cs=>exact⟨⟨cs,rfl⟩,vo h1 h2⟩
     |row t g fz xs=>exact⟨g,fz,xs,rfl,cR _,fun _=>⟨vo h1 h2,rfl⟩⟩
     |map k v es=>exact⟨⟨es,rfl⟩,vo h1 h2⟩
     |deep k g xss=>exact⟨g,xss,rfl,cR _,fun _=>⟨vo h1 h2,rfl⟩⟩
 refine⟨ev,fun m=>?_,fun m n b hm hn hbm hbn=>?_,fun b hb=>dA (H.ghlt b hb) hsize,fun m b hl hb hg=>?_⟩
 ·by_cases h1:m=i
  ·subst h1; rw[li]; exact hbi ev
  ·by_cases h2:m=j
   ·subst h2; rw[lj]; exact hbj ev
   ·rw[lo h1 h2];refine BR.ev ev (vo h1 h2) (fun b hl hb hlt=>hkeep b hlt (fun hl' hb'=>h1 (H.inj m i b hl hl' hb hb')) (fun hl' hb'=>h2 (H.inj m j b hl hl' hb hb'))) (H.blk m)
 ·-- one owner alone
  have hd:∀{m n b},(m=i∨m=j)→(n=i∨n=j)→(lkB (Ē (Ē h i A) j B) m).live=true→(lkB (Ē (Ē h i A) j B) n).live=true→η (ď (ď ν i U) j V m) b→η (ď (ď ν i U) j V n) b→m=n:=by
   intro m n b h1 h2 hm hn hbm hbn
   rcases h1 with rfl|rfl<;>rcases h2 with rfl|rfl
   ·rfl
   ·rw[li] at hm; rw[lj] at hn; rw[vi] at hbm; rw[vj] at hbn;exact(hdis hm hn b hbm hbn).elim
   ·rw[lj] at hm; rw[li] at hn; rw[vj] at hbm; rw[vi] at hbn;exact(hdis hn hm b hbn hbm).elim
   ·rfl
  rcases own m b hm hbm with⟨q,h1,h2,h3⟩|⟨h1,h3⟩
  ·rcases own n b hn hbn with⟨r,h4,h5,h6⟩|⟨h4,h6⟩
   ·have hqr:=H.inj q r b h1 h4 h2 h5;subst hqr;rcases h3 with rfl|⟨h3,h3'⟩
    ·rcases h6 with rfl|⟨h6,h6'⟩
     ·rfl
     ·exact hd h6 h6' hm hn hbm hbn
    ·rcases h6 with rfl|⟨h6,h6'⟩
     ·exact hd h3' h3 hm hn hbm hbn
     ·exact hd h3' h6' hm hn hbm hbn
   ·have:=H.lt ⟨q,h1,h2⟩; omega
  ·rcases own n b hn hbn with⟨r,h4,h5,h6⟩|⟨h4,h6⟩
   ·have:=H.lt ⟨r,h4,h5⟩; omega
   ·exact hd h3 h6 hm hn hbm hbn
 ·rcases own m b hl hb with⟨q,h1,h2,_⟩|⟨h1,_⟩
  ·exact H.ghne q b h1 h2 hg
  ·have:=H.ghlt b hg; omega
def yw {l:List Value} {b:Nat}:η (.agg l.toArray) b↔∃u∈l,lZ u=some b:=by
 show(∃u∈l.toArray.toList,lZ u=some b)↔_;simp
def aos {k:IntKind} {xss:List (List Int)} {us:List Value} (h:ĉ (akm w k) xss us):∀u∈us,u.oneCell'=true:=by
 intro u hu;obtain⟨i,hi,rfl⟩:=dj.1 hu;obtain⟨xs,_,base,cap,e,_⟩:=h.get' (cQ hi);rw[e]; rfl
def ak1 {k:IntKind} {xss:List (List Int)} {us:List Value} (h:ĉ (akm w k) xss us):∀u∈us,∀b,lZ u=some b→b<w.heap.size:=by
 intro u hu b hb;obtain⟨i,hi,rfl⟩:=dj.1 hu;obtain⟨xs,_,base,cap,e,_,h1⟩:=h.get' (cQ hi);rw[e] at hb;rcases h1 with⟨rfl,_⟩|⟨b',off,c,e',rfl,h1,_⟩
 ·cases hb
 ·cases hb; exact ę h1
def apa (H:HR ν h w) {nid id g n:Nat} {t e:TypeId} {k:IntKind} {xs:List Int} {i:TypeInfo} {z:Value} (hnid:nid<h.length) (hd:lkB h nid=.dead) (ht:P.underlying t=some (.slice e)) (hi:P.info? e=some i) (hsz:i.size=1) (hz:i.zero=some z) (hzs:z.cells.size=1)
 (hl:lkB h id=.row (.int k) g false xs) (hn:n=1) {ux:Value} (hux:ux=ν id) :
 iT P ν h w (Instr.buildSlice t n #[(0,ux)]) (.dp nid 0) (Ē (Ē h id (.row (.int k) (g+1) false [])) nid (.deep k 0 [xs])):=by
 subst hn
 have hne:id≠nid:=fun e=>by rw[e,hd] at hl; cases hl
 have hid:id<h.length:=iB hl (by simp);have hB:=H.blk id;rw[hl] at hB;obtain⟨base,cap,h1,h2,h3⟩:=hB
 have hlive:(lkB h id).live=true:=by rw[hl]; rfl
 have h3':(base=none∧cap=0)∨∃b off c e,base=some ⟨b,off,none⟩∧w.heap[b]?=some (.cells c e (0,0))∧off+cap≤c.size∧∀(j:Nat) (x:Int),xs[j]?=some x→c[off+j]?=some (.int k x):=by
  rcases h3 with h3|⟨b,off,c,e',h3,h4,h5,h6⟩
  ·exact .inl h3
  ·refine .inr ⟨b,off,c,e',h3,h4,by simpa[Ty.size] using h5,fun j x hx=>?_⟩;obtain⟨us,q1,q2⟩:=h6 j x hx;have q1':us=[.int k x]:=q1;subst q1';have:=q2 0 _ rfl;simp only[World.cell?,h4] at this;simpa[Ty.size] using this
 have hone:(ν id).oneCell'=true:=by rw[h1]; rfl
 have hheap:(w.alloc (.cells #[ν id] e)).heap=w.heap.push (.cells #[ν id] e (0,0)):=rfl
 have hpush:∀b,b<w.heap.size→(w.alloc (.cells #[ν id] e)).heap[b]?=w.heap[b]?:=fun b hb=>by rw[hheap,eV]; simp[fM hb]
 obtain⟨ev,hr⟩:=upd2 (w':=w.alloc (.cells #[ν id] e)) (A:=.row (.int k) (g+1) false []) (B:=.deep k 0 [xs]) (U:=.slice none 0 0) (V:=.agg [Value.slice (some ⟨w.heap.size,0,none⟩) 1 1,ν id].toArray) H hne hid hnid rfl rfl rfl (by rw[hheap]; simp)
  (fun b hb _ _=>hpush b hb) (fun _ b hb=>by cases hb)
  (fun _ b hb=>by
   obtain⟨u,hu,hb⟩:=yw.1 hb;simp only[df,fY,or_false] at hu;rcases hu with rfl|rfl
   ·cases hb; exact .inr (.inr (cR _))
   ·exact .inl ⟨hlive,by rw[h1] at hb ⊢; exact hb⟩)
  (fun _ _ b hb _=>by cases hb)
  (by rw[hl]; exact⟨g+1,false,[],rfl,gx _,fun hf=>by omega⟩) (by rw[hd]; trivial)
  (fun ev=>⟨none,0,by rw[Ξ _ _ hne,ã]; rfl,cR _,.inl ⟨rfl,rfl⟩⟩)
  (fun ev=>by
   have hnew:(w.alloc (.cells #[ν id] e)).heap[w.heap.size]?=some (.cells #[ν id] e (0,0)):=by rw[hheap]; simp
   refine⟨some ⟨w.heap.size,0,none⟩,1,[ν id],by rw[ã]; rfl,by simp,?_,.inr ⟨w.heap.size,0,#[ν id],e,rfl,hnew,by simp,fun m u hm=>?_⟩,⟨base,cap,h1,h2,?_⟩,trivial⟩
   ·refine List.Pairwise.cons (fun v hv b hb hvb=>?_) (gI _ _);simp at hv;subst hv
    obtain rfl:w.heap.size=b:=by simpa[lZ] using hb
    have:=H.lt ⟨id,hlive,by rw[h1] at hvb ⊢; exact hvb⟩;omega
   ·cases m with
    |zero=>simpa using hm
    |succ m=>simp at hm
   ·rcases h3' with h3|⟨b,off,c,e',h3,h4,h5⟩
    ·exact .inl h3
    ·exact .inr ⟨b,off,c,e',h3,by
      rw[hpush b (ę h4),h4],h5⟩)
 refine⟨_,w.alloc (.cells #[ν id] e),.slice (some ⟨w.heap.size,0,none⟩) 1 1,?_,⟨rfl,k,0,[xs],?_,cR _,fun _=>⟨[ν id],ã _ _ _⟩⟩,hr,ev,by rw[ß,ß]⟩
 ·subst hux;simp only[Instr.buildSlice,Sem.run_bind,run_underlying ht,Result.andThen_ok,sizeOf,typeInfo,run_program,hi,Sem.run_pure,hsz];rw[show(2:Nat) ^ 24=16777216 from rfl,if_neg (by omega:¬1*1>16777216)];simp only[gu,Nat.one_ne_zero,if_false,Sem.run_bind,zeroValue,typeInfo,run_program,hi,hz,Sem.run_pure,Result.andThen_ok]
  have hfill:Instr.fill (fun i=>some (i*1,1)) ((Array.range 1).map (fun j=>z.cells[j % z.cells.size]!)) [(0,ν id)]=some #[ν id]:=by
   have:=IR (place:=fun i=>some (i*1,1)) (cells:=(Array.range 1).map (fun j=>z.cells[j % z.cells.size]!)) (i:=0) (v:=ν id) (rest:=[]) (off:=0) (size:=1) rfl (by have:=AH hone; simpa using congrArg List.length this) (by simp);rw[this];have hc:=AH hone;simp[Instr.fill,hc]
  simp only[gu] at hfill
  erw [hfill]
  simp[newRow]
 ·exact ø _ (by rw[ß]; exact hnid)
def afc {k:IntKind} {base:Option Addr} {cap:Nat} {xss:List (List Int)} {us:List Value} (h10:ĉ (akm w k) xss us)
 (h9:(base=none∧cap=0)∨∃b off c e,base=some ⟨b,off,none⟩∧w.heap[b]?=some (.cells c e (0,0))∧off+cap≤c.size∧∀(i:Nat) (u:Value),us[i]?=some u→c[off+i]?=some u) (hc:xss.length≤cap) :
 (∀a,base=some a→∀j u,us[j]?=some u→w.cell? (a.add j)=some u)∧(base=none→us=[]):=by
 constructor
 ·intro a ha j u hj;rcases h9 with⟨h9,_⟩|⟨b,off,c,e,h9,h11,_,h13⟩
  ·rw[h9] at ha; cases ha
  ·rw[h9] at ha; cases ha;rw[ň];simp only[World.cell?,h11];exact h13 j u hj
 ·intro hb;rcases h9 with⟨_,h9⟩|⟨b,off,c,e,h9,_⟩
  ·have:=h10.length;exact dt.1 (by omega)
  ·rw[hb] at h9; cases h9
def aaD (H:HR ν h w) {j id2:Nat} (hne:id2≠j) (hj:j<h.length) {k:IntKind} {g2 g':Nat} {xss yss:List (List Int)} (hl2:lkB h id2=.deep k g2 yss) {base2:Option Addr} {cap2:Nat} {us us2:List Value} (hν2:ν id2=.agg (Value.slice base2 yss.length cap2::us2).toArray)
 (hnext:∀W,(lkB h j).next ν W j (.deep k g' (xss++yss)))
 (hrows:ĉ (akm w k) xss us) (hus:∀u∈us,∀b,lZ u=some b→(lkB h j).live=true∧η (ν j) b) (hap:ae6 us)
 {base':Option Addr} {cap':Nat} {w':World} (hcap:xss.length+yss.length≤cap') (hos:w'.os=w.os) (htape:w'.tape=w.tape) (hout:w'.output=w.output) (hsize:w.heap.size≤w'.heap.size)
 (hblk:∀b,lZ (.slice base' (xss.length+yss.length) cap')=some b→((lkB h j).live=true∧η (ν j) b∧∀u∈us,lZ u≠some b)∨w.heap.size≤b)
 (hkeep:∀b,b<w.heap.size→lZ (.slice base' (xss.length+yss.length) cap')≠some b→w'.heap[b]?=w.heap[b]?)
 (hcells:(base'=none∧cap'=0)∨∃b off c e,base'=some ⟨b,off,none⟩∧w'.heap[b]?=some (.cells c e (0,0))∧off+cap'≤c.size∧∀(m:Nat) (u:Value),(us++us2)[m]?=some u→c[off+m]?=some u) :
 Ev h.length ν h w (ď (ď ν id2 (.agg [Value.slice none 0 0].toArray)) j (.agg (Value.slice base' (xss.length+yss.length) cap'::(us++us2)).toArray)) (Ē (Ē h id2 (.deep k (g2+1) [])) j (.deep k g' (xss++yss))) w' ∧
  HR (ď (ď ν id2 (.agg [Value.slice none 0 0].toArray)) j (.agg (Value.slice base' (xss.length+yss.length) cap'::(us++us2)).toArray)) (Ē (Ē h id2 (.deep k (g2+1) [])) j (.deep k g' (xss++yss))) w':=by
 have hid2:id2<h.length:=iB hl2 (by simp);obtain⟨base2',cap2',us2',q1,q2,q3,q4,q5⟩:=H.table hl2;rw[hν2] at q1;have q:=mW q1
 injection q with e1 e2
 subst e2
 have hlive2:(lkB h id2).live=true:=by rw[hl2]; rfl
 have own2:∀u∈us2,∀b,lZ u=some b→η (ν id2) b:=fun u hu b hb=>by rw[hν2]; exact yw.2 ⟨u,by simp[hu],hb⟩
 have hap2:ae6 us2:=q3.sublist (List.sublist_cons_self _ _)
 have hdiff:∀u∈us,∀v∈us2,∀b,lZ u=some b→lZ v≠some b:=fun u hu v hv b hb hvb =>
  hne (H.inj id2 j b hlive2 (hus u hu b hb).1 (own2 v hv b hvb) (hus u hu b hb).2)
 have hV0:∀u∈us++us2,∀b,lZ (.slice base' (xss.length+yss.length) cap')=some b→lZ u≠some b:=fun u hu b hb hub=>by
  rcases hblk b hb with⟨h1,h2,h3⟩|h1
  ·rcases dc.1 hu with hu|hu
   ·exact h3 u hu hub
   ·exact hne (H.inj id2 j b hlive2 h1 (own2 u hu b hub) h2)
  ·rcases dc.1 hu with hu|hu
   ·have:=ak1 hrows u hu b hub; omega
   ·have:=ak1 q5 u hu b hub; omega
 have hrow':∀u∈us++us2,∀b,lZ u=some b→b<w.heap.size→w'.heap[b]?=w.heap[b]?:=fun u hu b hb hlt=>hkeep b hlt fun hv=>hV0 u hu b hv hb;refine upd2 H hne hid2 hj hos htape hout hsize (fun b hb h1 h2=>hkeep b hb fun hv=>?_) (fun _ b hb=>?_) (fun _ b hb=>?_) (fun _ _ b hb _=>?_) ?_ (hnext _) (fun ev=>?_) (fun ev=>?_)
 ·rcases hblk b hv with⟨h3,h4,_⟩|h3
  ·exact h2 h3 h4
  ·omega
 ·obtain⟨u,hu,hb⟩:=yw.1 hb;simp at hu;subst hu;cases hb
 ·obtain⟨u,hu,hb⟩:=yw.1 hb;rcases df.1 hu with rfl|hu
  ·rcases hblk b hb with⟨h3,h4,_⟩|h3
   ·exact .inr (.inl ⟨h3,h4⟩)
   ·exact .inr (.inr h3)
  ·rcases dc.1 hu with hu|hu
   ·exact .inr (.inl (hus u hu b hb))
   ·exact .inl ⟨hlive2,own2 u hu b hb⟩
 ·obtain⟨u,hu,hb⟩:=yw.1 hb;simp at hu;subst hu;cases hb
 ·rw[hl2]; exact⟨g2+1,[],rfl,gx _,fun hf=>by omega⟩
 ·exact⟨none,0,[],by rw[Ξ _ _ hne,ã]; rfl,cR _,gI _ _,.inl ⟨rfl,rfl⟩,trivial⟩
 ·refine⟨base',cap',us++us2,by rw[ã,cX],by rw[cX]; exact hcap,?_,hcells,?_⟩
  ·rw[cX];exact List.Pairwise.cons (fun v hv b hb=>hV0 v hv b hb) (List.pairwise_append.2 ⟨hap,hap2,fun u hu v hv b hb=>hdiff u hu v hv b hb⟩)
  ·exact(hrows.append q5).keepRows hrow'
def aiJ {n b:Nat} (h1:n≤4294967296) (h2:b≤32768):n*b≤140737488355328:=by
 have:=gg h1 h2;omega
def aew (H:HR ν h w) (t ty:TypeId) {e:TypeId} {i:TypeInfo} {z:Value} (ht:P.underlying t=some (.slice e)) (hi:P.info? e=some i) (hz:i.zero=some z) (hsz:i.size=1) (hby:i.bytes≤32768) (hzs:z.cells.size=1)
 {j id2:Nat} (hne:id2≠j) (hj:j<h.length) {k:IntKind} {g2 g':Nat} {xss yss:List (List Int)} (hl2:lkB h id2=.deep k g2 yss) {base base2:Option Addr} {cap cap2:Nat} {us us2:List Value} (hν2:ν id2=.agg (Value.slice base2 yss.length cap2::us2).toArray)
 (hnext:∀W,(lkB h j).next ν W j (.deep k g' (xss++yss)))
 (hx:(base=none∧cap=0∧xss=[]∧us=[])∨∃g,lkB h j=.deep k g xss∧ν j=.agg (Value.slice base xss.length cap::us).toArray)
 (hlen:xss.length+yss.length≤4294967296) :
 ∃V w',(Builtin.append_ #[t,t] ty #[.slice base xss.length cap,.slice base2 yss.length cap2]).run P w=.ok V w'∧V.oneCell'=true ∧
  Ev h.length ν h w (ď (ď ν id2 (.agg [Value.slice none 0 0].toArray)) j (.agg (V::(us++us2)).toArray)) (Ē (Ē h id2 (.deep k (g2+1) [])) j (.deep k g' (xss++yss))) w' ∧
  HR (ď (ď ν id2 (.agg [Value.slice none 0 0].toArray)) j (.agg (V::(us++us2)).toArray)) (Ē (Ē h id2 (.deep k (g2+1) [])) j (.deep k g' (xss++yss))) w':=by
 obtain⟨base2',cap2',us2',q1,q2,q3,q4,q5⟩:=H.table hl2;rw[hν2] at q1;have q:=mW q1
 injection q with e1 e2
 injection e1 with e1 e3 e4
 subst e1 e2 e4;obtain⟨c2,n2⟩:=afc q5 q4 q2;have l2:=q5.length;have hone2:=aos q5
 -- the table that grows
 have hX:ĉ (akm w k) xss us∧(∀u∈us,∀b,lZ u=some b→(lkB h j).live=true∧η (ν j) b)∧ae6 us ∧
  ((base=none∧cap=0∧us=[]∧xss=[])∨∃b off c e,base=some ⟨b,off,none⟩∧w.heap[b]?=some (.cells c e (0,0))∧off+cap≤c.size∧xss.length≤cap∧(∀(i:Nat) (u:Value),us[i]?=some u→c[off+i]?=some u)∧((lkB h j).live=true∧η (ν j) b∧∀u∈us,lZ u≠some b)):=by
  rcases hx with⟨rfl,rfl,rfl,rfl⟩|⟨g,hl,hν⟩
  ·exact⟨trivial,fun u hu=>(by cases hu),List.Pairwise.nil,.inl ⟨rfl,rfl,rfl,rfl⟩⟩
  ·obtain⟨b',c',us',p1,p2,p3,p4,p5⟩:=H.table hl;rw[hν] at p1;have q:=mW p1
   injection q with e1 e2
   injection e1 with e1 e3 e4
   subst e1 e2 e4
   have hlive:(lkB h j).live=true:=by rw[hl]; rfl
   refine⟨p5,fun u hu b hb=>⟨hlive,by rw[hν]; exact yw.2 ⟨u,by simp[hu],hb⟩⟩,p3.sublist (List.sublist_cons_self _ _),?_⟩;rcases p4 with⟨rfl,rfl⟩|⟨b,off,c,e',rfl,p6,p7,p8⟩
   ·have h0:xss=[]:=dt.1 (by omega);subst h0;exact .inl ⟨rfl,rfl,dt.1 p5.length.symm,rfl⟩
   ·exact .inr ⟨b,off,c,e',rfl,p6,p7,p2,p8,hlive,by rw[hν]; exact yw.2 ⟨_,.head _,rfl⟩,fun u hu hub=>(dP.1 p3).1 u hu b rfl hub⟩
 obtain⟨x1,x2,x3,x4⟩:=hX;have l1:=x1.length
 have hU2:yss≠[]→∃a,base2=some a:=fun hy=>by
  cases hb:base2 with
  |none=>exact absurd (dt.1 (by rw[l2,n2 hb]; rfl)) hy
  |some a=>exact⟨a,rfl⟩
 -- a new array
 have hnew:∀old:Nat,∃V w',(Result.ok (Value.slice (some ⟨w.heap.size,0,none⟩) (xss.length+yss.length) (grownCap w (xss.length+yss.length) old e))
  (w.drew.alloc (.cells (us.toArray++us2.toArray++Builtin.zeroCells z.cells (grownCap w (xss.length+yss.length) old e-(xss.length+yss.length))) e)):Result Value)=.ok V w'∧V.oneCell'=true ∧
  Ev h.length ν h w (ď (ď ν id2 (.agg [Value.slice none 0 0].toArray)) j (.agg (V::(us++us2)).toArray)) (Ē (Ē h id2 (.deep k (g2+1) [])) j (.deep k g' (xss++yss))) w' ∧
  HR (ď (ď ν id2 (.agg [Value.slice none 0 0].toArray)) j (.agg (V::(us++us2)).toArray)) (Ē (Ē h id2 (.deep k (g2+1) [])) j (.deep k g' (xss++yss))) w':=by
  intro old;have hge:=grownCap_ge w (xss.length+yss.length) old e;obtain⟨q,hq⟩:∃q,q=grownCap w (xss.length+yss.length) old e:=⟨_,rfl⟩;rw[←hq] at hge ⊢;obtain⟨cs,hcs⟩:∃cs,cs=us.toArray++us2.toArray++Builtin.zeroCells z.cells (q-(xss.length+yss.length)):=⟨_,rfl⟩
  have hsize:cs.size=q:=by
   rw[hcs];simp only[gK,eT,size_zeroCells,hzs];omega
  have hget:∀(m:Nat) (u:Value),(us++us2)[m]?=some u→cs[m]?=some u:=fun m u hm=>by
   rw[←eE] at hm;rw[hcs,eX,if_pos]
   ·simpa using hm
   ·have:=(er.1 hm).1;simpa using this
  rw[←hcs];have hheap:(w.drew.alloc (.cells cs e)).heap=w.heap.push (.cells cs e (0,0)):=rfl
  have hlast:(w.drew.alloc (.cells cs e)).heap[w.heap.size]?=some (.cells cs e (0,0)):=by rw[hheap]; exact Array.getElem?_push_size
  exact⟨_,_,rfl,rfl,aaD (w':=w.drew.alloc (.cells cs e)) H hne hj hl2 hν2 hnext x1 x2 x3 (base':=some ⟨w.heap.size,0,none⟩) (cap':=q) hge rfl rfl rfl (by rw[hheap]; simp)
   (fun b hb=>.inr (by cases hb; exact cR _)) (fun b hb _=>by rw[hheap,eV]; simp[fM hb]) (.inr ⟨w.heap.size,0,cs,e,rfl,hlast,by omega,fun m u hm=>by rw[dl]; exact hget m u hm⟩)⟩
 rcases x4 with⟨rfl,rfl,rfl,rfl⟩|⟨b,off,c,e',rfl,p6,p7,p8,p9,p10⟩
 ·by_cases hy:yss=[]
  ·subst hy;have hu2:us2=[]:=dt.1 l2.symm;subst hu2;have hrun:=pG (P:=P) (w:=w) t ty e i ht hi base2 cap2;exact⟨_,w,hrun,rfl,aaD H hne hj hl2 hν2 hnext x1 x2 x3 (base':=none) (cap':=0) (cR _) rfl rfl rfl (cR _) (fun b hb=>by cases hb) (fun b _ _=>rfl) (.inl ⟨rfl,rfl⟩)⟩
  ·have h0:0<yss.length:=f5.2 hy;obtain⟨a,rfl⟩:=hU2 hy;rw[dw,dl] at hlen;have hb48:=aiJ hlen hby;have hrun:=run_append_nil (P:=P) w t ty e i z ht hi hz a yss.length cap2 us2 (by rw[hsz]; omega) (c2 a rfl) h0 (by omega) (by omega);obtain⟨V,w',h1,h2,h3⟩:=hnew 0;refine⟨V,w',?_,h2,h3⟩;rw[←h1];simpa using hrun
 ·by_cases hroom:xss.length+yss.length≤cap
  ·have hrun:=oc (P:=P) (o:=off) (sLen:=xss.length) (sCap:=cap) t ty e i ht hi p6 base2 yss.length cap2 us2 (by rw[hsz]; omega) c2 n2 hone2 hroom (by rw[hsz]; omega);rw[hsz,gu] at hrun;obtain⟨cs,hcs⟩:∃cs,cs=(c.toList.take (off+xss.length)++us2++c.toList.drop (off+xss.length+us2.length)).toArray:=⟨_,rfl⟩
   have hsize:cs.size=c.size:=by
    rw[hcs];simp only[eT,cX,di,gN,fm];omega
   have hget:∀(m:Nat) (u:Value),(us++us2)[m]?=some u→cs[off+m]?=some u:=fun m u hm=>by
    have hs:=pn c.toList us2 (off+xss.length) (off+m) (by rw[show c.toList.length=c.size from fm]; omega);rw[hcs,eE,hs];rw[eS] at hm
    split at hm
    ·rw[if_pos (by omega)];simpa using p9 m u hm
    ·have hml:=(cY.1 hm).1;rw[if_neg (by omega),if_pos (by omega),show off+m-(off+xss.length)=m-us.length by omega];exact hm
   rw[←hcs] at hrun;have hh:(w.setRow b cs).heap[b]?=some (.cells cs e' (0,0)):=setRow_heap w b c _ e' _ p6
   exact⟨_,_,hrun,rfl,aaD (w':=w.setRow b cs) H hne hj hl2 hν2 hnext x1 x2 x3 (base':=some ⟨b,off,none⟩) (cap':=cap) hroom rfl rfl rfl (by rw[vv]; exact cR _)
    (fun b' hb=>.inl (by cases hb; exact p10)) (fun b' hb hne'=>setRow_other w b b' _ fun he=>hne' (by rw[he]; rfl)) (.inr ⟨b,off,cs,e',rfl,hh,by omega,hget⟩)⟩
  ·have hy:yss≠[]:=fun e=>by rw[e,dw] at hroom; omega
   have h0:0<yss.length:=f5.2 hy;obtain⟨a,rfl⟩:=hU2 hy;have hrun:=run_append_grow (P:=P) w t ty e i z ht hi hz ⟨b,off,none⟩ xss.length cap us (by rw[hsz]; omega) (fun m u hm=>by rw[ň]; simp only[World.cell?,p6]; exact p9 m u hm) a yss.length cap2 us2 (by rw[hsz]; omega) (c2 a rfl) (by omega) (by omega) (growslice_fits (by omega) (aiJ hlen hby));obtain⟨V,w',h1,h2,h3⟩:=hnew cap;exact⟨V,w',hrun.trans h1,h2,h3⟩
def aq4 {S:St} {a:Act} {nid n:Nat} {t:TypeId} {ps:Array (Nat×Operand)} {v:AV} (H:Sim ν S a w) (hn:nid<S.h.length) (hd:lkB S.h nid=.dead)
 (e:agI P S.h nid n t (ps.toList.map fun p=>(p.1,ev S.t p.2)) (fun v h=>some (v,h))=some (v,h')):iT P ν S.h w (Instr.buildSlice t n (ps.map fun(i,x)=>(i,a.eval x))) v h':=by
 cases hps:ps.toList with
 |nil=>rw[hps] at e; cases e
 |cons p l =>
 cases l with
 |cons q l=>rw[hps] at e; cases e
 |nil =>
 obtain⟨p1,x⟩:=p;rw[hps] at e;simp only[eP,fo,agI] at e;have hv:=Œ H x
 cases hev:ev S.t x<;>rw[hev] at e<;>simp only at e<;>try (cases e; done)
 rename_i id g;rw[hev] at hv
 split at e<;>try (cases e; done)
 rename_i el hel
 split at e<;>try (cases e; done)
 rename_i hc
 split at e<;>try (cases e; done)
 rename_i k g' xs hl
 split at e<;>try (cases e; done)
 rename_i hgg;cases e;simp only[cW] at hc;obtain⟨hrow,h0,h1⟩:=hc;obtain rfl:=dk h0;obtain rfl:=dk h1
 obtain rfl:g=g':=by simpa using hgg
 obtain⟨ti,z,hi,hsz,_,hby,hz,hzs⟩:=mq hrow;have hpa:ps=#[(0,x)]:=d8.1 (by rw[hps]);subst hpa;obtain⟨_,t2,g2,fz2,xs2,hl2,_,hv2⟩:=hv;rw[hl] at hl2;cases hl2
 have hm:((#[(0,x)]:Array (Nat×Operand)).map fun(i,x)=>(i,a.eval x))=#[(0,a.eval x)]:=by simp
 rw[hm];exact apa H.heap hn hd (kY hel) hi hsz hz hzs hl rfl (hv2 rfl)
def aq5 {nid:Nat} {t ty:TypeId} {s v:AV} {id2 g2:Nat} {us ux:Value} (H:HR ν h w) (hn:nid<h.length) (hd:lkB h nid=.dead)
 (e:aex P h nid t s id2 g2 (fun v h=>some (v,h))=some (v,h')) (hs:VR ν h w s us) (hx:VR ν h w (.dp id2 g2) ux):iT P ν h w (Builtin.append_ #[t,t] ty #[us,ux]) v h':=by
 unfold aex at e
 split at e<;>try (cases e; done)
 rename_i el hel
 split at e<;>try (cases e; done)
 rename_i hrow
 split at e<;>try (cases e; done)
 rename_i k g2' yss hl2
 split at e<;>try (cases e; done)
 rename_i hgg
 obtain rfl:g2=g2':=by simpa using hgg
 obtain⟨ti,z,hi,hsz,_,hby,hz,hzs⟩:=mq hrow;have ht:=kY hel;have hid2:id2<h.length:=iB hl2 (by simp);obtain⟨_,k2,g3,yss2,hl3,_,hv2⟩:=hx;rw[hl2] at hl3; cases hl3;obtain⟨us2,hν2⟩:=hv2 rfl;obtain⟨base2,cap2,us2',q1,_⟩:=H.table hl2;have q1':=q1;rw[hν2] at q1;have q:=mW q1
 injection q with e1 e2
 subst e1 e2
 split at e
 ·-- nil
  split at e<;>try (cases e; done)
  rename_i hok;cases e;have hus:us=.slice none 0 0:=hs;subst hus
  have hne:id2≠nid:=fun e=>by rw[e,hd] at hl2; cases hl2
  obtain⟨V,w',h1,h2,h3,h4⟩:=aew H t ty ht hi hz hsz hby hzs hne hn (g':=0) (xss:=[]) (us:=[]) hl2 hν2 (fun W=>by rw[hd]; trivial) (.inl ⟨rfl,rfl,rfl,rfl⟩) (by simp[ë] at hok; simpa using hok);refine⟨_,w',V,h1,⟨h2,k,0,yss,ø _ (by rw[ß]; exact hn),cR _,fun _=>⟨_,ã _ _ _⟩⟩,h4,h3,by rw[ß,ß]⟩
 ·rename_i id g
  split at e<;>try (cases e; done)
  rename_i hid
  split at e<;>try (cases e; done)
  rename_i k' g' xss hl
  split at e<;>try (cases e; done)
  rename_i hg
  split at e<;>try (cases e; done)
  rename_i hk _;subst hk
  split at e<;>try (cases e; done)
  rename_i hok
  obtain rfl:g=g':=by simpa using hg
  cases e
  have hne:id2≠id:=fun e=>by rw[e] at hid; simp at hid
  have hidl:id<h.length:=iB hl (by simp);obtain⟨_,k3,g4,xss3,hl4,_,hv3⟩:=hs;rw[hl] at hl4; cases hl4;obtain⟨us1,hν1⟩:=hv3 rfl;obtain⟨base,cap,us1',p1,_⟩:=H.table hl;rw[hν1] at p1;have q:=mW p1
  injection q with e1 e2
  subst e1 e2;obtain⟨V,w',h1,h2,h3,h4⟩:=aew H t ty ht hi hz hsz hby hzs hne hidl (g':=g+1) (xss:=xss) (us:=us1) hl2 hν2 (fun W=>by rw[hl]; exact⟨g+1,xss++yss,rfl,gx _,fun hf=>by omega⟩) (.inr ⟨g,hl,hν1⟩) (by simpa[ë] using hok);refine⟨_,w',V,h1,⟨h2,_,g+1,xss++yss,ø _ (by rw[ß]; exact hidl),cR _,fun _=>⟨_,ã _ _ _⟩⟩,h4,h3,by rw[ß,ß]⟩
 ·cases e
end
end Go.Am
end

noncomputable section
namespace Go.Am
variable {ρ:Type}
def Fm (k:IntKind) (n:Int) (K:AV→Option ρ):arK k n K=(arK k n some).bind K:=rfl
def BM (P:Program) (op:BinOp) (t:TypeId) (x y:AV) (K:AV→Option ρ):binK P op t x y K=(binK P op t x y some).bind K:=by
 unfold binK; (repeat' split)<;>first|rfl|exact Fm _ _ _
def Bi (d:Option TypeDesc) (h:List Blk) (x:AV) (K:AV→Option ρ):aoN d h x K=(aoN d h x some).bind K:=by
 unfold aoN; (repeat' split)<;>rfl
def pz (sz:Nat) (h:List Blk) (x i:AV) (K:AV→Option ρ):II sz h x i K=(II sz h x i some).bind K:=by
 unfold II; (repeat' split)<;>rfl
def pp (h:List Blk) (x:AV) (o:Nat) (K:AV→Option ρ):B8 h x o K=(B8 h x o some).bind K:=by
 unfold B8; (repeat' split)<;>rfl
def uO (P:Program) (h:List Blk) (t:TypeId) (a:AV) (K:AV→Option ρ):VO P h t a K=(VO P h t a some).bind K:=by
 unfold VO; (repeat' split)<;>rfl
def pm (P:Program) (h:List Blk) (t:TypeId) (a v:AV) (K:List Blk→Option ρ):xj P h t a v K=(xj P h t a v some).bind K:=by
 unfold xj; (repeat' split)<;>rfl
def A0 (sz:Nat) (h:List Blk) (x:AV) (lo hi:Option AV) (eat:Bool) (K:AV→List Blk→Option ρ) :
 qP sz h x lo hi eat K=(qP sz h x lo hi eat fun v h=>some (v,h)).bind fun r=>K r.1 r.2:=by
 unfold qP; (repeat' split)<;>rfl
def xf (P:Program) (h:List Blk) (nid:Nat) (t:TypeId) (s x:AV) (K:AV→List Blk→Option ρ) :
 AP P h nid t s x K=(AP P h nid t s x fun v h=>some (v,h)).bind fun r=>K r.1 r.2:=by
 unfold AP; (repeat' split)<;>rfl
def Jl (P:Program) (h:List Blk) (nid:Nat) (t:TypeId) (s:AV) (id g:Nat) (K:AV→List Blk→Option ρ) :
 aex P h nid t s id g K=(aex P h nid t s id g fun v h=>some (v,h)).bind fun r=>K r.1 r.2:=by
 unfold aex; (repeat' split)<;>rfl
def Jh (P:Program) (h:List Blk) (nid n:Nat) (t:TypeId) (ps:List (Nat×AV)) (K:AV→List Blk→Option ρ) :
 agI P h nid n t ps K=(agI P h nid n t ps fun v h=>some (v,h)).bind fun r=>K r.1 r.2:=by
 unfold agI; (repeat' split)<;>rfl
def AW (P:Program) (h:List Blk) (nid:Nat) (t:TypeId) (s x:AV) (K:AV→List Blk→Option ρ) :
 LR P h nid t s x K=(LR P h nid t s x fun v h=>some (v,h)).bind fun r=>K r.1 r.2:=by
 unfold LR; (repeat' split)<;>rfl
def BG (P:Program) (h:List Blk) (t:TypeId) (x:AV) (K:List Blk→Option ρ):Nf P h t x K=(Nf P h t x some).bind K:=by
 unfold Nf; (repeat' split)<;>rfl
def mL (P:Program) (h:List Blk) (t:TypeId) (m i:AV) (ok:Bool) (K:AV→Option ρ):ot P h t m i ok K=(ot P h t m i ok some).bind K:=by
 unfold ot; (repeat' split)<;>rfl
def m6 (P:Program) (h:List Blk) (t:TypeId) (m i x:AV) (K:List Blk→Option ρ):kR P h t m i x K=(kR P h t m i x some).bind K:=by
 unfold kR; (repeat' split)<;>rfl
def iF (gt:Bool) (l:List AV) (K:AV→Option ρ):∀x,ln gt x l K=(ln gt x l some).bind K:=by
 induction l with
 |nil=>intro x; rfl
 |cons y l ih =>
  intro x
  cases x<;>cases y<;>try rfl
  unfold ln; (repeat' split)<;>first|rfl|exact ih _
def opR (P:Program) (S:St) (nid:Nat) (eat:Bool) (o:Op):Option (AV×St):=opK P S nid eat o fun v S=>some (v,S)
def Α {α β γ:Type} {x:Option α} {y:Option β} {f:α→Option β} {g:β→Option γ} {k:α→Option γ} {z:Option γ}
 (h1:z=x.bind k) (h2:y=x.bind f) (h:∀a,k a=(f a).bind g):z=y.bind g:=by
 subst h1 h2; cases x with
 |none=>rfl
 |some a=>exact h a
def iU (j:Int) (K:Nat→Option ρ):∀(n q:Nat),abP n q j K=(abP n q j some).bind K
 |0,_=>rfl
 |n+1,q=>by
  unfold abP
  split
  ·rfl
  ·exact iU j K n (q+1)
def JO {j:Int} {v:Nat}:∀{n q:Nat},abP n q j some=some v→j=(v:Int)∧q≤v∧v<q+n
 |0,_,h=>by cases h
 |n+1,q,h=>by
  unfold abP at h
  split at h
  ·rename_i hd;cases h;exact⟨of_decide_eq_true hd,cR _,by omega⟩
  ·obtain⟨h1,h2,h3⟩:=JO h;exact⟨h1,by omega,by omega⟩
def afA (P:Program) (S:St) (nid:Nat) (eat:Bool) (o:Op) (K:AV→St→Option ρ) :
 opK P S nid eat o K=(opR P S nid eat o).bind fun r=>K r.1 r.2:=by
 unfold opR;unfold opK;dsimp only
 (repeat' split)<;>first
  |rfl
  |exact Α (Bi ..) (Bi ..) fun _=>rfl
  |exact Α (uO ..) (uO ..) fun _=>rfl
  |exact Α (pm ..) (pm ..) fun _=>rfl
  |exact Α (BM ..) (BM ..) fun _=>rfl
  |exact Α (m6 ..) (m6 ..) fun _=>rfl
  |exact Α (mL ..) (mL ..) fun _=>rfl
  |exact Α (xf ..) (xf ..) fun _=>rfl
  |exact Α (Jl ..) (Jl ..) fun _=>rfl
  |exact Α (Jh ..) (Jh ..) fun _=>rfl
  |exact Α (AW ..) (AW ..) fun _=>rfl
  |exact Α (BG ..) (BG ..) fun _=>rfl
  |exact Α (iF _ _ _ _) (iF _ _ _ _) fun _=>rfl
  |exact Α (Fm ..) (Fm ..) fun _=>rfl
  |exact Α (A0 ..) (A0 ..) fun _=>rfl
  |exact Α (pp ..) (pp ..) fun _=>rfl
  |exact Α (pz ..) (pz ..) fun _=>rfl
  |exact Α (iU ..) (iU ..) fun _=>rfl
  |exact Α (iU ..) (iU ..) fun _=>by(repeat' split)<;>rfl
end Go.Am
end

noncomputable section
namespace Go.Am
variable [ô]
section
variable {ν ν':Nat→Value} {w w':World} {P:Program}
def akk (ν:Nat→Value) (S:St) (w:World) (r:Result Next) (v:AV) (S':St):Prop :=
 ∃ν' w' u,(r=.ok (.value u) w'∨(r=.ok .skip w'∧u=undef))∧VR ν' S'.h w' v u∧HR ν' S'.h w'∧Ev S.h.length ν S.h w ν' S'.h w'∧S'.h.length=S.h.length∧S'.t=S.t
def iT.step {S:St} {x:Sem Value} {v:AV} {h':List Blk} (hd:iT P ν S.h w x v h') :
 akk ν S w ((do let u ←x; pure (.value u):Sem Next).run P w) v {t:=S.t,h:=h'}:=by
 obtain⟨ν',w',u,h1,h2,h3,h4,h5⟩:=hd;refine⟨ν',w',u,.inl ?_,h2,h3,h4,h5,rfl⟩;simp[h1]
def akk.still {S:St} {r:Result Next} {v:AV} {u:Value} (H:HR ν S.h w) (hr:r=.ok (.value u) w) (hv:VR ν S.h w v u):akk ν S w r v S :=
 ⟨ν,w,u,.inl hr,hv,H,Ev.refl _ _ _ _,rfl,rfl⟩
def abm {S:St} {x:Sem Unit} {h':List Blk} (hd:∃w',x.run P w=.ok () w'∧HR ν h' w'∧Ev S.h.length ν S.h w ν h' w'∧h'.length=S.h.length) :
 akk ν S w ((do x; pure .skip:Sem Next).run P w) .any {t:=S.t,h:=h'}:=by
 obtain⟨w',h1,h3,h4,h5⟩:=hd;refine⟨ν,w',undef,.inr ⟨?_,rfl⟩,trivial,h3,h4,h5,rfl⟩;simp[h1]
def al1 {a:AV} {v:Value} {h:List Blk} (hi:isV0 a=true) (hv:VR ν h w a v):VR0 ν h w a v:=by
 have h1:a.isFn=false:=by cases a<;>first|rfl|cases hi
 have h2:a.isAgg=false:=by cases a<;>first|rfl|cases hi
 have h3:a.isTup=false:=by cases a<;>first|rfl|cases hi
 rwa [LN h3,XH h2,TR h1] at hv
def ĉ.of_map {α β γ:Type} {R:β→γ→Prop} {f:α→β} {g:α→γ}:∀{l:List α},(∀x∈l,R (f x) (g x))→ĉ R (l.map f) (l.map g)
 |[],_=>trivial
 |x::l,h=>⟨h x (by simp),ĉ.of_map fun y hy=>h y (by simp[hy])⟩
def aor (k:IntKind) (a b:Int):(Builtin.max2 (.int k a) (.int k b)).run P w=.ok (.int k (T0 a b)) w:=rfl
def aoq (k:IntKind) (a b:Int):(Builtin.min2 (.int k a) (.int k b)).run P w=.ok (.int k (aam a b)) w:=rfl
def ak0 {S:St} {a:Act} {x y:Operand} (h:DW x y=true):a.eval x=a.eval y:=by
 unfold DW at h
 split at h
 ·have:=eq_of_beq h; subst this; rfl
 ·have:=of_decide_eq_true h; subst this; rfl
 ·cases h
def δ {α β:Type} {x:Option α} {f:α→Option β} {r:β} (h:x.bind f=some r):∃a,x=some a∧f a=some r:=by
 cases x with
 |none=>cases h
 |some a=>exact⟨a,rfl,h⟩
def arr1 {α:Type} {a:Array α} {x:α} (h:a.toList=[x]):a=#[x]:=ff (by simpa using h)
def arr2 {α:Type} {a:Array α} {x y:α} (h:a.toList=[x,y]):a=#[x,y]:=ff (by simpa using h)
def kz {S:St} {a:Act} {o:Oper} {b:Builtin} {args:Array Operand} {tys:Array TypeId} {f:Array TypeId→TypeId→Array Value→Sem Value} (hop:o.op=.call ⟨.builtin b,args,tys⟩)
 (hb:∀consts vs,builtin b tys o.type consts vs=(do pure (.value (←f tys o.type vs)):Sem Next)) :
 execOp a.eval o=(do let u ←f tys o.type (args.map a.eval); pure (.value u)):=by
 unfold execOp;rw[hop];simp only[resolve,pure_bind,invoke,hb]
def aox {S S':St} {a:Act} {o:Oper} {nid:Nat} {eat:Bool} {v:AV} {clone:Nat→Bool} (H:Sim ν S a w) (hn:ē clone o.op=true→nid<S.h.length∧lkB S.h nid=.dead)
 (e:opR P S nid eat o.op=some (v,S')):akk ν S w ((execOp a.eval o).run P w) v S':=by
 have hr:=H.heap
 cases hop:o.op with
 |move x =>
  rw[hop] at e; cases e;exact akk.still hr (by unfold execOp; rw[hop]; rfl) (Œ H x)
 |assign x =>
  rw[hop] at e; cases e;exact akk.still hr (by unfold execOp; rw[hop]; rfl) (Œ H x)
 |pick c x y =>
  rw[hop] at e;simp only[opR,opK] at e
  split at e<;>try (cases e; done)
  rename_i b hb;have hc:=Œ H c;rw[hb] at hc;have hc:a.eval c=.bool b:=hc
  have hx:(execOp a.eval o).run P w=.ok (.value (if b then a.eval x else a.eval y)) w:=by unfold execOp; rw[hop]; simp[asBool,hc]
  split at e
  ·cases e; exact akk.still hr hx (Œ H x)
  ·cases e; exact akk.still hr hx (Œ H y)
 |box el x =>
  rw[hop] at e;simp only[opR,opK] at e
  split at e<;>try (cases e; done)
  rename_i cs hcs
  have hx:execOp a.eval o=(do let u ←Instr.box el (a.eval x); pure (.value u)):=by unfold execOp; rw[hop]
  rw[hx]
  split at e
  ·split at e<;>try (cases e; done)
   split at e<;>try (cases e; done)
   rename_i y hy;cases e;exact(arh hr hcs hy (Œ H x)).step
  ·cases e;obtain⟨h1,h2⟩:=hn (by rw[hop]; rfl);exact(box_ok hr h1 h2 hcs (Œ H x)).step
 |alloc el =>
  rw[hop] at e;simp only[opR,opK] at e
  split at e<;>try (cases e; done)
  rename_i z hz
  split at e<;>try (cases e; done)
  rename_i cs hcs;cases e;obtain⟨h1,h2⟩:=hn (by rw[hop]; rfl)
  have hx:execOp a.eval o=(do let u ←Instr.alloc el true (.tuple #[]); pure (.value u)):=by unfold execOp; rw[hop]
  rw[hx];exact(apK hr h1 h2 hz hcs).step
 |build t ps =>
  rw[hop] at e;simp only[opR,opK] at e
  have hx:execOp a.eval o=(do let u ←Instr.build t (ps.map fun(i,x)=>(i,a.eval x)); pure (.value u)):=by unfold execOp; rw[hop]
  rw[hx]
  split at e<;>try (cases e; done)
  ·rename_i fs ht
   split at e<;>try (cases e; done)
   rename_i hfs
   split at e<;>try (cases e; done)
   rename_i z hz
   split at e<;>try (cases e; done)
   rename_i zs hzs
   split at e<;>try (cases e; done)
   rename_i cs hcs;cases e;exact(VW H ht hfs hz hzs hcs).step
  ·rename_i n el ht
   split at e<;>try (cases e; done)
   rename_i sz z hs hz
   split at e<;>try (cases e; done)
   rename_i zs hzs
   split at e<;>try (cases e; done)
   rename_i cs hcs;cases e;exact(ag0 H ht hs hz hzs hcs).step
 |buildSlice t n ps =>
  rw[hop] at e
  have hx:execOp a.eval o=(do let u ←Instr.buildSlice t n (ps.map fun(i,x)=>(i,a.eval x)); pure (.value u)):=by unfold execOp; rw[hop]
  rw[hx];obtain⟨h1,h2⟩:=hn (by rw[hop]; rfl);simp only[opR,opK] at e
  split at e
  ·rw[Jh] at e;obtain⟨⟨v',h'⟩,h3,h4⟩:=δ e;cases h4;exact(aq4 H h1 h2 h3).step
  split at e<;>try (cases e; done)
  rename_i el hel
  split at e<;>try (cases e; done)
  rename_i ty hty
  split at e<;>try (cases e; done)
  rename_i hc;simp only[cW,beq_iff_eq,decide_eq_true_eq] at hc
  split at e<;>try (cases e; done)
  rename_i xs hxs;cases e;exact(aaT H h1 h2 hel hc.1 hc.2.1 hc.2.2 hxs).step
 |load t x =>
  rw[hop] at e;simp only[opR,opK] at e;rw[uO] at e;obtain⟨v',h1,h2⟩:=δ e;cases h2
  have hx:execOp a.eval o=(do let u ←Instr.loadAt t (a.eval x); pure (.value u)):=by unfold execOp; rw[hop]
  rw[hx];obtain⟨u,h3,h4⟩:=alQ hr h1 (Œ H x);exact(iT.still hr h3 h4).step
 |store t x y =>
  rw[hop] at e;simp only[opR,opK] at e
  have hx:execOp a.eval o=(do Instr.storeAt t (a.eval x) (a.eval y); pure .skip):=by unfold execOp; rw[hop]
  rw[hx]
  split at e
  ·split at e<;>try (cases e; done)
   rename_i id g lo n hsub
   split at e<;>try (cases e; done)
   rename_i ty g' xs hl
   split at e<;>try (cases e; done)
   rename_i hc;simp only[cW,beq_iff_eq,decide_eq_true_eq] at hc;obtain⟨rfl,hln⟩:=hc;rw[pm] at e;obtain⟨h',h1,h2⟩:=δ e;cases h2;have hy:=Œ H y;rw[hsub] at hy;obtain⟨ν1,v1,H1,ev1⟩:=aq3 hr hl hln hy;obtain⟨w',k1,k2,k3,k4⟩:=ahu H1 h1 ((Œ H x).ev ev1) v1;refine⟨ν1,w',undef,.inr ⟨?_,rfl⟩,trivial,k2,ev1.trans k3 (Nat.le_of_eq (ß _ _ _).symm),k4.trans (ß _ _ _),rfl⟩;simp[k1]
  ·rw[pm] at e;obtain⟨h',h1,h2⟩:=δ e;cases h2;exact abm (ahu hr h1 (Œ H x) (Œ H y))
 |nilCheck x =>
  rw[hop] at e;simp only[opR,opK] at e;have hv:=Œ H x
  split at e<;>try (cases e; done)
  ·rename_i id off he;cases e;rw[he] at hv;have hv':=hv;obtain⟨cs,b,h1,h2,h3⟩:=hv';exact akk.still hr (by unfold execOp; rw[hop]; simp only[h3]; rfl) (h3▸hv)
  ·rename_i t x' off he;cases e;rw[he] at hv;have hv':=hv;obtain⟨b,o',us,h3,h4⟩:=hv';exact akk.still hr (by unfold execOp; rw[hop]; simp only[h3]; rfl) (h3▸hv)
  ·rename_i id g i off he
   split at e<;>try (cases e; done)
   rename_i t g' fz xs hl
   split at e<;>try (cases e; done)
   rename_i hgg;cases e;rw[he] at hv;have hv':=hv;obtain⟨ho,t2,g2,fz2,xs2,hl2,hle,hf⟩:=hv';rw[hl] at hl2; cases hl2;obtain⟨_,b,o',cap,_,h3⟩:=hf (eq_of_beq hgg);exact akk.still hr (by unfold execOp; rw[hop]; simp only[h3]; rfl) (h3▸hv)
 |binOp op t x y yt =>
  rw[hop] at e;simp only[opR,opK] at e;rw[BM] at e;obtain⟨v',h1,h2⟩:=δ e;cases h2
  have hx:execOp a.eval o=(do let u ←(do eqGuard op t x y (a.eval x) (a.eval y); binOp op t (a.eval x) (a.eval y)); pure (.value u)):=by unfold execOp; rw[hop]
  rw[hx];exact(apH x y hr h1 (Œ H x) (Œ H y)).step
 |unOp op t x =>
  rw[hop] at e;simp only[opR,opK] at e
  have hx:execOp a.eval o=(do let u ←Op.unary op (a.eval x); pure (.value u)):=by unfold execOp; rw[hop]
  rw[hx];have hv:=Œ H x
  split at e<;>try (cases e; done)
  ·rename_i b he;cases e;rw[he] at hv;exact(akF (op:=.not) hr hv rfl).step
  ·rename_i k n he;rw[Fm] at e;obtain⟨v',h1,h2⟩:=δ e;cases h2;rw[he] at hv;exact(akF (op:=.neg) hr hv h1).step
 |convert src dst x =>
  rw[hop] at e;simp only[opR,opK] at e
  have hx:execOp a.eval o=(do let u ←convert src dst (a.eval x); pure (.value u)):=by unfold execOp; rw[hop]
  rw[hx];have hv:=Œ H x
  split at e<;>try (cases e; done)
  rename_i d k k' n hs hd he;cases e;rw[he] at hv;have hv:a.eval x=.int k' n:=hv;refine(iT.still (v:=.int k (k.wrap n)) (u:=.int k (k.wrap n)) hr ?_ rfl).step;rw[hv];simp only[convert,Sem.run_bind,run_underlying hs,run_underlying hd,Result.andThen_ok];simp[Conv.intToInt]
 |makeFunc fn first caps =>
  rw[hop] at e;simp only[opR,opK] at e
  split at e<;>try (cases e; done)
  rename_i hc;simp only[cW,dL] at hc;cases e
  have hx:execOp a.eval o=(do let u ←Instr.makeFunc fn (first.map a.eval) (caps.map a.eval); pure (.value u)):=by unfold execOp; rw[hop]
  rw[hx];refine(iT.still (v:=.fn fn (first.toList.map (ev S.t)) (caps.toList.map (ev S.t))) (u:=.func fn (first.map a.eval) (caps.map a.eval)) hr rfl ⟨_,_,rfl,?_,?_⟩).step
  ·rw[fZ];exact ĉ.of_map fun x hx=>al1 (hc.1 _ (List.mem_map_of_mem hx)) (Œ H x)
  ·rw[fZ];exact ĉ.of_map fun x hx=>al1 (hc.2 _ (List.mem_map_of_mem hx)) (Œ H x)
 |makeMap t r =>
  rw[hop] at e;simp only[opR,opK] at e
  split at e<;>try (cases e; done)
  rename_i kt et ht
  split at e<;>try (cases e; done)
  rename_i k v' hk hv
  split at e<;>try (cases e; done)
  cases e;obtain⟨h1,h2⟩:=hn (by rw[hop]; rfl)
  have hx:execOp a.eval o=(do let u ←Instr.makeMap t none; pure (.value u)):=by unfold execOp; rw[hop]; rfl
  rw[hx];exact(ajm k v' hr h1 h2).step
 |makeSlice t l c =>
  rw[hop] at e;simp only[opR,opK] at e
  split at e<;>try (cases e; done)
  rename_i k n el hsame hl hel
  split at e<;>try (cases e; done)
  rename_i ty hty
  split at e<;>try (cases e; done)
  rename_i hrow
  split at e<;>try (cases e; done)
  rename_i zs hzs
  split at e<;>try (cases e; done)
  rename_i z hz
  split at e<;>try (cases e; done)
  rename_i hb;simp only[cW,decide_eq_true_eq,ë] at hb;cases e;obtain⟨h1,h2⟩:=hn (by rw[hop]; rfl);have hv:=Œ H l;rw[hl] at hv;have hv:a.eval l=.int k n:=hv
  have hc:a.eval c=.int k n:=by rw[←ak0 (S:=S) hsame,hv]
  have hx:execOp a.eval o=(do let u ←Instr.makeSlice t (.int k n) (.int k n); pure (.value u)):=by unfold execOp; rw[hop]; simp only[hv,hc]
  rw[hx];exact(acD hr h1 h2 hel hrow hzs hz hb.1 hb.2).step
 |slice t x lo hi mx =>
  rw[hop] at e;simp only[opR,opK] at e
  split at e<;>try (cases e; done)
  rename_i el ht
  split at e<;>try (cases e; done)
  rename_i sz hs;rw[A0] at e;obtain⟨⟨v',h'⟩,h1,h2⟩:=δ e;cases h2
  have hx:execOp a.eval o=(do let u ←Instr.sliceAt t (a.eval x) (lo.map a.eval) (hi.map a.eval) none; pure (.value u)):=by unfold execOp; rw[hop]; rfl
  rw[hx];refine(aom hr ht hs h1 (Œ H x) (fun y hy=>?_) (fun hy=>?_) (fun y hy=>?_) (fun hy=>?_)).step
  ·cases lo with
   |none=>cases hy
   |some l=>cases hy; exact⟨_,rfl,Œ H l⟩
  ·cases lo with
   |none=>rfl
   |some l=>cases hy
  ·cases hi with
   |none=>cases hy
   |some l=>cases hy; exact⟨_,rfl,Œ H l⟩
  ·cases hi with
   |none=>rfl
   |some l=>cases hy
 |fieldAddr t x f =>
  rw[hop] at e;simp only[opR,opK] at e
  split at e<;>try (cases e; done)
  rename_i fs ht
  split at e<;>try (cases e; done)
  rename_i fd hf
  split at e<;>try (cases e; done)
  rename_i n hs;rw[pp] at e;obtain⟨v',h1,h2⟩:=δ e;cases h2
  have hx:execOp a.eval o=(do let u ←Instr.fieldAt t (a.eval x) f; pure (.value u)):=by unfold execOp; rw[hop]
  rw[hx];exact(aes hr ht hf hs h1 (Œ H x)).step
 |field t x f =>
  rw[hop] at e;simp only[opR,opK] at e;have hv:=Œ H x
  split at e<;>try (cases e; done)
  rename_i fs cs ht hc
  split at e<;>try (cases e; done)
  rename_i fd hf
  split at e<;>try (cases e; done)
  rename_i agg n hl
  split at e<;>try (cases e; done)
  rename_i ds hg
  split at e<;>try (cases e; done)
  rename_i v' hm;cases e;rw[hc] at hv
  have hx:execOp a.eval o=(do let u ←Instr.field t (a.eval x) f; pure (.value u)):=by unfold execOp; rw[hop]
  rw[hx];exact(ao2 hr ht hf hl hg hm hv).step
 |indexAddr t x i =>
  rw[hop] at e;simp only[opR,opK] at e
  have hx:execOp a.eval o=(do let u ←Instr.indexAt t (a.eval x) (a.eval i); pure (.value u)):=by unfold execOp; rw[hop]
  rw[hx]
  split at e<;>try (cases e; done)
  ·rename_i el ht
   split at e<;>try (cases e; done)
   rename_i sz hs;rw[pz] at e;obtain⟨v',h1,h2⟩:=δ e;cases h2;exact(aoV hr ht hs h1 (Œ H x) (Œ H i)).step
  ·rename_i n el ht;have hv:=Œ H x;have hi:=Œ H i
   split at e<;>try (cases e; done)
   rename_i id off k j hx' hi'
   split at e<;>try (cases e; done)
   rename_i sz hs;rw[iU] at e;obtain⟨q,h1,h2⟩:=δ e;obtain⟨rfl,_,hb⟩:=JO h1;cases h2;rw[hx'] at hv;rw[hi'] at hi;have hi:a.eval i=.int k (q:Int):=hi;rw[hi];have:=(SN hr ht (j:=(q:Int)) (k:=k) ⟨by omega,by omega⟩ hs hv).step;simpa using this
 |index t x i =>
  rw[hop] at e;simp only[opR,opK] at e
  have hx:execOp a.eval o=(do let u ←Instr.index t (a.eval x) (a.eval i); pure (.value u)):=by unfold execOp; rw[hop]
  rw[hx];have hv:=Œ H x;have hi:=Œ H i
  split at e<;>try (cases e; done)
  rename_i n el cs k j ht hx' hi';rw[iU] at e;obtain⟨q,h1,h2⟩:=δ e;obtain⟨rfl,_,hb⟩:=JO h1
  split at h2<;>try (cases h2; done)
  rename_i agg m hl
  split at h2<;>try (cases h2; done)
  rename_i ds hg
  split at h2<;>try (cases h2; done)
  rename_i v' hm;cases h2;rw[hx'] at hv;rw[hi'] at hi;have hi:a.eval i=.int k (q:Int):=hi;rw[hi];exact(agu hr ht (j:=(q:Int)) (k:=k) ⟨by omega,by omega⟩ hl (by simpa using hg) hm hv).step
 |lookup t m i ok =>
  rw[hop] at e;simp only[opR,opK] at e;rw[mL] at e;obtain⟨v',h1,h2⟩:=δ e;cases h2
  have hx:execOp a.eval o=(do let u ←Instr.lookup t (a.eval m) (a.eval i) ok; pure (.value u)):=by unfold execOp; rw[hop]
  rw[hx];exact(alK hr h1 (Œ H m) (Œ H i)).step
 |mapUpdate t m i x =>
  rw[hop] at e;simp only[opR,opK] at e;rw[m6] at e;obtain⟨h',h1,h2⟩:=δ e;cases h2
  have hx:execOp a.eval o=(do Instr.mapUpdate t (a.eval m) (a.eval i) (a.eval x); pure .skip):=by unfold execOp; rw[hop]
  rw[hx];exact abm (acB hr h1 (Œ H m) (Œ H i) (Œ H x))
 |extract x i =>
  rw[hop] at e;simp only[opR,opK] at e;have hv:=Œ H x
  split at e<;>try (cases e; done)
  rename_i vs hvs
  split at e<;>try (cases e; done)
  rename_i v' hv';cases e;rw[hvs] at hv;obtain⟨us,hu,h2⟩:=hv;obtain⟨u,h3,h4⟩:=h2.get hv';refine akk.still hr (u:=u) (by unfold execOp; rw[hop]; simp only[hu]; simp at h3; simp[Instr.extract,h3]) ?_
  cases ht:v.isTup with
  |true =>
   cases v<;>try cases ht
   exact h4.elim
  |false=>rw[LN ht]; exact h4
 |call c =>
  obtain⟨f,args,tys⟩:=c;rw[hop] at e
  cases f with
  |value f=>cases e
  |invoke r n=>cases e
  |builtin b =>
   simp only[opR,opK] at e
   split at e
   ·-- len
    rename_i x t rest hargs htys;rw[Bi] at e;obtain⟨v',h1,h2⟩:=δ e;cases h2;rw[kz (S:=S) (f:=Builtin.len_) hop (fun _ _=>rfl),arr1 hargs,show Array.map a.eval #[x]=#[a.eval x] by simp]
    have ht0:tys[0]?=some t:=by rw[←gk,htys]; rfl
    exact(len_ok hr h1 (Œ H x) ht0).step
   ·rename_i s x t t' hargs htys;obtain⟨h1,h2⟩:=hn (by rw[hop]; rfl);rw[kz (S:=S) (f:=Builtin.append_) hop (fun _ _=>rfl),arr2 hargs,arr2 htys,show Array.map a.eval #[s,x]=#[a.eval s,a.eval x] by simp]
    split at e
    ·rename_i htt;have htt:=eq_of_beq htt;subst htt;have hvx:=Œ H x
     split at e
     ·rename_i id g hdp;rw[hdp] at hvx;rw[Jl] at e;obtain⟨⟨v',h'⟩,h3,h4⟩:=δ e;cases h4;exact(aq5 hr h1 h2 h3 (Œ H s) hvx).step
     ·rw[xf] at e;obtain⟨⟨v',h'⟩,h3,h4⟩:=δ e;cases h4;exact(anq hr h1 h2 h3 (Œ H s) hvx).step
    ·split at e<;>try (cases e; done)
     rename_i hu;rw[AW] at e;obtain⟨⟨v',h'⟩,h3,h4⟩:=δ e;cases h4;exact(anZ hr h1 h2 hu h3 (Œ H s) (Œ H x)).step
   ·rename_i x t hargs htys
    split at e<;>try (cases e; done)
    rename_i d hd;rw[BG] at e;obtain⟨h',h1,h2⟩:=δ e;cases h2;rw[kz (S:=S) (f:=Builtin.clear_) hop (fun _ _=>rfl),arr1 hargs,show Array.map a.eval #[x]=#[a.eval x] by simp]
    have ht0:tys[0]?=some t:=by rw[←gk,htys]; rfl
    exact(apk ht0 hr h1 (by rw[hd]; rfl) (Œ H x)).step
   ·rename_i x t rest hargs htys
    split at e<;>try (cases e; done)
    rename_i el ht hx;cases e;have hv:=Œ H x;rw[hx] at hv;have hv:a.eval x=.slice none 0 0:=hv;rw[kz (S:=S) (f:=Builtin.cap_) hop (fun _ _=>rfl),arr1 hargs]
    have ht0:tys[0]?=some t:=by rw[←gk,htys]; rfl
    exact(iT.still (v:=.int .i64 0) (u:=.int .i64 0) hr (by simp[Builtin.cap_,ht0,hv,run_underlying ht,goInt]) rfl).step
   ·rename_i x xs hargs;rw[iF] at e;obtain⟨v',h1,h2⟩:=δ e;cases h2;rw[kz (S:=S) (f:=Builtin.min_) hop (fun _ _=>rfl)];obtain⟨u,h3,h4⟩:=PT (P:=P) (f:=Builtin.min2) (gt:=false) (fun k p q=>aoq k p q) (xs.map (ev S.t)) (xs.map a.eval) _ v (a.eval x) h1 (Œ H x) (ĉ.of_map fun y _=>Œ H y);refine(iT.still hr ?_ h4).step;simp only[Builtin.min_,fZ,hargs,eP];exact h3
   ·rename_i x xs hargs;rw[iF] at e;obtain⟨v',h1,h2⟩:=δ e;cases h2;rw[kz (S:=S) (f:=Builtin.max_) hop (fun _ _=>rfl)];obtain⟨u,h3,h4⟩:=PT (P:=P) (f:=Builtin.max2) (gt:=true) (fun k p q=>aor k p q) (xs.map (ev S.t)) (xs.map a.eval) _ v (a.eval x) h1 (Œ H x) (ĉ.of_map fun y _=>Œ H y);refine(iT.still hr ?_ h4).step;simp only[Builtin.max_,fZ,hargs,eP];exact h3
   ·cases e
 |_=>rw[hop] at e; cases e
end
end Go.Am
end

noncomputable section
namespace Go.Am
variable [ô]
def ř (nid:Nat) (h h':List Blk):Prop:=∀j,j≠nid→lkB h j=.dead→lkB h' j=.dead
def ř.refl (nid:Nat) (h:List Blk):ř nid h h:=fun _ _ hd=>hd
def ř.upd {nid id:Nat} {h:List Blk} (B:Blk) (hl:id=nid∨lkB h id≠.dead):ř nid h (Ē h id B):=fun j hj hd=>by
 rw[ý]
 ·exact hd
 ·rintro rfl;rcases hl with rfl|hl
  ·exact hj rfl
  ·exact hl hd
def ř.trans {nid:Nat} {h h' h'':List Blk} (h1:ř nid h h') (h2:ř nid h' h''):ř nid h h'':=fun j hj hd=>h2 j hj (h1 j hj hd)
def ř.upd2 {nid i j:Nat} {h:List Blk} (A B:Blk) (hi:lkB h i≠.dead) (hl:j=nid∨lkB h j≠.dead):ř nid h (Ē (Ē h i A) j B):=fun m hm hd=>by
 have h1:m≠i:=fun e=>hi (by rw[←e]; exact hd);have h2:m≠j:=fun e=>hl.elim (fun q=>hm (e.trans q)) fun q=>q (by rw[←e]; exact hd);rw[ý _ h2,ý _ h1];exact hd
def ř.frz {nid:Nat} {h:List Blk} (v:AV):ř nid h (frz h v):=fun _ _ hd=>aif hd
def ř.frzA {nid:Nat} {h:List Blk} (ps:List (Nat×AV)):ř nid h (frzA h ps):=fun _ _ hd=>SS ps hd
def oe {h:List Blk} {id:Nat} {B:Blk} (hl:lkB h id=B) (hB:B≠.dead):lkB h id≠.dead:=by rw[hl]; exact hB
def aqV {v:AV} {id:Nat} {h:List Blk} {k u:Ty} {es:List (Val k×Val u)} (hl:lkB h id=.map k u es):lkB (frz h v) id=.map k u es:=by
 unfold frz; split
 ·exact aaq _ hl
 ·exact aih hl
def V3 {P:Program} {h h':List Blk} {t:TypeId} {a v:AV} {nid:Nat} (h1:xj P h t a v some=some h'):ř nid h h':=by
 unfold xj at h1
 (repeat' split at h1)<;>first
  |(cases h1; done)
  |(cases h1; exact ř.upd _ (.inr (oe ‹lkB h _=.cells _› (by simp))))
  |(cases h1; exact ř.upd _ (.inr (oe ‹lkB h _=.deep _ _ _› (by simp))))
  |(cases h1; exact(ř.frz _).trans (ř.upd _ (.inr (oe ‹lkB (frz h _) _=.row _ _ _ _› (by simp)))))
def alh {P:Program} {S S':St} {o:Op} {nid:Nat} {eat:Bool} {v:AV} (e:opR P S nid eat o=some (v,S')):ř nid S.h S'.h:=by
 unfold opR opK at e;dsimp only at e
 (repeat' split at e)<;>first
  |(cases e; done)
  |(cases e; exact ř.refl _ _)
  |(cases e; exact ř.upd _ (.inl rfl))
  |(cases e; exact(ř.frzA _).trans (ř.upd _ (.inl rfl)))
  |(rw[uO] at e; obtain⟨v',h1,h2⟩:=δ e; cases h2; exact ř.refl _ _)
  |(rw[BM] at e; obtain⟨v',h1,h2⟩:=δ e; cases h2; exact ř.refl _ _)
  |(rw[Fm] at e; obtain⟨v',h1,h2⟩:=δ e; cases h2; exact ř.refl _ _)
  |(rw[pp] at e; obtain⟨v',h1,h2⟩:=δ e; cases h2; exact ř.refl _ _)
  |(rw[pz] at e; obtain⟨v',h1,h2⟩:=δ e; cases h2; exact ř.refl _ _)
  |(rw[mL] at e; obtain⟨v',h1,h2⟩:=δ e; cases h2; exact ř.refl _ _)
  |(rw[Bi] at e; obtain⟨v',h1,h2⟩:=δ e; cases h2; exact ř.refl _ _)
  |(rw[iF] at e; obtain⟨v',h1,h2⟩:=δ e; cases h2; exact ř.refl _ _)
  |(rw[pm] at e; obtain⟨h',h1,h2⟩:=δ e; cases h2; exact V3 h1)
  | (rw [pm] at e; obtain ⟨h', h1, h2⟩ := δ e; cases h2
     exact(ř.upd _ (.inr (oe ‹lkB S.h _=.row _ _ _ _› (by simp)))).trans (V3 h1))
  | (rw [A0] at e; obtain ⟨⟨v', h'⟩, h1, h2⟩ := δ e; cases h2
     unfold qP at h1
     (repeat' split at h1)<;>first
      |(cases h1; done)
      |(cases h1; exact ř.refl _ _)
      |(cases h1; exact ř.upd _ (.inr (oe ‹lkB S.h _=.row _ _ _ _› (by simp)))))
  | (rw [xf] at e; obtain ⟨⟨v', h'⟩, h1, h2⟩ := δ e; cases h2
     unfold AP at h1
     (repeat' split at h1)<;>first
      |(cases h1; done)
      |(cases h1; exact ř.upd _ (.inl rfl))
      |(cases h1; exact ř.upd _ (.inr (oe ‹lkB S.h _=.row _ _ _ _› (by simp)))))
  | (rw [Jh] at e; obtain ⟨⟨v', h'⟩, h1, h2⟩ := δ e; cases h2
     unfold agI at h1
     (repeat' split at h1)<;>first
      |(cases h1; done)
      |(cases h1; exact ř.upd2 _ _ (oe ‹lkB S.h _=.row _ _ _ _› (by simp)) (.inl rfl)))
  | (rw [Jl] at e; obtain ⟨⟨v', h'⟩, h1, h2⟩ := δ e; cases h2
     unfold aex at h1
     split at h1<;>try (cases h1; done)
     split at h1<;>try (cases h1; done)
     split at h1<;>try (cases h1; done)
     rename_i hl2
     split at h1<;>try (cases h1; done)
     (repeat' split at h1)<;>first
      |(cases h1; done)
      |(cases h1; exact ř.upd2 _ _ (oe hl2 (by simp)) (.inl rfl))
      |(cases h1; exact ř.upd2 _ _ (oe hl2 (by simp)) (.inr (oe (by assumption) (by simp)))))
  | (rw [AW] at e; obtain ⟨⟨v', h'⟩, h1, h2⟩ := δ e; cases h2
     unfold LR at h1
     (repeat' split at h1)<;>first
      |(cases h1; done)
      |(cases h1; exact ř.upd _ (.inl rfl)))
  | (rw [BG] at e; obtain ⟨h', h1, h2⟩ := δ e; cases h2
     unfold Nf at h1
     (repeat' split at h1)<;>first
      |(cases h1; done)
      |(cases h1; exact ř.refl _ _)
      |(cases h1; exact ř.upd _ (.inr (oe ‹lkB S.h _=.row _ _ _ _› (by simp)))))
  | (rw [iU] at e; obtain ⟨q, h1, h2⟩ := δ e
     (repeat' split at h2)<;>first
      |(cases h2; done)
      |(cases h2; exact ř.refl _ _))
  | (rw [m6] at e; obtain ⟨h', h1, h2⟩ := δ e; cases h2
     unfold kR at h1
     (repeat' split at h1)<;>first
      |(cases h1; done)
      |(cases h1; exact(ř.frz _).trans (ř.upd _ (.inr (oe (aqV ‹lkB S.h _=.map _ _ _›) (by simp))))))
end Go.Am
end

noncomputable section
namespace Go.Am
variable [ô]
section
variable {ρ:Type} {ν ν':Nat→Value} {h h':List Blk} {w w':World} {P:Program}
def Ev.same (hh:∀id,lkB h' id=lkB h id) (hw:w'.heap=w.heap) (h1:w'.os=w.os) (h2:w'.tape=w.tape) (h3:w'.output=w.output) (m:Nat):Ev m ν h w ν h' w' :=
 ⟨h1,h2,h3,by rw[hw]; exact cR _,fun b _ hb=>⟨by rw[hw],fun⟨id,q1,q2⟩=>hb ⟨id,by rwa [hh] at q1,q2⟩⟩,fun id _=>by rw[hh]; exact Blk.next_refl _ _ _⟩
def HR.same (H:HR ν h w) (hh:∀id,lkB h' id=lkB h id) (hw:w'.heap=w.heap) (h1:w'.os=w.os) (h2:w'.tape=w.tape) (h3:w'.output=w.output):HR ν h' w':=by
 refine⟨fun id=>?_,fun i j b q1 q2=>H.inj i j b (by rwa [hh] at q1) (by rwa [hh] at q2),fun b hb=>by rw[hw]; exact H.ghlt b hb,fun id b q1=>H.ghne id b (by rwa [hh] at q1)⟩;rw[hh];exact BR.ev (Ev.same hh hw h1 h2 h3 _) rfl (fun b _ _ _=>by rw[hw]) (H.blk id)
def Sim.same {S:St} {a:Act} (H:Sim ν S a w) (hh:∀id,lkB h' id=lkB S.h id) (hw:w'.heap=w.heap) (h1:w'.os=w.os) (h2:w'.tape=w.tape) (h3:w'.output=w.output):Sim ν {t:=S.t,h:=h'} a w' :=
 ⟨H.defers,H.len,fun i=>(H.tmps i).ev (Ev.same hh hw h1 h2 h3 _),H.heap.same hh hw h1 h2 h3⟩
def W7:∀(h:List Blk) (d:Nat),h.length≤d→lkB h d=.dead
 |[],_,_=>rfl
 |x::xs,0,h=>by simp at h
 |x::xs,d+1,h=>by simpa[lkB] using W7 xs d (by simpa using h)
def aae:∀(h:List Blk) (n id:Nat),lkB (h++List.replicate n .dead) id=lkB h id
 |[],0,_=>rfl
 |[],n+1,0=>rfl
 |[],n+1,id+1=>by simpa[List.replicate_succ,lkB] using aae [] n id
 |x::xs,n,0=>rfl
 |x::xs,n,id+1=>by simpa[lkB] using aae xs n id
abbrev fen:Fence:={Fence.wide with round:=ô.Q}
def ae4 (P:Program) (L:Nat) (call:List Nat→Bool→Nat→List AV→List Blk→(AV→List Blk→Option ρ)→Option ρ):Prop :=
 ∀path draw g args h (K:AV→List Blk→Option ρ) r,path.length=L→call path draw g args h K=some r→∀ν w vals,HR ν h w→ĉ (VR ν h w) args vals →
  (∃fn c,P.funcs[g]?=some fn∧fn.body=some c) ∧
  CallsIn Fence.wide 0 P g vals.toArray w fun e w'=>∃ν' h' v u,e=.returned u∧VR ν' h' w' v u∧HR ν' h' w'∧Ev h.length ν h w ν' h' w'∧h.length≤h'.length∧(∀j,j<h.length→lkB h j=.dead→lkB h' j=.dead)∧K v h'=some r
def LQ (P:Program) (clone:Nat→Bool):Prop :=
 ∀g,clone g=true→∀fz S nid x v S',AG P g fz S nid x (fun v S=>some (v,S))=some (v,S')→∀ν w u,HR ν S.h w→VR ν S.h w x u→nid<S.h.length→lkB S.h nid=.dead →
  (∃fn c,P.funcs[g]?=some fn∧fn.body=some c) ∧
  CallsIn Fence.wide 0 P g #[u] w fun e w'=>∃ν' u',e=.returned u'∧VR ν' S'.h w' v u'∧HR ν' S'.h w'∧Ev S.h.length ν S.h w ν' S'.h w'∧S.h.length≤S'.h.length∧ř nid S.h S'.h∧S'.t=S.t
def LC (P:Program) (g:Nat) (fz:Bool) (S:St) (nid:Nat) (x:AV) (K:AV→St→Option ρ):AG P g fz S nid x K=(AG P g fz S nid x fun v S=>some (v,S)).bind fun r=>K r.1 r.2:=by
 unfold AG; (repeat' split)<;>rfl
def Aft (m:Nat) (ν:Nat→Value) (h:List Blk) (w:World) (K:St→Option ρ) (r:ρ) (a':Act) (w':World):Prop :=
 ∃ν' S',Sim ν' S' a' w'∧Ev m ν h w ν' S'.h w'∧h.length≤S'.h.length∧K S'=some r
def Aft.trans {m m':Nat} {K:St→Option ρ} {r:ρ} {a':Act} {ν ν₁:Nat→Value} {h h₁:List Blk} {w w₁ w':World} (e:Ev m ν h w ν₁ h₁ w₁) (hl:h.length≤h₁.length) (hm:m≤m') (ha:Aft m' ν₁ h₁ w₁ K r a' w'):Aft m ν h w K r a' w':=by
 obtain⟨ν',S',h1,h2,h3,h4⟩:=ha;exact⟨ν',S',h1,e.trans h2 hm,dC hl h3,h4⟩
def op_nid {S:St} {o:Op} {nid nid':Nat} {eat:Bool} {clone:Nat→Bool} (hal:ē clone o=false):opR P S nid eat o=opR P S nid' eat o:=by
 cases o<;>try first|rfl|(cases hal; done)
 rename_i c;obtain⟨f,args,tys⟩:=c
 cases f<;>try rfl
 rename_i b
 cases b<;>first|(cases hal; done)|rfl|(unfold opR opK; dsimp only; (repeat' split)<;>first|rfl|simp_all)
def afp {E : Env ρ} {call : List Nat → Bool → Nat → List AV → List Blk → (AV → List Blk → Option ρ) → Option ρ} {L : Nat} (hcall : ae4 E.P L call) (hP : ∀ (f : Nat) (fn : Func), E.P.funcs[f]? = some fn → (fn.name == "runtime.NumGoroutine") = false)
 (hclone:LQ E.P E.clone)
 {fid:Nat} {path:List Nat} {draw:Bool} {S:St} {a:Act} {nid:Nat} {o:Oper} {K:AV→St→Option ρ} {r:ρ} (hp:path.length=L) (H:Sim ν S a w) (hn:ē E.clone o.op=true→nid<S.h.length∧lkB S.h nid=.dead)
 (e:jT E call fid path draw S nid o K=some r) {next:Act→World→Prop} {Q:Exit→Act→World→Prop}
 (hk:∀(ν':Nat→Value) (w':World) (u:Value) (v:AV) (S':St),VR ν' S'.h w' v u→HR ν' S'.h w'→Ev S.h.length ν S.h w ν' S'.h w'→S.h.length≤S'.h.length→(∀j,j<S.h.length→j≠nid∨ē E.clone o.op=false→lkB S.h j=.dead→lkB S'.h j=.dead)→S'.t=S.t→K v S'=some r→next (a.put o.dst u) w') :
 o.wpIn fen 0 E.P a w next Q:=by
 refine⟨fun _ _=>trivial,?_⟩
 have hnd:∀c,o.op≠.defer c:=by
  intro c hc;unfold jT at e
  split at e<;>try (cases e; done)
  split at e
  ·rename_i hop;rw[hc] at hop; cases hop
  ·rw[hc] at e;cases e
 rw[Oper.semAt_eq _ _ _ hnd]
 have plain:∀v S',opR E.P S nid (agE E draw fid o) o.op=some (v,S')→K v S'=some r→o.uponIn fen 0 E.P a next Q ((execOp a.eval o).run E.P w):=by
  intro v S' h1 h2;obtain⟨ν',w',u,h3,h4,h5,h6,h7,h8⟩:=aox (clone:=E.clone) H hn h1
  have:=hk ν' w' u v S' h4 h5 h6 (Nat.le_of_eq h7.symm) (fun j _ hj hd=>by
   rcases hj with hj|hal
   ·exact alh h1 j hj hd
   ·rw[op_nid (nid':=j+1) hal] at h1
    exact alh h1 j (by omega) hd) h8 h2
  rcases h3 with h3|⟨h3,rfl⟩
  ·rw[h3]; exact this
  ·rw[h3]; exact this
 unfold jT at e
 split at e<;>try (cases e; done)
 split at e
 ·rename_i f args tys hop
  split at e<;>try (cases e; done)
  rename_i g first caps hf;have hfv:=Œ H f;rw[hf] at hfv;obtain⟨fs,cs,hfe,hfirst,hcaps⟩:=hfv
  split at e
  ·rename_i hcl
   split at e<;>try (cases e; done)
   rename_i x hargs;rw[LC] at e;obtain⟨⟨v,S'⟩,h1,h2⟩:=δ e;simp only[cW] at hcl;obtain⟨hcl,hlit⟩:=hcl
   have hfg:f=.func g:=by
    cases f<;>try (cases hlit; done)
    simp only[ev] at hf
    injection hf with q1
    injection q1 with q1
    rw[q1]
   subst hfg;obtain⟨hn1,hn2⟩:=hn (by rw[hop]; exact hcl);obtain⟨⟨fn,c,hfn,hbody⟩,hc⟩:=hclone g hcl _ S nid _ v S' h1 ν w _ H.heap (Œ H x) hn1 hn2
   have hx:(execOp a.eval o).run E.P w=.ok (.enter g #[a.eval x]) w:=by
    unfold execOp;rw[hop,arr1 hargs];simp only[resolve,Act.eval,Deferred.ofValue,pure_bind,invoke,callFunc,Sem.run_bind,run_program,Result.andThen_ok,hfn,hP g fn hfn,hbody];simp only[Bool.false_eq_true,if_false,Option.isNone_some];show Result.ok (Next.enter g _) w=_;congr 2;apply Array.ext'
    cases x<;>simp[Act.eval]
   rw[hx,Oper.uponIn_enter];refine⟨fun hf=>(by cases hf),hc.mono fun e' w' hw=>?_⟩;obtain⟨ν',u',rfl,g1,g2,g3,g4,g6,g5⟩:=hw;exact hk ν' w' u' v S' g1 g2 g3 g4 (fun j _ hj hd=>g6 j (hj.resolve_right (by rw[hop]; exact fun hf=>by rw[show ē E.clone (.call ⟨.value (.func g),args,tys⟩)=E.clone g from rfl,hcl] at hf; cases hf)) hd) g5 h2
  ·rename_i hcl
   have hargs:ĉ (VR ν S.h w) (first++(args.toList.map (ev S.t)++caps)) (fs.toList++(args.toList.map a.eval++cs.toList)) :=
    (hfirst.mono fun _ _ q=>q.up.up).append ((ĉ.of_map fun x _=>Œ H x).append (hcaps.mono fun _ _ q=>q.up.up))
   obtain⟨⟨fn,c,hfn,hbody⟩,hc⟩:=hcall path draw g _ _ _ r hp e ν w _ H.heap hargs
   have hx:(execOp a.eval o).run E.P w=.ok (.enter g (fs.toList++(args.toList.map a.eval++cs.toList)).toArray) w:=by
    unfold execOp;rw[hop];simp only[resolve,hfe,Deferred.ofValue,pure_bind,invoke,callFunc,Sem.run_bind,run_program,Result.andThen_ok,hfn,hP g fn hfn,hbody];simp only[Bool.false_eq_true,if_false,Option.isNone_some];show Result.ok (Next.enter g _) w=_;congr 2;apply Array.ext';simp
   rw[hx,Oper.uponIn_enter];refine⟨fun hf=>(by cases hf),hc.mono fun e' w' hw=>?_⟩;obtain⟨ν',h',v,u,rfl,h1,h2,h3,h4,h6,h5⟩:=hw;exact hk ν' w' u v {t:=S.t,h:=h'} h1 h2 h3 h4 (fun j hj _ hd=>h6 j hj hd) rfl h5
 ·rename_i op hne;rw[afA] at e;obtain⟨⟨v,S'⟩,h1,h2⟩:=δ e;exact plain v S' h1 h2
def Fq:∀(t:List AV) (d:Nat),upd t d (lk t d)=t
 |[],_=>rfl
 |_::_,0=>rfl
 |x::t,d+1=>by simp[upd,lk,Fq t d]
def apQ (n nid:Nat) (h:List Blk):Prop:=∀j,nid≤j→j<nid+n→j<h.length∧lkB h j=.dead
def nl {clone:Nat→Bool} {o:Oper} {os:List Oper}:iE clone (o::os)=bif ē clone o.op then iE clone os+1 else iE clone os:=rfl
def Xi {all:List Oper} {o:Oper} {j:Nat} {want:Bool}:∀{l:List Oper},sw all l=true→o∈l→o.guard=some (j,want)→∃p d,all[j]?=some p∧p.dst=some d
 |[],_,hm,_=>by cases hm
 |x::l,hg,hm,he=>by
  simp only[sw,cW] at hg;rcases df.1 hm with rfl|hm
  ·have h1:=hg.1;rw[he] at h1;simp only at h1
   split at h1
   ·rename_i p hp;obtain⟨d,hd⟩:=gF.1 h1;exact⟨p,d,hp,hd⟩
   ·cases h1
  ·exact Xi hg.2 hm he
def aiZ {ops:Array Oper} {tmps:Array Value} {j d:Nat} {p:Oper} (hp:ops.toList[j]?=some p) (hd:p.dst=some d) :
 (∀b,tmps.getD d undef=.bool b→yielded ops tmps j=some b)∧(tmps.getD d undef=undef→yielded ops tmps j=none):=by
 have hp':ops[j]?=some p:=by simpa using hp
 constructor
 ·intro b hb;unfold yielded;rw[hp'];simp only[Option.bind_some,hd]
  cases ht:tmps[d]? with
  |none=>simp[dU,ht,undef] at hb
  |some v=>simp[dU,ht] at hb; subst hb; rfl
 ·intro hb;unfold yielded;rw[hp'];simp only[Option.bind_some,hd]
  cases ht:tmps[d]? with
  |none=>rfl
  |some v=>simp[dU,ht] at hb; subst hb; rfl
def DP (E:Env ρ) (call:List Nat→Bool→Nat→List AV→List Blk→(AV→List Blk→Option ρ)→Option ρ) (fid:Nat) (path:List Nat) (draw:Bool) (all:List Oper) (i nid:Nat) (o:Oper) (S:St) (K:St→Option ρ):Option ρ :=
 match o.guard with
 |none=>jT E call fid (path++[i]) draw S nid o fun v S=>K {t:=Ğ S.t o.dst v,h:=S.h}
 |some (j,want)=>match lk S.t (uS all j) with
  |.bool b=>match b==want with
   |true=>jT E call fid (path++[i]) draw S nid o fun v S=>K {t:=Ğ S.t o.dst v,h:=S.h}
   |false=>K {t:=Ğ S.t o.dst .und,h:=S.h}
  |.und=>K {t:=Ğ S.t o.dst .und,h:=S.h}
  |_=>none
def ald {E:Env ρ} {call:List Nat→Bool→Nat→List AV→List Blk→(AV→List Blk→Option ρ)→Option ρ} {fid:Nat} {path:List Nat} {draw:Bool} {all:List Oper} {o:Oper} {os:List Oper} {i nid:Nat} {S:St} {K:St→Option ρ} :
 ajg E call fid path draw all (o::os) i nid S K=DP E call fid path draw all i nid o S fun S'=>ajg E call fid path draw all os (i+1) (bif ē E.clone o.op then nid+1 else nid) S' K:=by
 simp only[ajg,DP]
 have hself:∀d b,lk S.t d=.bool b→({t:=upd S.t d (.bool b),h:=S.h}:St)=S:=fun d b hb=>by rw[←hb,Fq]
 have htself:∀d b,lk S.t d=.bool b→upd S.t d (.bool b)=S.t:=fun d b hb=>by rw[←hb,Fq]
 cases o.guard with
 |none=>rfl
 |some g =>
  obtain⟨j,want⟩:=g;simp only
  cases hb:lk S.t (uS all j)<;>try rfl
  rename_i b;have h1:=hself _ b hb;have h2:=htself _ b hb
  cases b<;>cases want<;>simp only[h1,h2]<;>rfl
def Pp {E : Env ρ} {call : List Nat → Bool → Nat → List AV → List Blk → (AV → List Blk → Option ρ) → Option ρ} {L : Nat} (hcall : ae4 E.P L call) (hP : ∀ (f : Nat) (fn : Func), E.P.funcs[f]? = some fn → (fn.name == "runtime.NumGoroutine") = false)
 (hclone:LQ E.P E.clone) {fid:Nat} {path:List Nat} {draw:Bool} {ops:Array Oper} (hg:sw ops.toList ops.toList=true)
 {S:St} {a:Act} {nid i:Nat} {o:Oper} {K:St→Option ρ} {r:ρ} (hp:path.length+1=L) (ho:ops[i]?=some o) (H:Sim ν S a w) (hn:ē E.clone o.op=true→nid<S.h.length∧lkB S.h nid=.dead)
 (e:DP E call fid path draw ops.toList i nid o S K=some r) {next:Act→World→Prop} {Q:Exit→Act→World→Prop}
 (hk:∀(ν':Nat→Value) (w':World) (u:Value) (v:AV) (S':St),VR ν' S'.h w' v u→HR ν' S'.h w'→Ev S.h.length ν S.h w ν' S'.h w'→S.h.length≤S'.h.length→(∀j,j<S.h.length→j≠nid∨ē E.clone o.op=false→lkB S.h j=.dead→lkB S'.h j=.dead)→S'.t=S.t →
  K {t:=Ğ S'.t o.dst v,h:=S'.h}=some r→next (a.put o.dst u) w') :
 wpOpIn fen 0 E.P ops Q i next a w:=by
 have run:jT E call fid (path++[i]) draw S nid o (fun v S=>K {t:=Ğ S.t o.dst v,h:=S.h})=some r →
  o.wpIn fen 0 E.P a w next Q:=fun h1=>afp hcall hP hclone (by simpa using hp) H hn h1 hk
 -- it is left out
 have skip:K {t:=Ğ S.t o.dst .und,h:=S.h}=some r→next (a.put o.dst undef) w :=
  fun h1=>hk ν w undef .und S rfl H.heap (Ev.refl _ _ _ _) (cR _) (fun _ _ _ hd=>hd) rfl h1
 have hmem:o∈ops.toList:=by
  have:ops.toList[i]?=some o:=by simpa using ho
  exact cZ this
 unfold wpOpIn;rw[ho];simp only[DP] at e
 split at e
 ·rename_i hgd
  have hw:Region.wanted o (yielded ops a.tmps)=true:=by simp[Region.wanted,hgd]
  simp only[hw,if_true];exact run e
 ·rename_i j want hgd;obtain⟨p,d,hp,hd⟩:=Xi hg hmem hgd;obtain⟨hy1,hy2⟩:=aiZ (tmps:=a.tmps) hp hd
  have hslot:uS ops.toList j=d:=by simp[uS,hp,hd]
  rw[hslot] at e;have hv:=H.tmps d
  split at e
  ·rename_i b hb;rw[hb] at hv;have hyb:=hy1 b hv
   split at e
   ·rename_i hbw
    have hw:Region.wanted o (yielded ops a.tmps)=true:=by
     simp only[beq_iff_eq] at hbw;simp[Region.wanted,hgd,hyb,hbw]
    simp only[hw,if_true];exact run e
   ·rename_i hbw
    have hw:Region.wanted o (yielded ops a.tmps)=false:=by
     simp only[beq_eq_false_iff_ne] at hbw;simpa[Region.wanted,hgd,hyb] using hbw
    simp only[hw,dm,if_false];exact⟨fun _ _=>trivial,skip e⟩
  ·rename_i hb;rw[hb] at hv
   have hw:Region.wanted o (yielded ops a.tmps)=false:=by simp[Region.wanted,hgd,hy2 hv]
   simp only[hw,dm,if_false];exact⟨fun _ _=>trivial,skip e⟩
  ·cases e
def alc {E : Env ρ} {call : List Nat → Bool → Nat → List AV → List Blk → (AV → List Blk → Option ρ) → Option ρ} {L : Nat} (hcall : ae4 E.P L call) (hP : ∀ (f : Nat) (fn : Func), E.P.funcs[f]? = some fn → (fn.name == "runtime.NumGoroutine") = false)
 (hclone:LQ E.P E.clone) {fid:Nat} {path:List Nat} {draw:Bool} {ops:Array Oper} (hg:sw ops.toList ops.toList=true)
 {S:St} {a:Act} {nid i:Nat} {o:Oper} {os:List Oper} {K:St→Option ρ} {r:ρ} (hp:path.length+1=L) (ho:ops[i]?=some o) (H:Sim ν S a w) (hn:apQ (iE E.clone (o::os)) nid S.h)
 (e:ajg E call fid path draw ops.toList (o::os) i nid S K=some r) {next:Act→World→Prop} {Q:Exit→Act→World→Prop}
 (hk:∀(ν':Nat→Value) (w':World) (u:Value) (v:AV) (S':St),VR ν' S'.h w' v u→HR ν' S'.h w'→Ev S.h.length ν S.h w ν' S'.h w'→S.h.length≤S'.h.length→apQ (iE E.clone os) (bif ē E.clone o.op then nid+1 else nid) S'.h→(∀j,j<S.h.length→j<nid→lkB S.h j=.dead→lkB S'.h j=.dead)→S'.t=S.t →
  ajg E call fid path draw ops.toList os (i+1) (bif ē E.clone o.op then nid+1 else nid) {t:=Ğ S'.t o.dst v,h:=S'.h} K=some r→next (a.put o.dst u) w') :
 wpOpIn fen 0 E.P ops Q i next a w:=by
 have hn0:ē E.clone o.op=true→nid<S.h.length∧lkB S.h nid=.dead:=fun hal=>hn nid (cR _) (by rw[nl,hal]; simp)
 have hrest:apQ (iE E.clone os) (bif ē E.clone o.op then nid+1 else nid) S.h:=fun j h1 h2=>by
  cases hal:ē E.clone o.op with
  |true=>rw[hal] at h1 h2; exact hn j (by simp at h1; omega) (by rw[nl,hal]; simp at h2 ⊢; omega)
  |false=>rw[hal] at h1 h2; exact hn j (by simpa using h1) (by rw[nl,hal]; simpa using h2)
 rw[ald] at e;refine Pp hcall hP hclone hg hp ho H hn0 e fun ν' w' u v S' g1 g2 g3 g4 g5 g6 g7=>hk ν' w' u v S' g1 g2 g3 g4 (fun j h2 h3=>?_) (fun j hj hlt hd=>g5 j hj (.inl (by omega)) hd) g6 g7;obtain⟨h4,h5⟩:=hrest j h2 h3;refine⟨by omega,g5 j h4 ?_ h5⟩
 cases hal:ē E.clone o.op with
 |true=>left; rw[hal] at h2; simp at h2; omega
 |false=>exact .inr rfl
end
end Go.Am
end

noncomputable section
namespace Go.Am
variable [ô]
section
variable {ρ:Type} {ν ν':Nat→Value} {h h':List Blk} {w w':World} {P:Program}
def Dd (m:Nat) (h h':List Blk):Prop:=∀j,j<m→lkB h j=.dead→lkB h' j=.dead
def Dd.refl (m:Nat) (h:List Blk):Dd m h h:=fun _ _ hd=>hd
def Dd.trans {m m':Nat} {h h' h'':List Blk} (h1:Dd m h h') (h2:Dd m' h' h'') (hm:m≤m'):Dd m h h'':=fun j hj hd=>h2 j (dA hj hm) (h1 j hj hd)
def akA (m:Nat) (ν:Nat→Value) (h:List Blk) (w:World) (K:Exit→St→Option ρ) (r:ρ) (e:Exit) (a':Act) (w':World):Prop :=
 ∃ν' S',Sim ν' S' a' w'∧Ev m ν h w ν' S'.h w'∧m≤S'.h.length∧Dd m h S'.h∧K e S'=some r
def akA.trans {m m':Nat} {K:Exit→St→Option ρ} {r:ρ} {e:Exit} {a':Act} {ν₁:Nat→Value} {h₁:List Blk} {w₁:World} (ev:Ev m ν h w ν₁ h₁ w₁) (hd:Dd m h h₁) (hm:m≤m') (ha:akA m' ν₁ h₁ w₁ K r e a' w'):akA m ν h w K r e a' w':=by
 obtain⟨ν',S',h1,h2,h3,h4,h5⟩:=ha;exact⟨ν',S',h1,ev.trans h2 hm,dC hm h3,hd.trans h4 hm,h5⟩
def anO (E:Env ρ) (call:List Nat→Bool→Nat→List AV→List Blk→(AV→List Blk→Option ρ)→Option ρ):Prop :=
 (∀path draw g args h K,call path draw g args h K=none) ∨
 ((∀ f p, E.pure f = some p → ∀ path draw args h K, call path draw f args h K = XY (draw && !E.fz f) p h args K) ∧
  (∀f,E.pure f=none→E.sort f=true→∀path draw args h K,call path draw f args h K=match args with|[x]=>XP h x K|_=>none) ∧
  (∀f,E.pure f=none→E.sort f=false→E.compact f=true→∀path draw args h K,call path draw f args h K=match args with|[x]=>pj h x K|_=>none))
def NormOk (m:Nat) (N:St→Option St):Prop:=∀(S S':St) (ν:Nat→Value) (a:Act) (w:World),N S=some S'→Sim ν S a w→m≤S.h.length→∃ν',Sim ν' S' a w∧Ev m ν S.h w ν' S'.h w∧m≤S'.h.length∧Dd m S.h S'.h
def aiV (E:Env ρ):Prop:=∀path fid rid m J,E.joins path fid rid m=some J→∃N,NormOk m N∧∀body rest,J body rest=body (fun S=>match N S with|some S'=>rest S'|none=>none)
def ir {E:Env ρ} (h:E.joins=fun _ _ _ _=>none):aiV E:=by
 intro path fid rid m J e;rw[h] at e;cases e
structure l5 (E:Env ρ) (L:Nat) (call:List Nat→Bool→Nat→List AV→List Blk→(AV→List Blk→Option ρ)→Option ρ):Prop where
 pureEq:anO E call
 call:ae4 E.P L call
 plain : ∀ (f : Nat) (fn : Func), E.P.funcs[f]? = some fn → (fn.name == "runtime.NumGoroutine") = false
 clone:LQ E.P E.clone
 joins:aiV E
def acp {E:Env ρ} {call:List Nat→Bool→Nat→List AV→List Blk→(AV→List Blk→Option ρ)→Option ρ} {L:Nat} (hE:l5 E L call) {fid:Nat} {path:List Nat} {draw:Bool} {ops:Array Oper} (hp:path.length+1=L) (hg:sw ops.toList ops.toList=true)
 {K:St→Option ρ} {r:ρ} {Q:Exit→Act→World→Prop} {m:Nat}:∀(os:List Oper) (i nid:Nat) (S:St) (a:Act) (ν:Nat→Value) (w:World),(∀k,os[k]?=ops[i+k]?)→Sim ν S a w→apQ (iE E.clone os) nid S.h→m≤nid→m≤S.h.length →
  ajg E call fid path draw ops.toList os i nid S K=some r →
  (∀ν' S' a' w',Sim ν' S' a' w'→Ev m ν S.h w ν' S'.h w'→m≤S'.h.length→Dd m S.h S'.h→K S'=some r→Q .normal a' w') →
  wpOpsIn fen 0 E.P ops Q (List.range' i os.length) a w
 |[],i,nid,S,a,ν,w,_,H,_,_,hm,e,hQ=>hQ ν S a w H (Ev.refl _ _ _ _) hm (Dd.refl _ _) e
 |o::os,i,nid,S,a,ν,w,ho,H,hn,hmn,hm,e,hQ=>by
  rw[dg,List.range'_succ,wpOpsIn_cons]
  have ho0:ops[i]?=some o:=by have:=ho 0; simpa using this.symm
  refine alc hE.call hE.plain hE.clone hg hp ho0 H hn e fun ν' w' u v S' h1 h2 h3 h4 h5 h8 h6 h7=>?_;have hput:=H.put h3 h2 o.dst h1
  refine acp hE hp hg os (i+1) _ {t:=Ğ S'.t o.dst v,h:=S'.h} _ ν' w' (fun k=>by have:=ho (k+1); rw[show i+1+k=i+(k+1) by omega]; simpa using this) (by rw[h6]; exact hput) h5 (by cases ē E.clone o.op<;>simp<;>omega) (by simp; omega) h7
   fun ν'' S'' a'' w'' g1 g2 g3 g4 g5=>hQ ν'' S'' a'' w'' g1 ((h3.mono hm).trans g2 (cR _)) g3 (fun j hj hd=>g4 j hj (h8 j (by omega) (by omega) hd)) g5
def aft {E:Env ρ} {call:List Nat→Bool→Nat→List AV→List Blk→(AV→List Blk→Option ρ)→Option ρ} {L:Nat} (hE:l5 E L call) {fid rid:Nat} {path:List Nat} {ops:Array Oper} {S:St} {a:Act} {K:Exit→St→Option ρ} {r:ρ} {m:Nat} (hp:path.length+1=L)
 (e:Pz E call fid path false ops.toList S (K .normal)=some r) (H:Sim ν S a w) (hm:m≤S.h.length):(Code.region rid ops false).wpIn fen 0 E.P (akA m ν S.h w K r) a w:=by
 unfold Pz at e
 split at e<;>try (cases e; done)
 rename_i hg;simp only[Bool.false_and,Bool.false_or,fC] at hg;apply wpIn_region;have hpre:=fun id=>aae S.h (iE E.clone ops.toList) id;have H1:Sim ν {t:=S.t,h:=S.h++List.replicate (iE E.clone ops.toList) .dead} a w:=H.same hpre rfl rfl rfl rfl;have ev0:Ev m ν S.h w ν (S.h++List.replicate (iE E.clone ops.toList) .dead) w:=Ev.same hpre rfl rfl rfl rfl m
 have:=acp (m:=m) (Q:=akA m ν S.h w K r) hE hp hg ops.toList 0 S.h.length _ a ν w (fun k=>by simp) H1 (fun j h1 h2=>⟨by simp; omega,by simp only[hpre]; exact W7 _ _ h1⟩) hm (by simp; omega) e
  (fun ν' S' a' w' g1 g2 g3 g4 g5=>⟨ν',S',g1,ev0.trans g2 (cR _),g3,fun j hj hd=>g4 j hj (by simp only[hpre]; exact hd),g5⟩)
 rw[List.range_eq_range'];simpa using this
def mm (E:Env ρ) (L:Nat) (call:List Nat→Bool→Nat→List AV→List Blk→(AV→List Blk→Option ρ)→Option ρ):Prop :=
 ∀(fid rid:Nat) (path:List Nat) (ops:Array Oper) (S:St) (a:Act) (K:Exit→St→Option ρ) (r:ρ) (m:Nat) (ν:Nat→Value) (w:World),path.length+1=L →
  Pz E call fid path true ops.toList S (K .normal)=some r→Sim ν S a w→m≤S.h.length→(Code.region rid ops true).wpIn fen 0 E.P (akA m ν S.h w K r) a w
def drawn:Code→Bool
 |.region _ _ d=>d
 |.seq a b=>drawn a||drawn b
 |.cond _ a b=>drawn a||drawn b
 |.block _ b=>drawn b
 |.scope b=>drawn b
 |_=>false
def noGoto (Q:Exit→Act→World→Prop):Exit→Act→World→Prop
 |.goto _,_,_=>False
 |e,a,w=>Q e a w
section
variable {F:Fence} {n:Nat} {P:Program} {Q:Exit→Act→World→Prop} {a:Act} {w:World}
def mn {b:Frame} {k:List Item} {cs:List Frame} {c:Code}:step P (lone (b.atR a (.code (.scope c)::k)) cs w)=.next (lone (b.atR a (.code c::.inScope c::k)) cs w) :=
 step_lone_go (by simp[stepG,stepG.exec,Frame.atR])
def XN {b:Frame} {k:List Item} {cs:List Frame} {c:Code}:step P (lone (b.atR a (.inScope c::k)) cs w)=.next (lone (b.atR a k) cs w) :=
 step_lone_go (by simp[stepG,stepG.exec,Frame.atR])
def ai0 {c:Code} (h:c.wpIn F n P (noGoto Q) a w):(Code.scope c).wpIn F n P Q a w:=by
 intro b k cs hro hb hr;have h0:(lone (b.atR a (.code (.scope c)::k)) cs w).fenced P F:=fenced_calm hb hr rfl;obtain⟨e,a₁,w₁,hq,harr⟩:=h b (.inScope c::k) cs hro hb hr
 cases e with
 |normal=>exact⟨.normal,a₁,w₁,hq,.head h0 mn (StepsIn.trans harr (.one (fenced_calm hb hr rfl) XN))⟩
 |exit id =>
  have hx:exitTo id (.inScope c::k)=exitTo id k:=by simp[exitTo]
  exact⟨.exit id,a₁,w₁,hq,fun k' hk=>.head h0 mn (harr.1 k' (by rw[hx]; exact hk)),
   fun hr' hk=>let ⟨k₁,h1,h2⟩:=harr.2 hr' (by rw[hx]; exact hk); ⟨k₁,h1,.head h0 mn h2⟩⟩
 |goto l=>exact hq.elim
 |ret=>exact⟨_,a₁,w₁,hq,.of_steps (.one h0 mn) harr⟩
 |panic ch=>exact⟨_,a₁,w₁,hq,.of_steps (.one h0 mn) harr⟩
 |outgrown=>exact⟨_,a₁,w₁,hq,.of_steps (.one h0 mn) harr⟩
end
def oG (E:Env ρ) (path:List Nat) (fid bid:Nat) (b:Code):Prop :=
 ∀(m:Nat) (S:St) (K:Exit→St→Option ρ) (r:ρ) (ν:Nat→Value) (a:Act) (w:World),E.loops path fid bid m S K=some r→Sim ν S a w→m≤S.h.length→(Code.loop b).wpIn fen 0 E.P (akA m ν S.h w K r) a w
def Ln {E:Env ρ} {call:List Nat→Bool→Nat→List AV→List Blk→(AV→List Blk→Option ρ)→Option ρ} {L:Nat} (hE:l5 E L call) {fid:Nat} {path:List Nat} (hp:path.length+2=L) {m:Nat} {r:ρ}:∀(c:Code) (bid:Nat) (S:St) (K:Exit→St→Option ρ) (ν:Nat→Value) (a:Act) (w:World),
 (drawn c=true→mm E L call)→(∀x∈ð bid c,oG E path fid x.1 x.2)→goC E call fid path m bid c S K=some r→Sim ν S a w→m≤S.h.length→c.wpIn fen 0 E.P (akA m ν S.h w K r) a w:=by
 intro c
 induction c with
 |skip=>exact fun bid S K ν a w _ _ e H hm=>wpIn_skip ⟨ν,S,H,Ev.refl _ _ _ _,hm,Dd.refl _ _,e⟩
 |label l=>exact fun bid S K ν a w _ _ e H hm=>wpIn_label ⟨ν,S,H,Ev.refl _ _ _ _,hm,Dd.refl _ _,e⟩
 |exit id=>exact fun bid S K ν a w _ _ e H hm=>wpIn_exit ⟨ν,S,H,Ev.refl _ _ _ _,hm,Dd.refl _ _,e⟩
 |ret=>exact fun bid S K ν a w _ _ e H hm=>wpIn_ret ⟨ν,S,H,Ev.refl _ _ _ _,hm,Dd.refl _ _,e⟩
 |region rid ops draw =>
  intro bid S K ν a w hD _ e H hm;simp only[goC,amf] at e
  cases draw with
  |false=>exact aft hE (by simpa using hp) e H hm
  |true=>exact hD rfl fid rid _ ops S a K r m ν w (by simpa using hp) e H hm
 |seq x y ihx ihy =>
  intro bid S K ν a w hD hL e H hm;simp only[goC] at e
  cases hj:E.joins path fid (SO y) m with
  |none =>
   rw[hj] at e;simp only at e;refine wpIn_seq (wpIn_mono (ihx bid S _ ν a w (fun h=>hD (by simp[drawn,h])) (fun z hz=>hL z (ez _ hz)) e H hm) fun e' a' w' ha=>?_);obtain⟨ν',S',h1,h2,h3,h4,h5⟩:=ha
   cases e' with
   |normal =>
    exact wpIn_mono (ihy bid S' K ν' a' w' (fun h=>hD (by simp[drawn,h])) (fun z hz=>hL z (dY _ hz)) h5 h1 h3) fun e'' a'' w'' ha=>ha.trans h2 h4 (cR _)
   |exit id=>exact⟨ν',S',h1,h2,h3,h4,h5⟩
   |goto l=>exact⟨ν',S',h1,h2,h3,h4,h5⟩
   |ret=>exact⟨ν',S',h1,h2,h3,h4,h5⟩
   |panic ch=>exact⟨ν',S',h1,h2,h3,h4,h5⟩
   |outgrown=>exact⟨ν',S',h1,h2,h3,h4,h5⟩
  |some J =>
   rw[hj] at e;simp only at e;obtain⟨N,hN,hJ⟩:=hE.joins _ _ _ _ _ hj;rw[hJ] at e;refine wpIn_seq (wpIn_mono (ihx bid S _ ν a w (fun h=>hD (by simp[drawn,h])) (fun z hz=>hL z (ez _ hz)) e H hm) fun e' a' w' ha=>?_);obtain⟨ν',S',h1,h2,h3,h4,h5⟩:=ha
   cases e' with
   |normal =>
    simp only at h5
    split at h5<;>try (cases h5; done)
    rename_i S'' hn;obtain⟨ν'',g1,g2,g3,g4⟩:=hN S' S'' ν' a' w' hn h1 h3;exact wpIn_mono (ihy bid S'' K ν'' a' w' (fun h=>hD (by simp[drawn,h])) (fun z hz=>hL z (dY _ hz)) h5 g1 g3) fun e'' a'' w'' ha=>ha.trans (h2.trans g2 (cR _)) (h4.trans g4 (cR _)) (cR _)
   |exit id=>exact⟨ν',S',h1,h2,h3,h4,h5⟩
   |goto l=>exact⟨ν',S',h1,h2,h3,h4,h5⟩
   |ret=>exact⟨ν',S',h1,h2,h3,h4,h5⟩
   |panic ch=>exact⟨ν',S',h1,h2,h3,h4,h5⟩
   |outgrown=>exact⟨ν',S',h1,h2,h3,h4,h5⟩
 |cond c x y ihx ihy =>
  intro bid S K ν a w hD hL e H hm;simp only[goC] at e
  split at e<;>try (cases e; done)
  rename_i b hb;have hv:=Œ H c;rw[hb] at hv;have hv:a.eval c=.bool b:=hv
  split at e
  ·exact wpIn_cond_true hv (ihx bid S K ν a w (fun h=>hD (by simp[drawn,h])) (fun z hz=>hL z (ez _ hz)) e H hm)
  ·exact wpIn_cond_false hv (ihy bid S K ν a w (fun h=>hD (by simp[drawn,h])) (fun z hz=>hL z (dY _ hz)) e H hm)
 |block id b ih =>
  intro bid S K ν a w hD hL e H hm;simp only[goC] at e;refine wpIn_block (wpIn_mono (ih id S _ ν a w (fun h=>hD (by simpa[drawn] using h)) hL e H hm) fun e' a' w' ha=>?_);obtain⟨ν',S',h1,h2,h3,h4,h5⟩:=ha
  cases e' with
  |exit j =>
   simp only[Exit.inBlock];simp only at h5
   split at h5
   ·rename_i hj;rw[if_pos (eq_of_beq hj)];exact⟨ν',S',h1,h2,h3,h4,h5⟩
   ·rename_i hj
    have:¬j=id:=by simpa using hj
    rw[if_neg this];exact⟨ν',S',h1,h2,h3,h4,h5⟩
  |normal=>exact⟨ν',S',h1,h2,h3,h4,h5⟩
  |goto l=>exact⟨ν',S',h1,h2,h3,h4,h5⟩
  |ret=>exact⟨ν',S',h1,h2,h3,h4,h5⟩
  |panic ch=>exact⟨ν',S',h1,h2,h3,h4,h5⟩
  |outgrown=>exact⟨ν',S',h1,h2,h3,h4,h5⟩
 |loop b ih =>
  intro bid S K ν a w hD hL e H hm;simp only[goC] at e;exact hL (bid,b) (by simp[ð]) m S K r ν a w e H hm
 |scope b ih =>
  intro bid S K ν a w hD hL e H hm;simp only[goC] at e;refine ai0 (wpIn_mono (ih bid S _ ν a w (fun h=>hD (by simpa[drawn] using h)) hL e H hm) fun e' a' w' ha=>?_);obtain⟨ν',S',h1,h2,h3,h4,h5⟩:=ha
  cases e' with
  |goto l=>cases h5
  |normal=>exact⟨ν',S',h1,h2,h3,h4,h5⟩
  |exit id=>exact⟨ν',S',h1,h2,h3,h4,h5⟩
  |ret=>exact⟨ν',S',h1,h2,h3,h4,h5⟩
  |panic ch=>exact⟨ν',S',h1,h2,h3,h4,h5⟩
  |outgrown=>exact⟨ν',S',h1,h2,h3,h4,h5⟩
 |_=>intro bid S K ν a w hD hL e H hm; cases e
def lQ {E:Env ρ} {call:List Nat→Bool→Nat→List AV→List Blk→(AV→List Blk→Option ρ)→Option ρ} {L:Nat} (hE:l5 E L call) (hD:mm E L call) {fid:Nat} {path:List Nat} (hp:path.length+2=L) {m:Nat} {r:ρ} (c:Code) (bid:Nat) (S:St) (K:Exit→St→Option ρ) (ν:Nat→Value) (a:Act) (w:World)
 (hL:∀x∈ð bid c,oG E path fid x.1 x.2) (e:goC E call fid path m bid c S K=some r) (H:Sim ν S a w) (hm:m≤S.h.length):c.wpIn fen 0 E.P (akA m ν S.h w K r) a w :=
 Ln hE hp c bid S K ν a w (fun _=>hD) hL e H hm
end
end Go.Am
end

noncomputable section
namespace Go.Am
variable [ô]
section
variable {ρ:Type} {ν ν':Nat→Value} {h h':List Blk} {w w':World} {P:Program}
def anM:Prop:=∀(T:Tpl) (pin:Nat) (cs vs:List Ty) (S:St) (p:Val (tyL cs)) (v:Val (tyL vs)) (ν:Nat→Value) (a:Act) (w:World),F2 T pin cs vs S=some (p,v)→Sim ν S a w →
 ∃ν',Sim ν' (jj T cs vs p v) a w∧Ev pin ν S.h w ν' (jj T cs vs p v).h w∧pin≤(jj T cs vs p v).h.length∧Dd pin S.h (jj T cs vs p v).h
def Xo:∀(l:List (Exit×Tpl×List Ty)) (e:Exit) (i j:Nat),ao0 l e i=some j→∃x,i≤j∧l[j-i]?=some x∧OP x.1 e=true
 |[],_,_,_,h=>by cases h
 |x::l,e,i,j,h=>by
  unfold ao0 at h
  split at h
  ·rename_i hs;cases h;exact⟨x,cR _,by simp,hs⟩
  ·obtain⟨y,h1,h2,h3⟩:=Xo l e (i+1) j h;refine⟨y,by omega,?_,h3⟩;rw[show j-i=(j-(i+1))+1 by omega];simpa using h2
def afo {a b:Exit} (h:OP a b=true):a=b:=by
 unfold OP at h
 split at h
 ·rw[eq_of_beq h]
 ·rfl
 ·cases h
def ajy (hM:anM) {E:Env ρ} {call:List Nat→Bool→Nat→List AV→List Blk→(AV→List Blk→Option ρ)→Option ρ} {N:Nat} (hE:l5 E N call) (hD:mm E N call) {fid bid:Nat} {path:List Nat} (hpath:path.length+2=N) {b:Code}
 (hin:∀x∈ð bid b,oG E path fid x.1 x.2) (L:È)
 (bF:Val (tyL L.cs)→Val (tyL L.vs)→(Val (tyL L.vs)→Option ρ)→((i:Nat)→Val (tyL (L.zs i))→Option ρ)→Option ρ)
 (hrun:∀m S K,E.loops path fid bid m S K=afq L bF m S K)
 (law:∀p v kn kx,goC E call fid path L.pin bid b (jj L.head L.cs L.vs p v) (abu L kn kx)=bF p v (kn p) (fun i=>kx i p)):oG E path fid bid b:=by
 intro m S K r ν a w e H hm;rw[hrun] at e;unfold afq at e
 split at e<;>try (cases e; done)
 rename_i hpin;have hpin:m≤L.pin:=fO hpin
 split at e<;>try (cases e; done)
 rename_i p v hmt;obtain⟨n,hn⟩:=ajz e;obtain⟨ν₁,H1,ev1,hp1,dd1⟩:=hM _ _ _ _ _ _ _ ν a w hmt H;apply wpIn_loop_rounds n
 have key:∀(n:Nat) (p:Val (tyL L.cs)) (v:Val (tyL L.vs)) (ν₁:Nat→Value) (a₁:Act) (w₁:World),anW (fun v kn=>bF p v kn fun i z=>K (L.xk i) (jj (L.tpl i) L.cs (L.zs i) p z)) n v=some r →
  Sim ν₁ (jj L.head L.cs L.vs p v) a₁ w₁→Ev m ν S.h w ν₁ (jj L.head L.cs L.vs p v).h w₁→L.pin≤(jj L.head L.cs L.vs p v).h.length→Dd m S.h (jj L.head L.cs L.vs p v).h →
  Code.roundsIn fen 0 E.P b (akA m ν S.h w K r) n a₁ w₁:=by
  intro n
  induction n with
  |zero=>intro p v ν₁ a₁ w₁ e; cases e
  |succ n ih =>
   intro p v ν₁ a₁ w₁ e H1 ev1 hp1 dd1;rw[roundsIn_succ];have hl:=law p v (fun p v=>anW (fun v kn=>bF p v kn fun i z=>K (L.xk i) (jj (L.tpl i) L.cs (L.zs i) p z)) n v) (fun i p z=>K (L.xk i) (jj (L.tpl i) L.cs (L.zs i) p z))
   have e':goC E call fid path L.pin bid b (jj L.head L.cs L.vs p v) (abu L (fun p v=>anW (fun v kn=>bF p v kn fun i z=>K (L.xk i) (jj (L.tpl i) L.cs (L.zs i) p z)) n v) (fun i p z=>K (L.xk i) (jj (L.tpl i) L.cs (L.zs i) p z)))=some r:=by
    rw[hl]; exact e
   refine wpIn_mono (lQ hE hD hpath b bid _ _ ν₁ a₁ w₁ hin e' H1 hp1) fun x a₂ w₂ ha=>?_;obtain⟨ν₂,S₂,H2,ev2,hp2,dd2,hk⟩:=ha;have ev12:Ev m ν S.h w ν₂ S₂.h w₂:=ev1.trans ev2 hpin;have dd12:Dd m S.h S₂.h:=dd1.trans dd2 hpin
   have out:∀x,x≠.normal→abu L (fun p v=>anW (fun v kn=>bF p v kn fun i z=>K (L.xk i) (jj (L.tpl i) L.cs (L.zs i) p z)) n v) (fun i p z=>K (L.xk i) (jj (L.tpl i) L.cs (L.zs i) p z)) x S₂=some r→akA m ν S.h w K r x a₂ w₂:=by
    intro x hx hk;unfold abu at hk
    split at hk
    ·exact absurd rfl hx
    ·split at hk<;>try (cases hk; done)
     rename_i i hi
     split at hk<;>try (cases hk; done)
     rename_i p' z hmt;obtain⟨y,_,h1,h2⟩:=Xo _ _ _ _ hi
     have hxk:L.xk i=x:=by
      have:L.exits[i]?=some y:=by simpa using h1
      unfold È.xk;rw[this];exact afo h2
     obtain⟨ν₃,H3,ev3,hp3,dd3⟩:=hM _ _ _ _ _ _ _ ν₂ a₂ w₂ hmt H2;have hk:K (L.xk i) (jj (L.tpl i) L.cs (L.zs i) p' z)=some r:=hk;rw[hxk] at hk;exact⟨ν₃,_,H3,ev12.trans ev3 hpin,dC hpin hp3,dd12.trans dd3 hpin,hk⟩
   cases x with
   |normal =>
    simp only[abu] at hk
    split at hk<;>try (cases hk; done)
    rename_i p' v' hmt;obtain⟨ν₃,H3,ev3,hp3,dd3⟩:=hM _ _ _ _ _ _ _ ν₂ a₂ w₂ hmt H2;exact ih p' v' ν₃ a₂ w₂ hk H3 (ev12.trans ev3 hpin) hp3 (dd12.trans dd3 hpin)
   |exit id=>exact out _ (by simp) hk
   |ret=>exact out _ (by simp) hk
   |goto l=>exact out _ (by simp) hk
   |panic ch=>exact out _ (by simp) hk
   |outgrown=>exact out _ (by simp) hk
 exact key n p v ν₁ a w hn H1 (ev1.mono hpin) hp1 (fun j hj hd=>dd1 j (by omega) hd)
end
end Go.Am
end

noncomputable section
namespace Go.Am
variable [ô]
section
variable {ν:Nat→Value} {h h':List Blk} {w:World}
def aeE {t:Ty} {d:DV} {x:Val t} (e:Tv t d=some x):d=⟨t,x⟩:=by
 unfold Tv at e
 split at e<;>try (cases e; done)
 rename_i ht _;obtain⟨ty,val⟩:=d;simp only at ht;subst ht;cases e;rfl
def ai1 (u:Ty) (l:List Ty) (t:Ty) (d:DV) (ds:List DV):ai2 (u::l) t (d::ds)=(match Tv t d with
 |some x=>match ai2 l u ds with
  |some y=>some ((x,y):Val t×Val (tys u l))
  |none=>none
 |none=>none):=rfl
def aln (t:Ty) (x:Val t):ajk t [] x=[⟨t,x⟩]:=rfl
def ajj (t u:Ty) (l:List Ty) (x:Val t) (y:Val (tys u l)):ajk t (u::l) ((x,y):Val t×Val (tys u l))=⟨t,x⟩::ajk u l y:=rfl
def an5 (l:List Ty):∀(t:Ty) (ds:List DV) (x:Val (tys t l)),ai2 l t ds=some x→ajk t l x=ds:=by
 induction l with
 |nil =>
  intro t ds x e
  match ds,e with
  |[],e=>exact absurd (show(none:Option (Val t))=some x from e) (fun h=>by cases h)
  |[d],e =>
   have e:Tv t d=some x:=e;rw[aeE e]; exact aln t x
  |_::_::_,e=>exact absurd (show(none:Option (Val t))=some x from e) (fun h=>by cases h)
 |cons u l ih =>
  intro t ds x e
  match ds,e with
  |[],e=>exact absurd (show(none:Option (Val t×Val (tys u l)))=some x from e) (fun h=>by cases h)
  |d::ds,e =>
   rw[ai1] at e
   cases hy:Tv t d with
   |none=>rw[hy] at e; exact absurd (show(none:Option (Val t×Val (tys u l)))=some x from e) (fun h=>by cases h)
   |some y =>
    cases hz:ai2 l u ds with
    |none=>rw[hy,hz] at e; exact absurd (show(none:Option (Val t×Val (tys u l)))=some x from e) (fun h=>by cases h)
    |some z =>
     rw[hy,hz] at e;have e:((y,z):Val t×Val (tys u l))=x:=Option.some.inj e;rw[←e,aeE hy,←ih u ds z hz];exact ajj t u l y z
def aho (l:List Ty) (ds:List DV) (x:Val (tyL l)) (e:aqr l ds=some x):afB l x=ds:=by
 cases l with
 |nil=>cases ds with
  |nil=>rfl
  |cons=>cases e
 |cons t l=>exact an5 l t ds x e
def νb (B:List Bd) (ν:Nat→Value) (i:Nat):Value :=
 match jt B i with
 |some (.at_ id)=>ν id
 |some .new=>.slice none 0 0
 |some .newd=>.agg [Value.slice none 0 0].toArray
 |_=>undef
structure Ext (M M':Mt):Prop where
 bd:∀i id,jt M.bd i=some (.at_ id)→jt M'.bd i=some (.at_ id)
 new:∀i,jt M.bd i=some .new→jt M'.bd i=some .new
 newd:∀i,jt M.bd i=some .newd→jt M'.bd i=some .newd
 cons:M.cons <+: M'.cons
 vars:M.vars <+: M'.vars
 freed:∀i∈M.freed,i∈M'.freed
 len:M'.bd.length=M.bd.length
def Ext.refl (M:Mt):Ext M M:=⟨fun _ _ h=>h,fun _ h=>h,fun _ h=>h,eh,eh,fun _ h=>h,rfl⟩
def Ext.trans {M M' M'':Mt} (h:Ext M M') (k:Ext M' M''):Ext M M'' :=
 ⟨fun i id q=>k.bd i id (h.bd i id q),fun i q=>k.new i (h.new i q),fun i q=>k.newd i (h.newd i q),h.cons.trans k.cons,h.vars.trans k.vars,fun i q=>k.freed i (h.freed i q),k.len.trans h.len⟩
def Ű:∀(l:List Bd) (d:Nat) (b:Bd) (i:Nat),jt (No l d b) i=if i=d∧d<l.length then some b else jt l i
 |[],d,v,i=>by simp[No,jt]
 |x::xs,0,v,0=>by simp[No,jt]
 |x::xs,0,v,i+1=>by simp[No,jt]
 |x::xs,d+1,v,0=>by simp[No,jt]
 |x::xs,d+1,v,i+1=>by simp[No,jt,Ű xs d v i]
def su:∀(l:List Bd) (d:Nat) (b:Bd),(No l d b).length=l.length
 |[],_,_=>rfl
 |_::_,0,_=>rfl
 |_::xs,d+1,v=>by simp[No,su xs d v]
def Aj:∀{l:List Bd} {i:Nat} {b:Bd},jt l i=some b→i<l.length
 |[],_,_,h=>by cases h
 |_::_,0,_,_=>gE _
 |_::_,i+1,_,h=>Nat.succ_lt_succ (Aj (by simpa[jt] using h))
def iR {M M':Mt} {i id:Nat} (e:TK M i id=some M'):Ext M M'∧jt M'.bd i=some (.at_ id)∧M'.cons=M.cons∧M'.vars=M.vars:=by
 unfold TK at e
 split at e<;>try (cases e; done)
 ·rename_i ho;cases e;have hlt:=Aj ho;refine⟨⟨fun j id' q=>?_,fun j q=>?_,fun j q=>?_,eh,eh,fun _ q=>q,su _ _ _⟩,by simp[Ű,hlt],rfl,rfl⟩
  ·simp only[Ű]
   by_cases hj:j=i
   ·subst hj; rw[ho] at q; cases q
   ·simp[hj,q]
  ·simp only[Ű]
   by_cases hj:j=i
   ·subst hj; rw[ho] at q; cases q
   ·simp[hj,q]
  ·simp only[Ű]
   by_cases hj:j=i
   ·subst hj; rw[ho] at q; cases q
   ·simp[hj,q]
 ·rename_i id' ho
  split at e<;>try (cases e; done)
  rename_i hi;cases e;rw[eq_of_beq hi] at ho;exact⟨Ext.refl _,ho,rfl,rfl⟩
def Nj {M M':Mt} {i:Nat} (e:ag2 M i=some M'):Ext M M'∧jt M'.bd i=some .new∧M'.cons=M.cons∧M'.vars=M.vars:=by
 unfold ag2 at e
 split at e<;>try (cases e; done)
 rename_i ho;cases e;have hlt:=Aj ho;refine⟨⟨fun j id' q=>?_,fun j q=>?_,fun j q=>?_,eh,eh,fun _ q=>q,su _ _ _⟩,by simp[Ű,hlt],rfl,rfl⟩
 ·simp only[Ű]
  by_cases hj:j=i
  ·subst hj; rw[ho] at q; cases q
  ·simp[hj,q]
 ·simp only[Ű]
  by_cases hj:j=i
  ·subst hj; rw[ho] at q; cases q
  ·simp[hj,q]
 ·simp only[Ű]
  by_cases hj:j=i
  ·subst hj; rw[ho] at q; cases q
  ·simp[hj,q]
def Jt {M M':Mt} {i:Nat} (e:aaV M i=some M'):Ext M M'∧jt M'.bd i=some .newd∧M'.cons=M.cons∧M'.vars=M.vars:=by
 unfold aaV at e
 split at e<;>try (cases e; done)
 rename_i ho;cases e;have hlt:=Aj ho;refine⟨⟨fun j id' q=>?_,fun j q=>?_,fun j q=>?_,eh,eh,fun _ q=>q,su _ _ _⟩,by simp[Ű,hlt],rfl,rfl⟩
 ·simp only[Ű]
  by_cases hj:j=i
  ·subst hj; rw[ho] at q; cases q
  ·simp[hj,q]
 ·simp only[Ű]
  by_cases hj:j=i
  ·subst hj; rw[ho] at q; cases q
  ·simp[hj,q]
 ·simp only[Ű]
  by_cases hj:j=i
  ·subst hj; rw[ho] at q; cases q
  ·simp[hj,q]
def kin:Blk→Blk→Prop
 |.row t _ false xs,B=>B=.row t 0 false xs
 |.row t g true xs,B=>B=.row t g true xs
 |.map k v es,B=>B=.map k v es
 |.cells _,B=>∃cs',B=.cells cs'
 |.dead,B=>B=.dead
 |.deep k _ xss,B=>B=.deep k 0 xss
structure Fin (ν:Nat→Value) (h:List Blk) (w:World) (M:Mt) (h':List Blk):Prop where
 at_:∀i id,jt M.bd i=some (.at_ id)→kin (lkB h id) (lkB h' i)
 new:∀i,jt M.bd i=some .new→∃t,lkB h' i=.row t 0 false []
 newd:∀i,jt M.bd i=some .newd→∃k,lkB h' i=.deep k 0 []
 out:∀i,(∀id,jt M.bd i≠some (.at_ id))→jt M.bd i≠some .new→jt M.bd i≠some .newd→lkB h' i=.dead
 freed:∀id∈M.freed,∀i,jt M.bd i≠some (.at_ id)
 inj:∀i j id,jt M.bd i=some (.at_ id)→jt M.bd j=some (.at_ id)→i=j
def Fin.live {M:Mt} (F:Fin ν h w M h') {b:Nat} (hb:ag8 (νb M.bd ν) h' b):∃i id,jt M.bd i=some (.at_ id)∧(lkB h id).live=true∧η (ν id) b:=by
 obtain⟨i,hl,hn⟩:=hb
 cases hB:jt M.bd i with
 |none=>rw[F.out i (by simp[hB]) (by simp[hB]) (by simp[hB])] at hl; cases hl
 |some bd =>
  cases bd with
  |open_=>rw[F.out i (by simp[hB]) (by simp[hB]) (by simp[hB])] at hl; cases hl
  |new=>simp only[νb,hB] at hn; cases hn
  |newd =>
   simp only[νb,hB] at hn;obtain⟨u,hu,hb⟩:=hn;simp at hu;subst hu;cases hb
  |at_ id =>
   refine⟨i,id,hB,?_,by simpa[νb,hB] using hn⟩;have hk:=F.at_ i id hB
   cases hB':lkB h id with
   |dead=>rw[hB'] at hk; rw[show lkB h' i=_ from hk] at hl; cases hl
   |cells=>rfl
   |map=>rfl
   |deep=>rfl
   |row t g fz xs =>
    cases fz with
    |false=>rfl
    |true=>rw[hB'] at hk; rw[show lkB h' i=_ from hk] at hl; cases hl
def Fin.subL {M:Mt} (F:Fin ν h w M h') (b:Nat) (hb:ag8 (νb M.bd ν) h' b):ag8 ν h b:=by
 obtain⟨i,id,_,h2,h3⟩:=F.live hb;exact⟨id,h2,h3⟩
def Fin.sub {M:Mt} (F:Fin ν h w M h') (b:Nat) (hb:Av (νb M.bd ν) h' b):Av ν h b:=hb.imp_left (F.subL b)
def ait (H:HR ν h w) {M:Mt} (F:Fin ν h w M h') {t:Ty} {v:AV} {u:Value} {x:Val t} (hf:∀i∈Xm h v,i∈M.freed) (e:æ t [Ă h v]=some x) (hv:VR ν h w v u) :
 VR (νb M.bd ν) h' w (amo ⟨t,x⟩) u:=by
 have main:∀(hag:v.isAgg=false) (htu:v.isTup=false),CR w (Av (νb M.bd ν) h') t x [u]:=by
  intro hag htu;have h1:=hv.one hag htu;refine Ū e ⟨Ft H F.sub h1 fun id b hc hl hb=>?_,trivial⟩;rintro(hlive|hgh)
  rotate_left
  ·exact H.ghne id b hl hb hgh
  obtain⟨i,id',h2,h3,h4⟩:=F.live hlive;have hid:id=id':=H.inj id id' b hl h3 hb h4;subst hid;refine F.freed id (hf id ?_) i h2;rcases hc with⟨g,rfl⟩|⟨g,lo,n,rfl⟩|rfl
  ·obtain⟨_,t',g',fz,xs,hl',_⟩:=h1;rw[hl'] at hl
   cases fz with
   |true=>cases hl
   |false=>simp[Xm,hl']
  ·obtain⟨_,t',g',fz,xs,hl',_⟩:=h1;rw[hl'] at hl
   cases fz with
   |true=>cases hl
   |false=>simp[Xm,hl']
  ·simp[Xm]
 have fin:(t≠.unit∧∀a b,t≠.pair a b)→v.isAgg=false∧v.isTup=false:=fun⟨h1,h2⟩=>by
  constructor
  ·cases v<;>try rfl
   cases t<;>first|(exact absurd rfl h1)|(exact absurd rfl (h2 _ _))|(simp[Ă,æ,Β] at e)
  ·cases v<;>try rfl
   cases t<;>first|(exact absurd rfl h1)|(exact absurd rfl (h2 _ _))|(simp[Ă,æ,Β] at e)
 cases t with
 |unit=>trivial
 |pair a b=>trivial
 |bool=>obtain⟨q1,q2⟩:=fin ⟨by simp,by simp⟩; exact Nb (main q1 q2)
 |int k=>obtain⟨q1,q2⟩:=fin ⟨by simp,by simp⟩; exact Nb (main q1 q2)
 |str=>obtain⟨q1,q2⟩:=fin ⟨by simp,by simp⟩; exact Nb (main q1 q2)
 |slice t=>obtain⟨q1,q2⟩:=fin ⟨by simp,by simp⟩; exact Nb (main q1 q2)
 |map k v=>obtain⟨q1,q2⟩:=fin ⟨by simp,by simp⟩; exact Nb (main q1 q2)
 |ptr t=>obtain⟨q1,q2⟩:=fin ⟨by simp,by simp⟩; exact Nb (main q1 q2)
def Ĺ {α:Type} {l C:List α} {d:α} (h:(l++[d]) <+: C):C.drop l.length=d::C.drop (l.length+1):=by
 obtain⟨t,rfl⟩:=h;simp[du]
def pE {B:List Bd} {i id:Nat} (h:jt B i=some (.at_ id)):νb B ν i=ν id:=by simp[νb,h]
def akB {B:List Bd} {i:Nat} (h:jt B i=some .new):νb B ν i=.slice none 0 0:=by simp[νb,h]
def ahb {B:List Bd} {i:Nat} (h:jt B i=some .newd):νb B ν i=.agg [Value.slice none 0 0].toArray:=by simp[νb,h]
def j5:∀(ps:List (Nat×Nat)) (vs:List AV) (us:List Value) (M M1:Mt),yx h ps vs M=some M1→Ext M M1∧M1.cons=M.cons∧M1.vars=M.vars ∧
 ∀Mf,Ext M1 Mf→Fin ν h w Mf h'→ĉ (VR0 ν h w) vs us→ĉ (VR0 (νb Mf.bd ν) h' w) (ps.map fun c=>.box c.1 c.2) us
 |[],[],us,M,M1,e=>by
  cases e;exact⟨Ext.refl _,rfl,rfl,fun Mf _ _ hv=>by cases us with|nil=>trivial|cons=>exact hv.elim⟩
 |[],_::_,_,_,_,e=>by cases e
 |_::_,[],_,_,_,e=>by cases e
 |(i,o)::ps,v::vs,us,M,M1,e=>by
  cases v<;>try (simp[yx] at e; done)
  rename_i id off;simp only[yx] at e
  split at e<;>try (cases e; done)
  rename_i ho
  split at e<;>try (cases e; done)
  rename_i cs hl
  split at e<;>try (cases e; done)
  rename_i M2 hb;obtain⟨e1,b1,c1,v1⟩:=iR hb;obtain⟨e2,c2,v2,_⟩:=j5 ps vs us M2 M1 e;refine⟨e1.trans e2,c2.trans c1,v2.trans v1,fun Mf he F hv=>?_⟩
  cases us with
  |nil=>exact hv.elim
  |cons u us =>
   refine⟨?_,(j5 ps vs us M2 M1 e).2.2.2 Mf he F hv.2⟩;obtain⟨cs',b,h1,h2,h3⟩:=hv.1;have hat:=he.bd i id (e2.bd i id b1);have hk:=F.at_ i id hat;rw[hl] at hk;obtain⟨cs2,hk⟩:=hk;exact⟨cs2,b,hk,(pE hat).trans h2,by rw[eq_of_beq ho]; exact h3⟩
def PV (H:HR ν h w) {p:Pat} {v:AV} {M M1:Mt} (e:je h p v M=some M1):Ext M M1∧∀Mf u,Ext M1 Mf→Fin ν h w Mf h'→VR ν h w v u →
 VR (νb Mf.bd ν) h' w (tk p ⟨Mf.cons.drop M.cons.length,Mf.vars.drop M.vars.length⟩).1 u ∧
  (tk p ⟨Mf.cons.drop M.cons.length,Mf.vars.drop M.vars.length⟩).2=⟨Mf.cons.drop M1.cons.length,Mf.vars.drop M1.vars.length⟩:=by
 cases p with
 |any=>cases e; exact⟨Ext.refl _,fun Mf u _ _ _=>⟨trivial,rfl⟩⟩
 |con t =>
  simp only[je] at e
  split at e<;>try (cases e; done)
  rename_i x hx;cases e;refine⟨⟨fun _ _ q=>q,fun _ q=>q,fun _ q=>q,eM _ _,eh,fun _ q=>dY _ q,rfl⟩,fun Mf u he F hv=>?_⟩;have hd:=Ĺ he.cons;simp only[tk,hd];exact⟨ait H F (fun i hi=>he.freed i (ez _ hi)) hx hv,by simp⟩
 |var t =>
  simp only[je] at e
  split at e<;>try (cases e; done)
  rename_i x hx;cases e;refine⟨⟨fun _ _ q=>q,fun _ q=>q,fun _ q=>q,eh,eM _ _,fun _ q=>dY _ q,rfl⟩,fun Mf u he F hv=>?_⟩;have hd:=Ĺ he.vars;simp only[tk,hd];exact⟨ait H F (fun i hi=>he.freed i (ez _ hi)) hx hv,by simp⟩
 |own i =>
  simp only[je] at e
  split at e<;>try (cases e; done)
  ·rename_i id g
   split at e<;>try (cases e; done)
   rename_i t g' xs hl
   split at e<;>try (cases e; done)
   rename_i hg;obtain⟨e1,b1,c1,v1⟩:=iR e;refine⟨e1,fun Mf u he F hv=>⟨?_,by simp only[tk,c1,v1]⟩⟩;have hat:=he.bd i id b1;have hk:=F.at_ i id hat;rw[hl] at hk;obtain⟨ho,t2,g2,fz2,xs2,hl2,_,hq⟩:=hv;rw[hl] at hl2; cases hl2;exact⟨ho,t,0,false,xs,hk,cR _,fun _=>(hq (eq_of_beq hg)).trans (pE hat).symm⟩
  ·obtain⟨e1,b1,c1,v1⟩:=Nj e;refine⟨e1,fun Mf u he F hv=>⟨?_,by simp only[tk,c1,v1]⟩⟩;have hnw:=he.new i b1;obtain⟨t,hk⟩:=F.new i hnw;have hu:u=.slice none 0 0:=hv;exact⟨by rw[hu]; rfl,t,0,false,[],hk,cR _,fun _=>hu.trans (akB hnw).symm⟩
 |dp i =>
  simp only[je] at e
  split at e<;>try (cases e; done)
  ·rename_i id g
   split at e<;>try (cases e; done)
   rename_i k g' xss hl
   split at e<;>try (cases e; done)
   rename_i hg;obtain⟨e1,b1,c1,v1⟩:=iR e;refine⟨e1,fun Mf u he F hv=>⟨?_,by simp only[tk,c1,v1]⟩⟩;have hat:=he.bd i id b1;have hk:=F.at_ i id hat;rw[hl] at hk;obtain⟨ho,k2,g2,xss2,hl2,_,hq⟩:=hv;rw[hl] at hl2; cases hl2;exact⟨ho,k,0,xss,hk,cR _,fun _=>by rw[pE hat]; exact hq (eq_of_beq hg)⟩
  ·obtain⟨e1,b1,c1,v1⟩:=Jt e;refine⟨e1,fun Mf u he F hv=>⟨?_,by simp only[tk,c1,v1]⟩⟩;have hnw:=he.newd i b1;obtain⟨k,hk⟩:=F.newd i hnw;have hu:u=.slice none 0 0:=hv;exact⟨by rw[hu]; rfl,k,0,[],hk,cR _,fun _=>⟨[],by rw[ahb hnw,hu]⟩⟩
 |omp i =>
  simp only[je] at e
  split at e<;>try (cases e; done)
  rename_i id
  split at e<;>try (cases e; done)
  rename_i k v' es hl;obtain⟨e1,b1,c1,v1⟩:=iR e;refine⟨e1,fun Mf u he F hv=>⟨?_,by simp only[tk,c1,v1]⟩⟩;have hat:=he.bd i id b1;have hk:=F.at_ i id hat;rw[hl] at hk;obtain⟨ho,k2,v2,es2,hl2,hq⟩:=hv;exact⟨ho,k,v',es,hk,hq.trans (pE hat).symm⟩
 |box i off =>
  simp only[je] at e
  split at e<;>try (cases e; done)
  rename_i id off'
  split at e<;>try (cases e; done)
  rename_i hoff
  split at e<;>try (cases e; done)
  rename_i cs hl;obtain⟨e1,b1,c1,v1⟩:=iR e;refine⟨e1,fun Mf u he F hv=>⟨?_,by simp only[tk,c1,v1]⟩⟩;have hat:=he.bd i id b1;have hk:=F.at_ i id hat;rw[hl] at hk;obtain⟨cs2,hk⟩:=hk;obtain⟨cs',b,h1,h2,h3⟩:=hv;exact⟨cs2,b,hk,(pE hat).trans h2,by rw[eq_of_beq hoff]; exact h3⟩
 |nils =>
  simp only[je] at e
  split at e<;>try (cases e; done)
  cases e;exact⟨Ext.refl _,fun Mf u _ _ hv=>⟨hv,rfl⟩⟩
 |nilp =>
  simp only[je] at e
  split at e<;>try (cases e; done)
  cases e;exact⟨Ext.refl _,fun Mf u _ _ hv=>⟨hv,rfl⟩⟩
 |nilfn =>
  simp only[je] at e
  split at e<;>try (cases e; done)
  cases e;exact⟨Ext.refl _,fun Mf u _ _ hv=>⟨hv,rfl⟩⟩
 |fn f caps =>
  simp only[je] at e
  split at e<;>try (cases e; done)
  rename_i f' vs
  split at e<;>try (cases e; done)
  rename_i hf;obtain⟨e1,c1,v1,_⟩:=j5 (ν:=ν) (w:=w) (h':=h') caps vs [] M M1 e;refine⟨e1,fun Mf u he F hv=>⟨?_,by simp only[tk,c1,v1]⟩⟩;obtain⟨fs,cs,rfl,q1,q2⟩:=hv;have:=(j5 (ν:=ν) (w:=w) (h':=h') caps vs cs.toList M M1 e).2.2.2 Mf he F q2;exact⟨fs,cs,by rw[eq_of_beq hf],by rw[q1.nil_left]; trivial,this⟩
def rest (Mf M:Mt):It:=⟨Mf.cons.drop M.cons.length,Mf.vars.drop M.vars.length⟩
def DY {Mf M M1:Mt} (h1:M1.cons=M.cons) (h2:M1.vars=M.vars):rest Mf M=rest Mf M1:=by simp only[rest,h1,h2]
def vE {p:Pat} {v:AV} {M M1:Mt} (e:je h p v M=some M1):Ext M M1∧∀Mf,Ext M1 Mf→(tk p (rest Mf M)).2=rest Mf M1:=by
 cases p with
 |any=>cases e; exact⟨Ext.refl _,fun Mf _=>rfl⟩
 |con t =>
  simp only[je] at e
  split at e<;>try (cases e; done)
  rename_i x hx;cases e;refine⟨⟨fun _ _ q=>q,fun _ q=>q,fun _ q=>q,eM _ _,eh,fun _ q=>dY _ q,rfl⟩,fun Mf he=>?_⟩;have hd:=Ĺ he.cons;simp only[rest,tk,hd]; simp
 |var t =>
  simp only[je] at e
  split at e<;>try (cases e; done)
  rename_i x hx;cases e;refine⟨⟨fun _ _ q=>q,fun _ q=>q,fun _ q=>q,eh,eM _ _,fun _ q=>dY _ q,rfl⟩,fun Mf he=>?_⟩;have hd:=Ĺ he.vars;simp only[rest,tk,hd]; simp
 |own i =>
  simp only[je] at e
  split at e<;>try (cases e; done)
  ·split at e<;>try (cases e; done)
   split at e<;>try (cases e; done)
   obtain⟨e1,b1,c1,v1⟩:=iR e;exact⟨e1,fun Mf he=>DY c1 v1⟩
  ·obtain⟨e1,b1,c1,v1⟩:=Nj e;exact⟨e1,fun Mf he=>DY c1 v1⟩
 |dp i =>
  simp only[je] at e
  split at e<;>try (cases e; done)
  ·split at e<;>try (cases e; done)
   split at e<;>try (cases e; done)
   obtain⟨e1,b1,c1,v1⟩:=iR e;exact⟨e1,fun Mf he=>DY c1 v1⟩
  ·obtain⟨e1,b1,c1,v1⟩:=Jt e;exact⟨e1,fun Mf he=>DY c1 v1⟩
 |omp i =>
  simp only[je] at e
  split at e<;>try (cases e; done)
  split at e<;>try (cases e; done)
  obtain⟨e1,b1,c1,v1⟩:=iR e;exact⟨e1,fun Mf he=>DY c1 v1⟩
 |box i off =>
  simp only[je] at e
  split at e<;>try (cases e; done)
  split at e<;>try (cases e; done)
  split at e<;>try (cases e; done)
  obtain⟨e1,b1,c1,v1⟩:=iR e;exact⟨e1,fun Mf he=>DY c1 v1⟩
 |nils =>
  simp only[je] at e
  split at e<;>try (cases e; done)
  cases e; exact⟨Ext.refl _,fun Mf _=>rfl⟩
 |nilp =>
  simp only[je] at e
  split at e<;>try (cases e; done)
  cases e; exact⟨Ext.refl _,fun Mf _=>rfl⟩
 |nilfn =>
  simp only[je] at e
  split at e<;>try (cases e; done)
  cases e; exact⟨Ext.refl _,fun Mf _=>rfl⟩
 |fn f caps =>
  simp only[je] at e
  split at e<;>try (cases e; done)
  rename_i f' vs
  split at e<;>try (cases e; done)
  obtain⟨e1,c1,v1,_⟩:=j5 (ν:=fun _=>undef) (w:=default) (h':=[]) caps vs [] M M1 e;exact⟨e1,fun Mf he=>DY c1 v1⟩
def uP (p:Pat) (ps:List Pat) (I:It):Lj (p::ps) I=((tk p I).1::(Lj ps (tk p I).2).1,(Lj ps (tk p I).2).2):=rfl
def D9:∀{ps:List Pat} {vs:List AV} {M M1:Mt},WE h ps vs M=some M1→Ext M M1∧∀Mf,Ext M1 Mf→(Lj ps (rest Mf M)).2=rest Mf M1
 |[],vs,M,M1,e=>by cases e; exact⟨Ext.refl _,fun Mf _=>rfl⟩
 |p::ps,vs,M,M1,e=>by
  simp only[WE] at e
  split at e<;>try (cases e; done)
  rename_i M2 h1;obtain⟨e1,t1⟩:=vE h1;obtain⟨e2,t2⟩:=D9 e;exact⟨e1.trans e2,fun Mf he=>by rw[uP,t1 Mf (e2.trans he)]; exact t2 Mf he⟩
def acz (H:HR ν h w):∀{ps:List Pat} {vs:List AV} {M M1:Mt},WE h ps vs M=some M1→∀Mf,Ext M1 Mf→Fin ν h w Mf h'→∀f:Nat→Value,(∀k,VR ν h w (lk vs k) (f k)) →
 ∀k,VR (νb Mf.bd ν) h' w (lk (Lj ps (rest Mf M)).1 k) (f k)
 |[],vs,M,M1,e,Mf,_,_,f,_,k=>trivial
 |p::ps,vs,M,M1,e,Mf,he,F,f,hf,k=>by
  simp only[WE] at e
  split at e<;>try (cases e; done)
  rename_i M2 h1;obtain⟨e1,t1⟩:=vE h1;obtain⟨e2,t2⟩:=D9 e;rw[uP,t1 Mf (e2.trans he)]
  cases k with
  |zero=>exact((PV H h1).2 Mf (f 0) (e2.trans he) F (hf 0)).1
  |succ k =>
   have ht:∀k,lk vs.tail k=lk vs (k+1):=fun k=>by cases vs<;>rfl
   exact acz H e Mf he F (fun k=>f (k+1)) (fun k=>by rw[ht]; exact hf (k+1)) k
def pK:∀{ps:List Pat} {vs:List AV} {M M1:Mt},pu h ps vs M=some M1→Ext M M1∧∀Mf,Ext M1 Mf→(Lj ps (rest Mf M)).2=rest Mf M1
 |[],[],M,M1,e=>by cases e; exact⟨Ext.refl _,fun Mf _=>rfl⟩
 |[],_::_,M,M1,e=>by cases e
 |_::_,[],M,M1,e=>by cases e
 |p::ps,v::vs,M,M1,e=>by
  simp only[pu] at e
  split at e<;>try (cases e; done)
  rename_i M2 h1;obtain⟨e1,t1⟩:=vE h1;obtain⟨e2,t2⟩:=pK e;exact⟨e1.trans e2,fun Mf he=>by rw[uP,t1 Mf (e2.trans he)]; exact t2 Mf he⟩
def ajD (p:Pat) (I:It):(tk p I).1.isAgg=false∧(tk p I).1.isTup=false:=by
 have henc:∀d:DV,(amo d).isAgg=false∧(amo d).isTup=false:=fun d=>by
  obtain⟨t,x⟩:=d
  cases t<;>exact⟨rfl,rfl⟩
 cases p<;>simp only[tk]<;>try exact⟨rfl,rfl⟩
 ·split<;>first|exact henc _|exact⟨rfl,rfl⟩
 ·split<;>first|exact henc _|exact⟨rfl,rfl⟩
def F3 (H:HR ν h w):∀{ps:List Pat} {vs:List AV} {us:List Value} {M M1:Mt},pu h ps vs M=some M1→∀Mf,Ext M1 Mf→Fin ν h w Mf h'→ĉ (VRc ν h w) vs us →
 ĉ (VRc (νb Mf.bd ν) h' w) (Lj ps (rest Mf M)).1 us
 |[],[],us,M,M1,e,Mf,_,_,hv=>by cases us with|nil=>trivial|cons=>exact hv.elim
 |[],_::_,_,M,M1,e,_,_,_,_=>by cases e
 |_::_,[],_,M,M1,e,_,_,_,_=>by cases e
 |p::ps,v::vs,us,M,M1,e,Mf,he,F,hv=>by
  simp only[pu] at e
  split at e<;>try (cases e; done)
  rename_i M2 h1;obtain⟨e1,t1⟩:=vE h1;obtain⟨e2,t2⟩:=pK e;rw[uP,t1 Mf (e2.trans he)]
  cases us with
  |nil=>exact hv.elim
  |cons u us =>
   have h2:=((PV H h1).2 Mf u (e2.trans he) F hv.1.1.up).1;have hfl:=ajD p (rest Mf M);exact⟨⟨h2.one hfl.1 hfl.2,hv.1.2⟩,F3 H e Mf he F hv.2⟩
def BB (M:Mt) (d:DV):Ext M {M with cons:=M.cons++[d]}:=⟨fun _ _ q=>q,fun _ q=>q,fun _ q=>q,eM _ _,eh,fun _ q=>q,rfl⟩
def Je (M:Mt) (d:DV):Ext M {M with vars:=M.vars++[d]}:=⟨fun _ _ q=>q,fun _ q=>q,fun _ q=>q,eh,eM _ _,fun _ q=>q,rfl⟩
def PU {p:jb} {i:Nat} {M M1:Mt} (e:j6 h p i M=some M1):Ext M M1∧∀Mf,Ext M1 Mf→(uQ p (rest Mf M)).2=rest Mf M1 ∧
 ((∃id,jt M.bd i=some (.at_ id)∧kin (lkB h id) (uQ p (rest Mf M)).1)∨(jt M.bd i=some .new∧∃t,(uQ p (rest Mf M)).1=.row t 0 false [])∨(jt M.bd i=some .newd∧∃k,(uQ p (rest Mf M)).1=.deep k 0 [])):=by
 cases p with
 |dead =>
  simp only[j6] at e
  split at e<;>try (cases e; done)
  rename_i id hb
  split at e<;>try (cases e; done)
  rename_i hl;cases e;exact⟨Ext.refl _,fun Mf _=>⟨rfl,.inl ⟨id,hb,by rw[hl]; rfl⟩⟩⟩
 |cells ps =>
  simp only[j6] at e
  split at e<;>try (cases e; done)
  rename_i id hb
  split at e<;>try (cases e; done)
  rename_i cs hl;obtain⟨e1,t1⟩:=pK e;exact⟨e1,fun Mf he=>⟨t1 Mf he,.inl ⟨id,hb,by rw[hl]; exact⟨_,rfl⟩⟩⟩⟩
 |rowc t =>
  simp only[j6] at e
  split at e<;>try (cases e; done)
  ·rename_i id hb
   split at e<;>try (cases e; done)
   rename_i t' g xs hl
   split at e<;>try (cases e; done)
   cases e;refine⟨BB _ _,fun Mf he=>?_⟩;have hd:=Ĺ he.cons;simp only[rest,uQ,hd];exact⟨by simp,.inl ⟨id,hb,by rw[hl]; rfl⟩⟩
  ·rename_i hb;cases e;refine⟨BB _ _,fun Mf he=>?_⟩;have hd:=Ĺ he.cons;simp only[rest,uQ,hd];exact⟨by simp,.inr (.inl ⟨hb,t,rfl⟩)⟩
 |rowf t g =>
  simp only[j6] at e
  split at e<;>try (cases e; done)
  rename_i id hb
  split at e<;>try (cases e; done)
  rename_i t' g' xs hl
  split at e<;>try (cases e; done)
  split at e<;>try (cases e; done)
  rename_i hg _;subst hg;cases e;refine⟨BB _ _,fun Mf he=>?_⟩;have hd:=Ĺ he.cons;simp only[rest,uQ,hd];exact⟨by simp,.inl ⟨id,hb,by rw[hl]; rfl⟩⟩
 |rowv t =>
  simp only[j6] at e
  split at e<;>try (cases e; done)
  ·rename_i id hb
   split at e<;>try (cases e; done)
   rename_i t' g xs hl
   split at e<;>try (cases e; done)
   cases e;refine⟨Je _ _,fun Mf he=>?_⟩;have hd:=Ĺ he.vars;simp only[rest,uQ,hd];exact⟨by simp,.inl ⟨id,hb,by rw[hl]; rfl⟩⟩
  ·rename_i hb;cases e;refine⟨Je _ _,fun Mf he=>?_⟩;have hd:=Ĺ he.vars;simp only[rest,uQ,hd];exact⟨by simp,.inr (.inl ⟨hb,t,rfl⟩)⟩
 |mapc k v =>
  simp only[j6] at e
  split at e<;>try (cases e; done)
  rename_i id hb
  split at e<;>try (cases e; done)
  rename_i k' v' es hl
  split at e<;>try (cases e; done)
  cases e;refine⟨BB _ _,fun Mf he=>?_⟩;have hd:=Ĺ he.cons;simp only[rest,uQ,hd];exact⟨by simp,.inl ⟨id,hb,by rw[hl]; rfl⟩⟩
 |mapv k v =>
  simp only[j6] at e
  split at e<;>try (cases e; done)
  rename_i id hb
  split at e<;>try (cases e; done)
  rename_i k' v' es hl
  split at e<;>try (cases e; done)
  cases e;refine⟨Je _ _,fun Mf he=>?_⟩;have hd:=Ĺ he.vars;simp only[rest,uQ,hd];exact⟨by simp,.inl ⟨id,hb,by rw[hl]; rfl⟩⟩
 |deepc k =>
  simp only[j6] at e
  split at e<;>try (cases e; done)
  ·rename_i id hb
   split at e<;>try (cases e; done)
   rename_i k' g xss hl
   split at e<;>try (cases e; done)
   cases e;refine⟨BB _ _,fun Mf he=>?_⟩;have hd:=Ĺ he.cons;simp only[rest,uQ,hd];exact⟨by simp,.inl ⟨id,hb,by rw[hl]; rfl⟩⟩
  ·rename_i hb;cases e;refine⟨BB _ _,fun Mf he=>?_⟩;have hd:=Ĺ he.cons;simp only[rest,uQ,hd];exact⟨by simp,.inr (.inr ⟨hb,k,rfl⟩)⟩
 |deepv k =>
  simp only[j6] at e
  split at e<;>try (cases e; done)
  ·rename_i id hb
   split at e<;>try (cases e; done)
   rename_i k' g xss hl
   split at e<;>try (cases e; done)
   cases e;refine⟨Je _ _,fun Mf he=>?_⟩;have hd:=Ĺ he.vars;simp only[rest,uQ,hd];exact⟨by simp,.inl ⟨id,hb,by rw[hl]; rfl⟩⟩
  ·rename_i hb;cases e;refine⟨Je _ _,fun Mf he=>?_⟩;have hd:=Ĺ he.vars;simp only[rest,uQ,hd];exact⟨by simp,.inr (.inr ⟨hb,k,rfl⟩)⟩
def alz (H:HR ν h w) {p:jb} {i id:Nat} {M M1:Mt} {cs:List AV} (e:j6 h p i M=some M1) (hb:jt M.bd i=some (.at_ id)) (hl:lkB h id=.cells cs) {Mf:Mt} (he:Ext M1 Mf) (F:Fin ν h w Mf h') {us:List Value} (hv:ĉ (VRc ν h w) cs us) :
 ∃cs',(uQ p (rest Mf M)).1=.cells cs'∧ĉ (VRc (νb Mf.bd ν) h' w) cs' us:=by
 cases p with
 |cells ps =>
  simp only[j6,hb,hl] at e;exact⟨_,rfl,F3 H e Mf he F hv⟩
 |dead=>simp[j6,hb,hl] at e
 |rowc t=>simp[j6,hb,hl] at e
 |rowf t g=>simp[j6,hb,hl] at e
 |rowv t=>simp[j6,hb,hl] at e
 |mapc k v=>simp[j6,hb,hl] at e
 |mapv k v=>simp[j6,hb,hl] at e
 |deepc k=>simp[j6,hb,hl] at e
 |deepv k=>simp[j6,hb,hl] at e
def Ll (p:jb) (ps:List jb) (I:It):E6 (p::ps) I=((uQ p I).1::(E6 ps (uQ p I).2).1,(E6 ps (uQ p I).2).2):=rfl
def M8:∀(ps:List jb) (I:It),(E6 ps I).1.length=ps.length
 |[],_=>rfl
 |p::ps,I=>by rw[Ll]; simp[M8 ps]
def Ea:∀{ps:List jb} {i:Nat} {M M1:Mt},WF h ps i M=some M1→Ext M M1∧∀Mf,Ext M1 Mf→∀k,k<ps.length →
 (∃id,jt Mf.bd (i+k)=some (.at_ id)∧kin (lkB h id) (lkB (E6 ps (rest Mf M)).1 k))∨(jt Mf.bd (i+k)=some .new∧∃t,lkB (E6 ps (rest Mf M)).1 k=.row t 0 false [])∨(jt Mf.bd (i+k)=some .newd∧∃q,lkB (E6 ps (rest Mf M)).1 k=.deep q 0 [])
 |[],i,M,M1,e=>by cases e; exact⟨Ext.refl _,fun Mf _ k hk=>by simp at hk⟩
 |p::ps,i,M,M1,e=>by
  simp only[WF] at e
  split at e<;>try (cases e; done)
  rename_i M2 h1;obtain⟨e1,t1⟩:=PU h1;obtain⟨e2,t2⟩:=Ea e;refine⟨e1.trans e2,fun Mf he k hk=>?_⟩;obtain⟨t3,t4⟩:=t1 Mf (e2.trans he);rw[Ll,t3]
  cases k with
  |zero =>
   rcases t4 with⟨id,q1,q2⟩|⟨q1,q2⟩|⟨q1,q2⟩
   ·exact .inl ⟨id,(e1.trans (e2.trans he)).bd _ _ q1,q2⟩
   ·exact .inr (.inl ⟨(e1.trans (e2.trans he)).new _ q1,q2⟩)
   ·exact .inr (.inr ⟨(e1.trans (e2.trans he)).newd _ q1,q2⟩)
  |succ k =>
   have:=t2 Mf he k (by simpa using hk);rw[show i+(k+1)=i+1+k by omega];exact this
def acA (H:HR ν h w):∀{ps:List jb} {i:Nat} {M M1:Mt},WF h ps i M=some M1→∀Mf,Ext M1 Mf→Fin ν h w Mf h'→∀k id cs us,k<ps.length→jt Mf.bd (i+k)=some (.at_ id)→lkB h id=.cells cs→ĉ (VRc ν h w) cs us →
 ∃cs',lkB (E6 ps (rest Mf M)).1 k=.cells cs'∧ĉ (VRc (νb Mf.bd ν) h' w) cs' us
 |[],i,M,M1,e,Mf,_,_,k,_,_,_,hk,_,_,_=>by simp at hk
 |p::ps,i,M,M1,e,Mf,he,F,k,id,cs,us,hk,hb,hl,hv=>by
  simp only[WF] at e
  split at e<;>try (cases e; done)
  rename_i M2 h1;obtain⟨e1,t1⟩:=PU h1;obtain⟨e2,t2⟩:=Ea e;obtain⟨t3,t4⟩:=t1 Mf (e2.trans he);rw[Ll,t3]
  cases k with
  |zero =>
   rcases t4 with⟨id',q1,q2⟩|⟨q1,q2⟩|⟨q1,q2⟩
   ·have:=(e1.trans (e2.trans he)).bd _ _ q1;have hb':jt Mf.bd i=some (.at_ id):=hb;rw[this] at hb';cases hb';exact alz H h1 q1 hl (e2.trans he) F hv
   ·have:=(e1.trans (e2.trans he)).new _ q1;have hb':jt Mf.bd i=some (.at_ id):=hb;rw[this] at hb';cases hb'
   ·have:=(e1.trans (e2.trans he)).newd _ q1;have hb':jt Mf.bd i=some (.at_ id):=hb;rw[this] at hb';cases hb'
  |succ k=>exact acA H e Mf he F k id cs us (by simpa using hk) (by rw[show i+1+k=i+(k+1) by omega]; exact hb) hl hv
def IL:∀{l:List Bd} {i id:Nat},jt l i=some (.at_ id)→id∈Ou l
 |[],_,_,h=>by cases h
 |x::l,0,id,h=>by
  simp only[jt,Option.some.injEq] at h;subst h; simp[Ou]
 |x::l,i+1,id,h=>by
  have:=IL (l:=l) (i:=i) (id:=id) h
  cases x<;>simp[Ou,this]
def Nc:∀{l:List Bd} {i j id:Nat},distinct (Ou l)=true→jt l i=some (.at_ id)→jt l j=some (.at_ id)→i=j
 |[],_,_,_,_,h,_=>by cases h
 |x::l,0,0,_,_,_,_=>rfl
 |x::l,0,j+1,id,hd,h1,h2=>by
  simp only[jt,Option.some.injEq] at h1;subst h1;simp only[Ou,distinct,cW] at hd;have:=IL (l:=l) (i:=j) (id:=id) h2;simp[this] at hd
 |x::l,i+1,0,id,hd,h1,h2=>by
  simp only[jt,Option.some.injEq] at h2;subst h2;simp only[Ou,distinct,cW] at hd;have:=IL (l:=l) (i:=i) (id:=id) h1;simp[this] at hd
 |x::l,i+1,j+1,id,hd,h1,h2=>by
  have hd':distinct (Ou l)=true:=by
   cases x<;>simp only[Ou,distinct,cW] at hd<;>first|exact hd|exact hd.2
  rw[Nc (l:=l) hd' h1 h2]
def ai3 {pin n i:Nat} (hi:i<pin) (hn:pin≤n):jt (DQ pin n) i=some (.at_ i):=by
 have key:∀(l:List Bd) (k:Nat),jt l k=l[k]?:=by
  intro l
  induction l with
  |nil=>intro k; simp[jt]
  |cons x l ih=>intro k; cases k with
   |zero=>rfl
   |succ k=>simpa[jt] using ih k
 rw[key,DQ,fU,fj (by omega)];simp[hi]
def Lp:∀{pin:Nat},al7 h pin=true→∀i,i<pin→(∀t g xs,lkB h i=.row t g false xs→g=0)∧∀k g xss,lkB h i=.deep k g xss→g=0
 |0,_,i,hi=>by omega
 |pin+1,hg,i,hi=>by
  have hrec:al7 h pin=true∧(∀t g xs,lkB h pin=.row t (g+1) false xs→False)∧∀k g xss,lkB h pin=.deep k (g+1) xss→False:=by
   simp only[al7] at hg
   split at hg<;>try (cases hg; done)
   rename_i hne1 hne2;exact⟨hg,fun t g xs e=>hne1 _ _ _ e,fun k g xss e=>hne2 _ _ _ e⟩
  rcases Nat.lt_succ_iff_lt_or_eq.1 hi with h1|rfl
  ·exact Lp hrec.1 i h1
  ·refine⟨fun t g xs hl=>?_,fun k g xss hl=>?_⟩
   ·cases g with
    |zero=>rfl
    |succ g=>exact(hrec.2.1 _ _ _ hl).elim
   ·cases g with
    |zero=>rfl
    |succ g=>exact(hrec.2.2 _ _ _ hl).elim
def SC:∀(l:List AV) (n k:Nat),lk (l++List.replicate n .any) k=lk l k
 |[],0,_=>rfl
 |[],n+1,0=>rfl
 |[],n+1,k+1=>by simpa[List.replicate_succ,lk] using SC [] n k
 |x::l,n,0=>rfl
 |x::l,n,k+1=>by simpa[lk] using SC l n k
def M7:∀(ps:List Pat) (I:It),(Lj ps I).1.length=ps.length
 |[],_=>rfl
 |p::ps,I=>by rw[uP]; simp[M7 ps]
def F1:anM:=by
 intro T pin cs vs S p v ν a w e H;unfold F2 at e
 split at e<;>try (cases e; done)
 rename_i hc;simp only[cW,decide_eq_true_eq] at hc;obtain⟨c1,c2,c3,c4⟩:=hc
 split at e<;>try (cases e; done)
 rename_i M0 hL
 split at e<;>try (cases e; done)
 rename_i M hH
 split at e<;>try (cases e; done)
 rename_i hd;simp only[cW,dL] at hd;obtain⟨d1,d2⟩:=hd
 split at e<;>try (cases e; done)
 rename_i p' v' hp hv;cases e;have ep:afB cs p=M.cons:=aho cs _ _ hp;have ev:afB vs v=M.vars:=aho vs _ _ hv;obtain⟨eL,tL⟩:=D9 hL;obtain⟨eH,tH⟩:=Ea hH
 -- the state of the pattern
 have hI0:({cons:=afB cs p,vars:=afB vs v}:It)=rest M {bd:=DQ pin T.heap.length,cons:=[],vars:=[],freed:=[]}:=by
  simp[rest,ep,ev]
 have hinst:jj T cs vs p v={t:=(Lj T.slots (rest M {bd:=DQ pin T.heap.length,cons:=[],vars:=[],freed:=[]})).1++List.replicate (T.n-T.slots.length) .any,h:=(E6 T.heap (rest M M0)).1}:=by
  unfold jj;rw[hI0];have:=tL M eH;show(St.mk _ _)=_;rw[show(Lj T.slots (rest M {bd:=DQ pin T.heap.length,cons:=[],vars:=[],freed:=[]})).2=rest M M0 from this]
 rw[hinst]
 have hblen:M.bd.length=T.heap.length:=by rw[eH.len,eL.len]; simp[DQ]
 have hhlen:(E6 T.heap (rest M M0)).1.length=T.heap.length:=M8 _ _
 have F:Fin ν S.h w M (E6 T.heap (rest M M0)).1:=by
  refine⟨fun i id hb=>?_,fun i hb=>?_,fun i hb=>?_,fun i h1 h2 h3=>?_,fun id hid i hb=>?_,fun i j id=>Nc d1⟩
  ·have hi:i<T.heap.length:=by rw[←hblen]; exact Aj hb
   rcases tH M (Ext.refl _) i hi with⟨id',q1,q2⟩|⟨q1,_⟩|⟨q1,_⟩
   ·rw[dl,hb] at q1; cases q1; exact q2
   ·rw[dl,hb] at q1; cases q1
   ·rw[dl,hb] at q1; cases q1
  ·have hi:i<T.heap.length:=by rw[←hblen]; exact Aj hb
   rcases tH M (Ext.refl _) i hi with⟨id',q1,q2⟩|⟨q1,q2⟩|⟨q1,q2⟩
   ·rw[dl,hb] at q1; cases q1
   ·exact q2
   ·rw[dl,hb] at q1; cases q1
  ·have hi:i<T.heap.length:=by rw[←hblen]; exact Aj hb
   rcases tH M (Ext.refl _) i hi with⟨id',q1,q2⟩|⟨q1,q2⟩|⟨q1,q2⟩
   ·rw[dl,hb] at q1; cases q1
   ·rw[dl,hb] at q1; cases q1
   ·exact q2
  ·rcases dz i T.heap.length with hi|hi
   ·rcases tH M (Ext.refl _) i hi with⟨id',q1,q2⟩|⟨q1,q2⟩|⟨q1,q2⟩
    ·rw[dl] at q1; exact absurd q1 (h1 id')
    ·rw[dl] at q1; exact absurd q1 h2
    ·rw[dl] at q1; exact absurd q1 h3
   ·exact W7 _ _ (by rw[hhlen]; exact hi)
  ·have:=d2 id hid;have hm:=IL hb;simp[hm] at this
 have hHR:HR (νb M.bd ν) (E6 T.heap (rest M M0)).1 w:=by
  refine⟨fun i=>?_,fun i j b hi hj hbi hbj=>?_,H.heap.ghlt,fun i b hl hb hg=>?_⟩
  rotate_left 2
  ·obtain⟨id,q1,q2⟩:=F.subL b ⟨i,hl,hb⟩;exact H.heap.ghne id b q1 q2 hg
  ·cases hb:jt M.bd i with
   |none=>rw[F.out i (by simp[hb]) (by simp[hb]) (by simp[hb])]; trivial
   |some x =>
    cases x with
    |open_=>rw[F.out i (by simp[hb]) (by simp[hb]) (by simp[hb])]; trivial
    |newd =>
     obtain⟨k,hk⟩:=F.newd i hb;rw[hk];exact⟨none,0,[],ahb hb,cR _,gI _ _,.inl ⟨rfl,rfl⟩,trivial⟩
    |new =>
     obtain⟨t,ht⟩:=F.new i hb;rw[ht];exact⟨none,0,akB hb,cR _,.inl ⟨rfl,rfl⟩⟩
    |at_ id =>
     have hk:=F.at_ i id hb;have hB:=H.heap.blk id
     cases hl:lkB S.h id with
     |dead=>rw[hl] at hk; rw[show lkB _ i=_ from hk]; trivial
     |cells c =>
      rw[hl] at hB;obtain⟨b,arr,e',q1,q2,q3⟩:=hB
      have hi:i<T.heap.length:=by rw[←hblen]; exact Aj hb
      obtain⟨cs',q4,q5⟩:=acA H.heap hH M (Ext.refl _) F i id c arr.toList hi (by rw[dl]; exact hb) hl q3;rw[q4];exact⟨b,arr,e',(pE hb).trans q1,q2,q5⟩
     |row t g fz xs =>
      rw[hl] at hk hB
      cases fz with
      |true =>
       rw[show lkB _ i=_ from hk];show CR w _ (.slice t) xs [_];rw[pE hb];exact CR.mono F.sub hB
      |false =>
       rw[show lkB _ i=_ from hk];obtain⟨base,cap,q1,q2,q3⟩:=hB;refine⟨base,cap,(pE hb).trans q1,q2,?_⟩;rcases q3 with q3|⟨b,off,c,e',q4,q5,q6,q7⟩
       ·exact .inl q3
       ·refine .inr ⟨b,off,c,e',q4,q5,q6,fun j x hx=>?_⟩;obtain⟨us,q8,q9⟩:=q7 j x hx;exact⟨us,CR.mono F.sub q8,q9⟩
     |map k u es =>
      rw[hl] at hk hB;rw[show lkB _ i=_ from hk];obtain⟨b,entries,clock,q1,q2,q3,q4⟩:=hB;refine⟨b,entries,clock,(pE hb).trans q1,q2,q3,fun j x hx=>?_⟩;obtain⟨m,us,q5,q6,q7,q8⟩:=q4 j x hx;exact⟨m,us,q5,CR.mono F.sub q6,CR.mono F.sub q7,q8⟩
     |deep k g xss =>
      rw[hl] at hk hB;rw[show lkB _ i=_ from hk];obtain⟨base,cap,us,q1,q2⟩:=hB;exact⟨base,cap,us,(pE hb).trans q1,q2⟩
  ·have at1:∀i,(lkB (E6 T.heap (rest M M0)).1 i).live=true→η (νb M.bd ν i) b→∃id,jt M.bd i=some (.at_ id)∧(lkB S.h id).live=true∧η (ν id) b:=fun i hi hbi=>by
    cases hb:jt M.bd i with
    |none=>rw[F.out i (by simp[hb]) (by simp[hb]) (by simp[hb])] at hi; cases hi
    |some x =>
     cases x with
     |open_=>rw[F.out i (by simp[hb]) (by simp[hb]) (by simp[hb])] at hi; cases hi
     |new=>simp only[νb,hb] at hbi; cases hbi
     |newd =>
      simp only[νb,hb] at hbi;obtain⟨u,hu,hbi⟩:=hbi;simp at hu;subst hu;cases hbi
     |at_ id =>
      refine⟨id,rfl,?_,by simpa[νb,hb] using hbi⟩;have hk:=F.at_ i id hb
      cases hB':lkB S.h id with
      |dead=>rw[hB'] at hk; rw[show lkB _ i=_ from hk] at hi; cases hi
      |cells=>rfl
      |map=>rfl
      |deep=>rfl
      |row t g fz xs =>
       cases fz with
       |false=>rfl
       |true=>rw[hB'] at hk; rw[show lkB _ i=_ from hk] at hi; cases hi
   obtain⟨id,q1,q2,q3⟩:=at1 i hi hbi;obtain⟨id',q4,q5,q6⟩:=at1 j hj hbj;have:=H.heap.inj id id' b q2 q5 q3 q6;subst this;exact F.inj i j id q1 q4
 have hpin:∀i,i<pin→jt M.bd i=some (.at_ i):=fun i hi=>(eL.trans eH).bd i i (ai3 hi c1);refine⟨νb M.bd ν,⟨H.defers,?_,fun i=>?_,hHR⟩,⟨rfl,rfl,rfl,cR _,fun b _ hb=>⟨rfl,fun hb'=>hb (F.subL b hb')⟩,fun i hi=>?_⟩,by rw[hhlen]; exact c1,fun i hi hdead=>?_⟩
 ·have:=H.len;simp only[cX,fR,M7];omega
 ·simp only[SC];exact acz H.heap hL M eH F (fun k=>a.tmps.getD k undef) (fun k=>H.tmps k) i
 ·have hb:=hpin i hi;have hk:=F.at_ i i hb
  cases hl:lkB S.h i with
  |dead=>trivial
  |cells c=>rw[hl] at hk; exact⟨hk,pE hb⟩
  |row t g fz xs =>
   rw[hl] at hk
   cases fz with
   |true=>exact⟨g,true,xs,hk,cR _,fun _=>⟨pE hb,rfl⟩⟩
   |false =>
    have hg:=(Lp c4 i hi).1 t g xs hl;exact⟨0,false,xs,hk,by omega,fun _=>⟨pE hb,rfl⟩⟩
  |map k u es=>rw[hl] at hk; exact⟨⟨es,hk⟩,pE hb⟩
  |deep k g xss =>
   rw[hl] at hk;have hg:=(Lp c4 i hi).2 k g xss hl;exact⟨0,xss,hk,by omega,fun _=>⟨pE hb,rfl⟩⟩
 ·have hk:=F.at_ i i (hpin i hi);rw[hdead] at hk;exact hk
end
end Go.Am
end

noncomputable section
namespace Go.Am
variable [ô]
section
variable {ρ:Type} {ν ν':Nat→Value} {h h':List Blk} {w w':World} {P:Program}
def kZ (w:World) (G:Nat→Prop) (t:Ty) (x:Val t) (v:Value):Prop:=∃us,CR w G t x us∧v=yb t us
def AT (w:World) (G:Nat→Prop):(l:List Ty)→(t:Ty)→Val (tys t l)→List Value→Prop
 |[],t,x,vs=>∃v,vs=[v]∧kZ w G t x v
 |u::l,t,x,vs=>∃v vs',vs=v::vs'∧kZ w G t (x:Val t×Val (tys u l)).1 v∧AT w G l u (x:Val t×Val (tys u l)).2 vs'
def AL (w:World) (G:Nat→Prop):(l:List Ty)→Val (tyL l)→List Value→Prop
 |[],_,vs=>vs=[]
 |t::l,x,vs=>AT w G l t x vs
def RR (w:World) (G:Nat→Prop):(l:List Ty)→Val (tyL l)→Value→Prop
 |[],_,u=>u=.tuple #[]
 |[t],x,u=>kZ w G t x u
 |t::u'::l,x,u=>∃vs,u=.tuple vs∧AT w G (u'::l) t x vs.toList
def Î (P:Program) (f:Nat) (p:Ö):Prop :=
 ∀(G:Nat→Prop) (x:Val (tyL p.ts)) (y:Val (tyL p.rs)),p.F x=some y→∀(w:World) (vals:List Value),(∀b,G b→b<w.heap.size)→AL w G p.ts x vals →
  (∃fn c,P.funcs[f]?=some fn∧fn.body=some c) ∧
  CallsIn Fence.wide 0 P f vals.toArray w fun e w'=>∃u,e=.returned u∧RR w' G p.rs y u∧(∀b,b<w.heap.size→w'.heap[b]?=w.heap[b]?)∧w.heap.size≤w'.heap.size∧w'.os=w.os∧w'.tape=w.tape∧w'.output=w.output
def aaH {a:AV} {vs:List AV} (e:Ŝ a=some vs):lY a=vs:=by
 cases a<;>simp only[Ŝ,Option.some.injEq,reduceCtorEq] at e<;>exact e
def AO {G:Nat→Prop} {t:Ty} {x:Val t} {a:AV} {v:Value} {vs:List AV} (hag:(Xf a==t.isAgg)=true) (hc:Ŝ a=some vs) (hv:VR ν h w a v)
 (hs:∀c∈lY a,∀u,VR1 ν h w c u→VRs w G (Ă h c) u) (e:æ t (vs.map (Ă h))=some x):kZ w G t x v:=by
 have h1:=hv.cells hc;have h2:ĉ (VRs w G) (vs.map (Ă h)) v.cells.toList:=ĉ.map_left (aux vs _ h1 fun c hm u hu=>hs c (by rw[aaH hc]; exact hm) u hu.1);refine⟨_,Ū e h2,?_⟩
 cases ha:a.isAgg with
 |true =>
  cases a<;>try cases ha
  obtain⟨us,rfl,_⟩:=hv
  have:t.isAgg=true:=by simpa[Xf] using hag
  simp[yb,this,Value.cells]
 |false =>
  have hn:Xf a=false:=by cases a<;>first|rfl|cases ha
  have htf:t.isAgg=false:=by rw[hn] at hag; simpa using hag
  have htu:a.isTup=false:=by cases a<;>first|rfl|cases hc
  have h3:=(hv.one ha htu).oneCell hc;simp[yb,htf,AH h3]
where
 aux {w:World} {G:Nat→Prop} {ν:Nat→Value} {h:List Blk} (vs:List AV) (us:List Value) (h1:ĉ (VRc ν h w) vs us) (hh:∀c∈vs,∀u,VRc ν h w c u→VRs w G (Ă h c) u):ĉ (fun c b=>VRs w G (Ă h c) b) vs us:=by
  induction vs generalizing us with
  |nil=>cases us with
   |nil=>trivial
   |cons=>exact h1.elim
  |cons c vs ih=>cases us with
   |nil=>exact h1.elim
   |cons u us=>exact⟨hh c (by simp) u h1.1,ih us h1.2 fun c hm u hu=>hh c (by simp[hm]) u hu⟩
def akK (H:HR ν h w) {G:Nat→Prop} {id g:Nat} {k:IntKind} {xss:List (List Int)} (hl:lkB h id=.deep k g xss) {v:Value} (hv:∃us,ν id=.agg (v::us).toArray) (hG:∀b,η (ν id) b→¬G b) :
 CR w G (.slice (.slice (.int k))) xss [v]:=by
 obtain⟨us,hν⟩:=hv;obtain⟨base,cap,us',h1,h2,_,h3,h4⟩:=H.table hl;have h1':=h1;rw[hν] at h1;have q:=mW h1
 injection q with q1 q2
 subst q1 q2;have own:∀u∈Value.slice base xss.length cap::us,∀b,lZ u=some b→¬G b:=fun u hu b hb=>hG b (by rw[h1']; exact⟨u,by simpa using hu,hb⟩);refine⟨base,cap,rfl,h2,?_⟩;rcases h3 with⟨rfl,rfl⟩|⟨b,off,c,e,rfl,h5,h6,h7⟩
 ·exact .inl (dt.1 (by omega))
 ·refine .inr ⟨b,off,rfl,own _ (.head _) b rfl,ę h5,fun i xs hx=>?_⟩;obtain⟨u,hu,hr⟩:=h4.get hx;refine⟨[u],?_,fun j y hj=>?_⟩
  ·obtain⟨base2,cap2,rfl,h8,h9⟩:=hr;refine⟨base2,cap2,rfl,h8,?_⟩;rcases h9 with⟨rfl,rfl⟩|⟨b2,off2,c2,e2,rfl,h10,h11,h12⟩
   ·exact .inl (dt.1 (by omega))
   ·refine .inr ⟨b2,off2,rfl,own _ (.tail _ (cZ hu)) b2 rfl,ę h10,fun m x hm=>⟨[.int k x],rfl,fun j y hj=>?_⟩⟩
    cases j with
    |zero =>
     simp at hj;subst hj;simp only[World.cell?,h10];have:=h12 m x hm;simpa[Ty.size] using this
    |succ j=>simp at hj
  ·cases j with
   |zero =>
    simp at hj;subst hj;simp only[World.cell?,h5];have:=h7 i _ hu;simpa[Ty.size] using this
   |succ j=>simp at hj
def aaZ (H:HR ν h w) {G:Nat→Prop} {t:Ty} {x:Val t} {a:AV} {v:Value} (hv:VR ν h w a v)
 (hs:∀c∈lY a,∀u,VR1 ν h w c u→VRs w G (Ă h c) u) (hb:∀id cs,a=.box id 0→lkB h id=.cells cs→(∀b,η (ν id) b→¬G b)∧∀c∈cs,∀u,VR1 ν h w c u→VRs w G (Ă h c) u) (hd:∀id g,a=.dp id g→(lkB h id).live=true→∀b,η (ν id) b→¬G b) (e:anX h t a=some x):kZ w G t x v:=by
 cases ht:(match t with|.ptr _=>true|_=>false) with
 |false =>
  by_cases hdp:∃id g,a=.dp id g
  ·obtain⟨id,g,rfl⟩:=hdp
   have e':(match lkB h id with
    |.deep k g' xss=>match g==g' with
     |true=>match decEq (Ty.slice (.slice (.int k))) t with
      |isTrue e=>some (Ox (F:=Val) e xss)
      |isFalse _=>none
     |false=>none
    |_=>none)=some x:=by
    cases t<;>first|exact e|cases ht
   split at e'<;>try (cases e'; done)
   rename_i k g' xss hl
   split at e'<;>try (cases e'; done)
   rename_i hg
   split at e'<;>try (cases e'; done)
   rename_i hty _;subst hty;cases e';obtain⟨ho,k2,g2,xss2,hl2,_,hq⟩:=hv;rw[hl] at hl2; cases hl2;have hcr:=akK H hl (hq (by simpa using hg)) (hd id g rfl (by rw[hl]; rfl));exact⟨[v],hcr,rfl⟩
  have e':(match Xf a==t.isAgg with|true=>(match Ŝ (ahv h a) with|some cs=>æ t cs|none=>none)|false=>none)=some x:=by
   have hn:∀id g,a≠.dp id g:=fun id g q=>hdp ⟨id,g,q⟩
   cases t<;>first|(cases ht; done)|(cases a<;>first|exact e|exact absurd rfl (hn _ _))
  split at e'<;>try (cases e'; done)
  rename_i hag
  split at e'<;>try (cases e'; done)
  rename_i cs hcs;obtain⟨vs,h1,rfl⟩:=JJ hcs;exact AO hag h1 hv hs e'
 |true =>
  cases t<;>try cases ht
  rename_i u;simp only[anX] at e
  split at e<;>try (cases e; done)
  ·rename_i id
   split at e<;>try (cases e; done)
   rename_i cs hl;obtain⟨cs',b,h1,h2,h3⟩:=hv.one rfl rfl;have hB:=H.blk id;rw[hl] at hB;obtain⟨b',c,e',h4,h5,h6⟩:=hB;rw[h2] at h4; cases h4;obtain⟨hG,hcs⟩:=hb id cs rfl hl;have hcr:CR w G u x c.toList:=Ū e (ĉ.map_left (AO.aux cs _ h6 fun c hc u hu=>hcs c hc u hu.1));refine⟨[v],⟨b,0,c.toList,by rw[h3],hG b (by rw[h2]; rfl),ę h5,hcr,Ő.of_cells h5⟩,rfl⟩
  ·rename_i t' y
   split at e<;>try (cases e; done)
   rename_i heq _;subst heq;cases e;have h1:=hs _ (by simp[lY]) v (hv.one rfl rfl);obtain⟨b,o,us,h2,h3,h4,h5,h6⟩:=h1;exact⟨[v],⟨b,o,us,by rw[h2]; rfl,h3,h4,h5,h6⟩,rfl⟩
def TO (H:HR ν h w) {G:Nat→Prop}:∀(l:List Ty) (t:Ty) (x:Val (tys t l)) (as:List AV) (vs:List Value),ĉ (VR ν h w) as vs →
 (∀a∈as,∀c∈lY a,∀u,VR1 ν h w c u→VRs w G (Ă h c) u)→(∀a∈as,∀id cs,a=.box id 0→lkB h id=.cells cs→(∀b,η (ν id) b→¬G b)∧∀c∈cs,∀u,VR1 ν h w c u→VRs w G (Ă h c) u)→(∀a∈as,∀id g,a=.dp id g→(lkB h id).live=true→∀b,η (ν id) b→¬G b)→aaY h l t as=some x→AT w G l t x vs
 |[],t,x,[],vs,_,_,_,_,e=>by cases e
 |[],t,x,[a],vs,hv,hs,hb,hd,e=>by
  obtain⟨v,rfl,h1⟩:=hv.one;exact⟨v,rfl,aaZ H h1 (hs a (by simp)) (hb a (by simp)) (hd a (by simp)) e⟩
 |[],t,x,_::_::_,vs,_,_,_,_,e=>by cases e
 |u::l,t,x,[],vs,_,_,_,_,e=>by cases e
 |u::l,t,x,a::as,[],hv,_,_,_,e=>hv.elim
 |u::l,t,x,a::as,v::vs,hv,hs,hb,hd,e=>by
  simp only[aaY] at e
  split at e<;>try (cases e; done)
  rename_i y hy
  split at e<;>try (cases e; done)
  rename_i z hz;cases e;exact⟨v,vs,rfl,aaZ H hv.1 (hs a (by simp)) (hb a (by simp)) (hd a (by simp)) hy,TO H l u z as vs hv.2 (fun a ha=>hs a (by simp[ha])) (fun a ha=>hb a (by simp[ha])) (fun a ha=>hd a (by simp[ha])) hz⟩
def TP (H:HR ν h w) {G:Nat→Prop} {l:List Ty} {x:Val (tyL l)} {as:List AV} {vs:List Value} (hv:ĉ (VR ν h w) as vs)
 (hs:∀a∈as,∀c∈lY a,∀u,VR1 ν h w c u→VRs w G (Ă h c) u) (hb:∀a∈as,∀id cs,a=.box id 0→lkB h id=.cells cs→(∀b,η (ν id) b→¬G b)∧∀c∈cs,∀u,VR1 ν h w c u→VRs w G (Ă h c) u) (hd:∀a∈as,∀id g,a=.dp id g→(lkB h id).live=true→∀b,η (ν id) b→¬G b) (e:Ju h l as=some x):AL w G l x vs:=by
 cases l with
 |nil=>cases as with
  |nil=>exact hv.nil_left
  |cons=>cases e
 |cons t l=>exact TO H l t x as vs hv hs hb hd e
def kZ.mono {G G':Nat→Prop} (hm:∀b,G' b→G b) {t:Ty} {x:Val t} {v:Value} (hv:kZ w G t x v):kZ w G' t x v:=by
 obtain⟨us,h1,h2⟩:=hv;exact⟨us,CR.mono hm h1,h2⟩
def Lr {av av':Nat→Prop}:∀{t:Ty} {x:Val t} {us:List Value},(flat t x).all Ca=true→CR w av t x us→CR w av' t x us
 |.unit,_,_,_,hc=>hc
 |.bool,_,_,_,hc=>hc
 |.int _,_,_,_,hc=>hc
 |.str,_,_,_,hc=>hc
 |.slice _,_,_,hp,_=>by simp[flat,Ca] at hp
 |.map _ _,_,_,hp,_=>by simp[flat,Ca] at hp
 |.ptr _,_,_,hp,_=>by simp[flat,Ca] at hp
 |.pair a b,x,us,hp,hc=>by
  simp only[flat,List.all_append,cW] at hp;obtain⟨u1,u2,e,h1,h2⟩:=hc;exact⟨u1,u2,e,Lr hp.1 h1,Lr hp.2 h2⟩
def amm {t:Ty} {x:Val t} (hp:plain (enc t x)=true):(flat t x).all Ca=true:=by
 cases t<;>first|exact hp|(simp only[enc,plain,Ca] at hp; simp[flat,Ca])|(simp[enc,plain,Ca] at hp)
def kZ.plain {G G':Nat→Prop} {t:Ty} {x:Val t} {v:Value} (hp:plain (enc t x)=true) (hv:kZ w G t x v):kZ w G' t x v:=by
 obtain⟨us,h1,h2⟩:=hv;exact⟨us,Lr (amm hp) h1,h2⟩
def AT.plain {G G':Nat→Prop}:∀{l:List Ty} {t:Ty} {x:Val (tys t l)} {vs:List Value},(amn l t x).all Go.Am.plain=true→AT w G l t x vs→AT w G' l t x vs
 |[],t,x,vs,hp,⟨v,h1,h2⟩=>⟨v,h1,h2.plain (by simpa[amn] using hp)⟩
 |u::l,t,x,vs,hp,⟨v,vs',h1,h2,h3⟩=>by
  simp only[amn,fT,cW] at hp;exact⟨v,vs',h1,h2.plain hp.1,AT.plain hp.2 h3⟩
def abN {v:AV} (hp:v.isTup=false):PA v=Go.Am.plain v:=by cases v<;>first|rfl|cases hp
def Lw {t:Ty} {x:Val t}:(enc t x).isTup=false:=by cases t<;>rfl
def RR.plain {G G':Nat→Prop}:∀{l:List Ty} {x:Val (tyL l)} {u:Value},PA (ae7 l x)=true→RR w G l x u→RR w G' l x u
 |[],_,_,_,h=>h
 |[t],x,u,hp,h=>kZ.plain ((abN (Lw (t:=t) (x:=x))).symm.trans hp) h
 |t::u'::l,x,u,hp,⟨vs,h1,h2⟩=>⟨vs,h1,h2.plain hp⟩
def kZ.VR {t:Ty} {x:Val t} {v:Value} (hv:kZ w (Av ν h) t x v):VR ν h w (enc t x) v:=by
 obtain⟨us,h1,rfl⟩:=hv;exact Nb h1
def AT.VR:∀{l:List Ty} {t:Ty} {x:Val (tys t l)} {vs:List Value},AT w (Av ν h) l t x vs→ĉ (VR ν h w) (amn l t x) vs
 |[],t,x,_,⟨v,rfl,h2⟩=>⟨h2.VR,trivial⟩
 |u::l,t,x,_,⟨v,vs',rfl,h2,h3⟩=>⟨h2.VR,AT.VR h3⟩
def Th:∀{l:List Ty} {t:Ty} {x:Val (tys t l)},∀a∈amn l t x,a.isTup=false
 |[],t,x,a,hm=>by simp only[amn,dh] at hm; rw[hm]; exact Lw
 |u::l,t,x,a,hm=>by
  simp only[amn,df] at hm;rcases hm with rfl|hm
  ·exact Lw
  ·exact Th a hm
def ĉ.VR2:∀{as:List AV} {vs:List Value},ĉ (VR ν h w) as vs→(∀a∈as,a.isTup=false)→ĉ (VR2 ν h w) as vs
 |[],[],_,_=>trivial
 |a::as,v::vs,hv,hn=>⟨by rw[←LN (hn a (by simp))]; exact hv.1,ĉ.VR2 hv.2 fun a ha=>hn a (by simp[ha])⟩
 |[],_::_,hv,_=>hv.elim
 |_::_,[],hv,_=>hv.elim
def RR.VR:∀{l:List Ty} {x:Val (tyL l)} {u:Value},RR w (Av ν h) l x u→VR ν h w (ae7 l x) u
 |[],_,_,h=>by cases h; exact⟨#[],rfl,trivial⟩
 |[t],x,u,h=>kZ.VR h
 |t::u'::l,x,u,⟨vs,h1,h2⟩=>⟨vs,h1,ĉ.VR2 h2.VR Th⟩
def Nl (P:Program) (g:Nat) (ν:Nat→Value) (h:List Blk) (w:World) (vals:List Value) (K:AV→List Blk→Option ρ) (r:ρ):Prop :=
 (∃fn c,P.funcs[g]?=some fn∧fn.body=some c) ∧
 CallsIn Fence.wide 0 P g vals.toArray w fun e w'=>∃ν' h' v u,e=.returned u∧VR ν' h' w' v u∧HR ν' h' w'∧Ev h.length ν h w ν' h' w'∧h.length≤h'.length∧(∀j,j<h.length→lkB h j=.dead→lkB h' j=.dead)∧K v h'=some r
def aig {c:AV} {u:Value}:∀{as:List AV} {h:List Blk},HR ν h w→c∈as→WA c=true→VR1 ν h w c u→VRs w (Av ν (Bk h as)) (Ă h c) u
 |[],_,_,hm,_,_=>by cases hm
 |a::as,h,H,hm,hn,hv=>by
  obtain⟨e1,H1,l1⟩:=aas H a;rcases df.1 hm with rfl|hm
  ·exact VRs.mono ((E8 as H1).2.2) (aei H hv hn)
  ·have:=aig (as:=as) H1 hm hn (hv.ev e1)
   rwa [JK] at this
def ajd {f:Nat} {p:Ö} (hp:Î P f p) {b:Bool} {args:List AV} {K:AV→List Blk→Option ρ} {r:ρ} (e:XY b p h args K=some r) (H:HR ν h w) {vals:List Value} (hv:ĉ (VR ν h w) args vals):Nl P f ν h w vals K r:=by
 unfold XY at e
 split at e<;>try (cases e; done)
 rename_i x hx;simp only[Ã] at e
 split at e<;>try (cases e; done)
 rename_i y hy
 -- the call, with what may not be touched
 have call:∀(G:Nat→Prop),(∀b,G b→b<w.heap.size)→AL w G p.ts x vals→∀(h':List Blk),HR ν h' w→Ev h.length ν h w ν h' w→h.length≤h'.length→(∀j,j<h.length→lkB h j=.dead→lkB h' j=.dead) →
  (∀w' u,RR w' G p.rs y u→RR w' (Av ν h') p.rs y u)→K (ae7 p.rs y) h'=some r→Nl P f ν h w vals K r:=by
  intro G hG hal h' H' ev hl hdead hrr hK;obtain⟨h1,h2⟩:=hp G x y hy w vals hG hal;refine⟨h1,h2.mono fun e w' hw=>?_⟩;obtain⟨u,rfl,g1,g2,g3,g4,g5,g6⟩:=hw;obtain⟨ev',H''⟩:=H'.grow g2 g3 g4 g5 g6 h.length;exact⟨ν,h',_,u,rfl,(hrr w' u g1).VR,H'',ev.trans ev' (cR _),hl,hdead,hK⟩
 split at e
 ·rename_i hpl;exact call (fun _=>False) (fun _ hf=>hf.elim) (TP H hv (fun a _ c _ u hu=>aby H hu) (fun _ _ _ _ _ _=>⟨fun _ _ hf=>hf,fun c _ u hu=>aby H hu⟩) (fun _ _ _ _ _ _ _ _ hf=>hf) hx) h H (Ev.refl _ _ _ _) (cR _) (fun _ _ hd=>hd) (fun w' u hr=>hr.plain hpl) e
 ·split at e
  ·rename_i hown
   have hown':∀a∈args,vq a=false:=fun a ha=>by have:=dL.1 hown a ha; simpa using this
   refine call (Av ν h) (fun b hb=>H.ltA hb) (TP H hv (fun a ha c hc u hu=>?_) (fun a ha id cs hid _=>?_) (fun a ha id g hid=>?_) hx) h H (Ev.refl _ _ _ _) (cR _) (fun _ _ hd=>hd) (fun w' u hr=>hr) e
   ·have hc1:aa3 c=false:=by
     have:=hown' a ha
     cases a<;>first
      |(simp only[lY,dh] at hc; subst hc; exact this)
      |(simp only[lY] at hc; simp only[vq,ew] at this; simpa using this c hc)
    have:Ă h c=c:=by cases c<;>first|rfl|cases hc1
    rw[this]; exact hu.data
   ·subst hid; cases hown' _ ha
   ·subst hid; cases hown' _ ha
  ·split at e<;>try (cases e; done)
   rename_i hnr;simp only[gn,fC] at hnr;have hnr':∀a∈args,alr a=true:=dL.1 hnr.2;obtain⟨ev,H',hsub⟩:=E8 (args.flatMap lY) H;refine call (Av ν (Bk h (args.flatMap lY))) (fun b hb=>H'.ltA hb) (TP H hv (fun a ha c hc u hu=>?_) (fun a ha id cs hid _=>?_) (fun a ha id g hid=>?_) hx) _ H' ev (by rw[ξ]; exact cR _) (fun _ _ hd=>SQ _ hd) (fun w' u hr=>hr) e
   ·refine aig H (dv.2 ⟨a,ha,hc⟩) ?_ hu;have:=hnr' a ha
    have hc1:alq c=true:=by
     cases a<;>first
      |(simp only[lY,dh] at hc; subst hc; exact this)
      |(simp only[lY] at hc; simp only[alr,dL] at this; exact this c hc)
    cases c<;>first|rfl|cases hc1
   ·subst hid; cases hnr' _ ha
   ·subst hid; cases hnr' _ ha
end
end Go.Am
end

noncomputable section
namespace Go.Am
variable [ô]
section
variable {ρ:Type} {ν ν':Nat→Value} {h h':List Blk} {w w':World} {P:Program}
def Wz {v v':AV} (e:aoC v=some v'):v'=v∧v.isTup=false:=by
 cases v<;>simp only[aoC,Option.some.injEq,reduceCtorEq] at e<;>exact⟨e.symm,rfl⟩
def aja {S:St} {a:Act} (H:Sim ν S a w) {rv:ResultVar} {v:AV} (e:afr P S.h S.t rv=some v) :
 ∃u,(match rv with|.tmp t=>(pure (a.tmps.getD t undef):Sem Value)|.cell x t=>do loadVar t (←asAddr (a.tmps.getD x undef))).run P w=.ok u w∧VR2 ν S.h w v u:=by
 cases rv with
 |tmp i =>
  obtain⟨rfl,ht⟩:=Wz e;have:=H.tmps i;rw[LN ht] at this;exact⟨_,rfl,this⟩
 |cell x t =>
  simp only[afr] at e
  split at e<;>try (cases e; done)
  rename_i v' hl;obtain⟨rfl,ht⟩:=Wz e;obtain⟨u,h1,h2⟩:=alQ H.heap hl (H.tmps x);rw[LN ht] at h2;refine⟨u,?_,h2⟩;simp only[Instr.loadAt] at h1
  cases hx:a.tmps.getD x undef with
  |pointer p =>
   rw[hx] at h1
   cases p with
   |none=>simp[Instr.sureAddr] at h1
   |some ad =>
    show(do loadVar t (←asAddr (a.tmps.getD x undef)):Sem Value).run P w=_;rw[hx];simpa[Instr.sureAddr,asAddr] using h1
  |_=>rw[hx] at h1; simp[Instr.sureAddr] at h1
def V8 {S:St} {a:Act} (H:Sim ν S a w):∀{rs:List ResultVar} {vs:List AV},Py P S.h S.t rs=some vs →
 ∃us:List Value,(rs.mapM (m:=Sem) fun|.tmp t=>pure (a.tmps.getD t undef)|.cell x t=>do loadVar t (←asAddr (a.tmps.getD x undef))).run P w=.ok us w∧ĉ (VR2 ν S.h w) vs us
 |[],vs,e=>by cases e; exact⟨[],rfl,trivial⟩
 |rv::rs,vs,e=>by
  simp only[Py] at e
  split at e<;>try (cases e; done)
  rename_i v hv
  split at e<;>try (cases e; done)
  rename_i vs' hvs;cases e;obtain⟨u,h1,h2⟩:=aja H hv;obtain⟨us,h3,h4⟩:=V8 H hvs;refine⟨u::us,?_,h2,h4⟩;simp only[List.mapM_cons,Sem.run_bind,Sem.run_pure];rw[h1];simp only[Result.andThen_ok];rw[h3];rfl
def VR2.up {v:AV} {u:Value} (hv:VR2 ν h w v u):VR ν h w v u:=by
 cases ht:v.isTup with
 |true =>
  cases v<;>try cases ht
  exact hv.elim
 |false=>rw[LN ht]; exact hv
def JM {S:St} {a:Act} {fn:Func} {v:AV} (H:Sim ν S a w) (e:pH P fn S=some v):∃u,(results fn a.tmps).run P w=.ok u w∧VR ν S.h w v u:=by
 unfold pH at e
 cases hr:Py P S.h S.t fn.results.toList with
 |none=>rw[hr] at e; cases e
 |some vs =>
  obtain⟨us,h1,h2⟩:=V8 H hr
  have hrun:(results fn a.tmps).run P w=.ok (if h:us.toArray.size=1 then us.toArray[0] else .tuple us.toArray) w:=by
   unfold results;rw[Sem.run_bind,Array.mapM_eq_mapM_toList,Sem.run_map]
   erw [h1]
   rfl
  rw[hr] at e
  rcases vs with _|⟨x,_|⟨y,l⟩⟩<;>rcases us with _|⟨u,_|⟨u',m⟩⟩
  ·cases e; exact⟨_,hrun,⟨#[],by simp,trivial⟩⟩
  ·exact h2.elim
  ·exact h2.elim
  ·exact h2.elim
  ·cases e; exact⟨_,hrun,h2.1.up⟩
  ·exact h2.2.elim
  ·exact h2.elim
  ·exact h2.2.elim
  ·cases e; exact⟨_,hrun,⟨(u::u'::m).toArray,by simp,h2⟩⟩
def ĉ.lk {R:AV→Value→Prop} (hany:∀u,R .any u):∀{l:List AV} {m:List Value} (i:Nat),ĉ R l m→R (Am.lk l i) (m.getD i undef)
 |[],[],i,_=>hany _
 |_::_,_::_,0,h=>h.1
 |_::_,_::_,i+1,h=>by simpa[Am.lk] using ĉ.lk hany i h.2
 |[],_::_,_,h=>h.elim
 |_::_,[],_,h=>h.elim
def Flat:Prop:=ô.D=[]∧ô.Q=none
def IU (h:ô.Q=none):fen=Fence.wide:=by
 unfold fen;rw[h];rfl
def Tg {E:Env ρ} {call:List Nat→Bool→Nat→List AV→List Blk→(AV→List Blk→Option ρ)→Option ρ} {N:Nat} (hE:l5 E N call) (hD:mm E N call) {path:List Nat} (hpath:path.length+2=N) {f:Nat} {args:List AV} {K:AV→List Blk→Option ρ} {r:ρ}
 (h0:Flat) (hL:∀fn c,E.P.funcs[f]?=some fn→fn.body=some c→∀x∈ð 0 c,oG E path f x.1 x.2)
 (e:ain E call path f args h K=some r) {vals:List Value} (H:HR ν h w) (hargs:ĉ (VR ν h w) args vals) :
 (∃fn c,E.P.funcs[f]?=some fn∧fn.body=some c) ∧
 CallsIn Fence.wide 0 E.P f vals.toArray w fun e w'=>∃ν' h' v u,e=.returned u∧VR ν' h' w' v u∧HR ν' h' w'∧Ev h.length ν h w ν' h' w'∧h.length≤h'.length∧(∀j,j<h.length→lkB h j=.dead→lkB h' j=.dead)∧K v h'=some r:=by
 unfold ain at e
 split at e<;>try (cases e; done)
 rename_i fn hfn
 split at e<;>try (cases e; done)
 rename_i c hc;refine⟨⟨fn,c,hfn,hc⟩,?_⟩;refine callsIn_of_wp hfn hc trivial ?_;have hlen:=hargs.length
 have hS:Sim ν {t:=args++List.replicate (fn.ntmps-args.length) .any,h:=h} {tmps:=vals.toArray++Array.replicate (fn.ntmps-vals.toArray.size) undef,defers:=[]} w:=by
  refine⟨h0.1.symm,by simp[hlen],fun i=>?_,H⟩;simp only[SC];rcases dz i args.length with hi|hi
  ·have:=ĉ.lk (R:=VR ν h w) (fun _=>trivial) i hargs
   have hv:i<vals.length:=by omega
   have h2:(vals.toArray++Array.replicate (fn.ntmps-vals.toArray.size) undef).getD i undef=vals.getD i undef:=by
    simp[dU,eX,hv]
   rw[h2]; exact this
  ·rw[alS _ _ hi]; trivial
 have hgo:=lQ hE hD hpath c 0 _ _ ν _ w (hL fn c hfn hc) e hS (cR _);rw[IU h0.2] at hgo;refine wpIn_mono hgo fun x a' w' ha=>?_;obtain⟨ν',S',h1,h2,h3,h4,h5⟩:=ha
 have fin:∀v,pH E.P fn S'=some v→K v S'.h=some r→a'.defers=[]∧∃u,(results fn a'.tmps).run E.P w'=.ok u w'∧∃ν' h' v u',Ending.returned u=.returned u'∧VR ν' h' w' v u'∧HR ν' h' w'∧Ev h.length ν h w ν' h' w'∧h.length≤h'.length∧(∀j,j<h.length→lkB h j=.dead→lkB h' j=.dead)∧K v h'=some r:=by
  intro v hv hk;obtain⟨u,q1,q2⟩:=JM h1 hv;exact⟨h1.defers.trans h0.1,u,q1,ν',S'.h,v,u,rfl,q2,h1.heap,h2,h3,h4,hk⟩
 cases x with
 |normal =>
  simp only at h5
  split at h5<;>try (cases h5; done)
  exact fin _ ‹_› h5
 |ret =>
  simp only at h5
  split at h5<;>try (cases h5; done)
  exact fin _ ‹_› h5
 |exit id=>cases h5
 |goto l=>cases h5
 |panic ch=>cases h5
 |outgrown=>cases h5
structure OG (E:Env ρ):Prop where
 pure:∀f p,E.pure f=some p→Î E.P f p
 sort:∀f,E.sort f=true→∀(h:List Blk) (x:AV) (K:AV→List Blk→Option ρ) (r:ρ),XP h x K=some r→∀ν w u,HR ν h w→VR ν h w x u→Nl E.P f ν h w [u] K r
 compact:∀f,E.compact f=true→∀(h:List Blk) (x:AV) (K:AV→List Blk→Option ρ) (r:ρ),pj h x K=some r→∀ν w u,HR ν h w→VR ν h w x u→Nl E.P f ν h w [u] K r
 plain : ∀ (f : Nat) (fn : Func), E.P.funcs[f]? = some fn → (fn.name == "runtime.NumGoroutine") = false
 clone:LQ E.P E.clone
 joins:aiV E
omit [ô] in
def qG {E:Env ρ} (n:Nat):(∀f p,E.pure f=some p→∀path draw args h K,kg E (n+1) path draw f args h K=XY (draw&&!E.fz f) p h args K) ∧
 (∀f,E.pure f=none→E.sort f=true→∀path draw args h K,kg E (n+1) path draw f args h K=match args with|[x]=>XP h x K|_=>none) ∧
 (∀f,E.pure f=none→E.sort f=false→E.compact f=true→∀path draw args h K,kg E (n+1) path draw f args h K=match args with|[x]=>pj h x K|_=>none) :=
 ⟨fun f p hf path draw args h K=>by simp only[kg,hf],fun f hf hs path draw args h K=>by simp only[kg,hf,hs]; rfl,fun f hf hs hc path draw args h K=>by simp only[kg,hf,hs,hc]; rfl⟩
def mS {E:Env ρ} (h0:Flat∨∀f,E.inl f=false) (hlib:OG E) (hdraw:∀L call,l5 E L call→mm E L call)
 (hloops:∀n,n≤10→l5 E (22-2*n) (kg E n)→∀(path:List Nat) (f:Nat) (fn:Func) (c:Code),path.length+2=22-2*n→E.P.funcs[f]?=some fn→fn.body=some c→∀x∈ð 0 c,oG E path f x.1 x.2) :
 ∀n,n≤10→ae4 E.P (22-2*n) (kg E n):=by
 intro n
 induction n with
 |zero=>intro _ path draw g args h K r _ e; cases e
 |succ n ih =>
  intro hn path draw g args h K r hp e ν w vals H hargs
  have hE:l5 E (22-2*n) (kg E n):=⟨by
   cases n with
   |zero=>exact .inl fun _ _ _ _ _ _=>rfl
   |succ n=>exact .inr (qG n),ih (by omega),hlib.plain,hlib.clone,hlib.joins⟩
  simp only[kg] at e
  split at e
  ·rename_i gm hg;exact ajd (hlib.pure g gm hg) e H hargs
  ·split at e
   ·rename_i hs
    split at e<;>try (cases e; done)
    rename_i x;obtain⟨u,rfl,hu⟩:=hargs.one;exact hlib.sort g hs h x K r e ν w u H hu
   ·split at e
    ·rename_i hc
     split at e<;>try (cases e; done)
     rename_i x;obtain⟨u,rfl,hu⟩:=hargs.one;exact hlib.compact g hc h x K r e ν w u H hu
    ·split at e<;>try (cases e; done)
     rename_i hinl
     split at e<;>try (cases e; done)
     have hpath:path.length+2=22-2*n:=by omega
     exact Tg hE (hdraw _ _ hE) hpath (h0.resolve_right fun hf=>by rw[hf g] at hinl; cases hinl) (fun fn c h1 h2=>hloops n (by omega) hE path g fn c hpath h1 h2) e H hargs
end
end Go.Am
end

noncomputable section
namespace Go.Am
variable [ô]
section
variable {ρ:Type} {P:Program} {h h2:List Blk} {t t2:List AV}
def nZ (h h2:List Blk) (v:AV):Prop:=∀id∈refs2 h v,lkB h2 id=lkB h id
def nZ.one {v:AV} (hs:nZ h h2 v):∀id∈refs1 v,lkB h2 id=lkB h id:=fun id hi=>hs id (by simp only[refs2,dc]; exact .inl hi)
def nZ.refs {v:AV} (hs:nZ h h2 v):refs2 h2 v=refs2 h v:=by
 simp only[refs2]
 have:∀(l:List Nat),(∀id∈l,lkB h2 id=lkB h id)→(l.flatMap fun id=>(Tu (lkB h2 id)).flatMap ķ)=l.flatMap fun id=>(Tu (lkB h id)).flatMap ķ:=by
  intro l
  induction l with
  |nil=>intro _; rfl
  |cons x l ih=>intro hl; simp only[dK]; rw[hl x (by simp),ih fun id hi=>hl id (by simp[hi])]
 rw[this _ hs.one]
def po {v:AV} (hs:∀id∈ķ v,lkB h2 id=lkB h id):Ă h2 v=Ă h v:=by
 cases v<;>first
  |rfl
  |(simp only[Ă]; rw[hs _ (by simp[ķ])])
def Pu {v:AV} (hs:∀id∈refs1 v,lkB h2 id=lkB h id):ahv h2 v=ahv h v:=by
 have one:(∀id∈ķ v,lkB h2 id=lkB h id)→Ă h2 v=Ă h v:=po
 cases v with
 |agg cs =>
  simp only[ahv,AV.agg.injEq];exact fk fun c hc=>po fun id hi=>hs id (dv.2 ⟨c,hc,hi⟩)
 |fn f a b=>exact one fun _ hi=>by cases hi
 |_=>exact one hs
def ajA {ty:TypeId} {a:AV} (hs:∀id∈refs1 a,lkB h2 id=lkB h id) (K:AV→Option ρ):VO P h2 ty a K=VO P h ty a K:=by
 cases a<;>first
  |rfl
  |(simp only[VO]; rw[hs _ (by simp[refs1,ķ])])
def afj {o:Nat} {a:AV} (hs:∀id∈refs1 a,lkB h2 id=lkB h id) (K:AV→Option ρ):B8 h2 a o K=B8 h a o K:=by
 cases a<;>first
  |rfl
  |(simp only[B8]; rw[hs _ (by simp[refs1,ķ])])
def agt {sz:Nat} {a i:AV} (hs:∀id∈refs1 a,lkB h2 id=lkB h id) (K:AV→Option ρ):II sz h2 a i K=II sz h a i K:=by
 cases i<;>try rfl
 cases a<;>first
  |rfl
  |(simp only[II]; rw[hs _ (by simp[refs1,ķ])])
def alW {d:Option TypeDesc} {a:AV} (hs:∀id∈refs1 a,lkB h2 id=lkB h id) (K:AV→Option ρ):aoN d h2 a K=aoN d h a K:=by
 unfold aoN
 split<;>cases a<;>first
  |rfl
  |(simp only[]; rw[hs _ (by simp[refs1,ķ])])
def ad0 {ty:TypeId} {m i:AV} {ok:Bool} (hs:∀id∈refs1 m,lkB h2 id=lkB h id) (K:AV→Option ρ):ot P h2 ty m i ok K=ot P h ty m i ok K:=by
 unfold ot
 have:Ă h2 m=Ă h m:=po fun id hi=>hs id (by cases m<;>first|exact hi|simp[ķ] at hi)
 rw[this]
def LV {σ:Type} {sz:Nat} {a:AV} {lo hi:Option AV} (K:AV→List Blk→Option σ):qP sz h a lo hi false K=(qP sz h a lo hi false fun v _=>some v).bind fun v=>K v h:=by
 unfold qP;dsimp only
 (repeat' split)<;>rfl
def afg {sz:Nat} {a:AV} {lo hi:Option AV} (hs:∀id∈refs1 a,lkB h2 id=lkB h id):∃φ:Option AV,(∀{σ:Type} (K:AV→List Blk→Option σ),qP sz h a lo hi false K=φ.bind fun v=>K v h)∧∀{σ:Type} (K:AV→List Blk→Option σ),qP sz h2 a lo hi false K=φ.bind fun v=>K v h2:=by
 refine⟨qP sz h a lo hi false fun v _=>some v,fun K=>?_,fun K=>?_⟩
 ·exact LV K
 ·rw[LV K];congr 1
  cases a<;>first
   |rfl
   |(simp only[qP]; rw[hs _ (by simp[refs1,ķ])])
def ap (nid:Nat) (ef:Option Blk) (h:List Blk):List Blk:=match ef with|none=>h|some B=>Ē h nid B
def pbind {α σ σ2:Type} {R:Option σ→Option σ2→Prop} (h0:R none none) {x:Option α} {K:α→Option σ} {K2:α→Option σ2} (h:∀a,R (K a) (K2 a)):R (x.bind K) (x.bind K2):=by
 cases x with
 |none=>exact h0
 |some a=>exact h a
def pb2 {α σ σ2:Type} {R:Option σ→Option σ2→Prop} (h0:R none none) {x:Option α} {K:α→Option σ} {K2:α→Option σ2} {z:Option σ} {z2:Option σ2} (h1:z=x.bind K) (h2:z2=x.bind K2) (h:∀a,R (K a) (K2 a)):R z z2:=by
 subst h1 h2; exact pbind h0 h
def WG {l:List Operand} (hx:∀x∈l,ev t2 x=ev t x):l.map (ev t2)=l.map (ev t):=fk hx
def alB {l:List (Nat×Operand)} (hx:∀x∈l.map (·.2),ev t2 x=ev t x):(l.map fun p=>(p.1,ev t2 p.2))=l.map fun p=>(p.1,ev t p.2):=fk fun p hp=>by rw[hx p.2 (dM.2 ⟨p,hp,rfl⟩)]
def al9 {v:AV} (hv:vq v=false):frz h v=h:=by
 have one:∀c,aa3 c=false→xP h c=h:=fun c hc=>by cases c<;>first|rfl|cases hc
 have this1:=one v
 cases v with
 |agg cs =>
  simp only[vq,ew] at hv;simp only[frz];clear this1
  induction cs with
  |nil=>rfl
  |cons c cs ih=>simp only[Bk]; rw[one c (by simpa using hv c (by simp))]; exact ih fun x hx=>hv x (by simp[hx])
 |_=>exact this1 hv
def Xl:∀{ps:List (Nat×AV)},(∀p∈ps,vq p.2=false)→frzA h ps=h
 |[],_=>rfl
 |p::ps,hp=>by
  obtain⟨i,v⟩:=p;simp only[frzA];rw[al9 (hp (i,v) (by simp))];exact Xl fun q hq=>hp q (by simp[hq])
def V7 {ty:Ty}:∀{ps:List (Nat×AV)} {n:Nat},(∀p∈ps,∀id∈refs1 p.2,lkB h2 id=lkB h id)→T5 h2 ty n ps=T5 h ty n ps
 |[],_,_=>rfl
 |(i,v)::ps,n,hp=>by
  simp only[T5];rw[Pu (hp (i,v) (by simp)),V7 fun q hq=>hp q (by simp[hq])]
def op_par {σ σ2:Type} {R:Option σ→Option σ2→Prop} {E:Env ρ} {o:Op} {nid:Nat} {K:AV→St→Option σ} {K2:AV→St→Option σ2} (h0:R none none) (hcl:cls E o≤1) (hcall:ad9 o=false)
 (hx:∀x∈o.operands.toList,ev t2 x=ev t x) (hs:cls E o=1→∀x∈o.operands.toList,∀id∈refs1 (ev t x),lkB h2 id=lkB h id)
 (hb:∀ty n ps,o=.buildSlice ty n ps→ps.toList.all (fun p=>!vq (ev t p.2))=true)
 (hK:∀v ef,(ef.isSome=true→ē E.clone o=true)→R (K v {t:=t,h:=ap nid ef h}) (K2 v {t:=t2,h:=ap nid ef h2})) :
 R (opK P {t:=t,h:=h} nid false o K) (opK P {t:=t2,h:=h2} nid false o K2):=by
 have hn:∀v,R (K v {t:=t,h:=h}) (K2 v {t:=t2,h:=h2}):=fun v=>hK v none (by simp);have ha:ē E.clone o=true→∀v B,R (K v {t:=t,h:=Ē h nid B}) (K2 v {t:=t2,h:=Ē h2 nid B}):=fun al v B=>hK v (some B) fun _=>al
 cases o with
 |move x =>
  have e:=hx x (by simp[Op.operands]);simp only[opK,e]; exact hn _
 |assign x =>
  have e:=hx x (by simp[Op.operands]);simp only[opK,e]; exact hn _
 |pick c a b =>
  have e1:=hx c (by simp[Op.operands]);have e2:=hx a (by simp[Op.operands]);have e3:=hx b (by simp[Op.operands]);simp only[opK,e1,e2,e3]
  (repeat' split)<;>first|exact h0|exact hn _
 |box _ x =>
  have e:=hx x (by simp[Op.operands]);simp only[opK,e]
  (repeat' split)<;>first|exact h0|exact ha rfl _ _
 |alloc e =>
  simp only[opK]
  (repeat' split)<;>first|exact h0|exact ha rfl _ _
 |build ty ps =>
  have e:=alB (l:=ps.toList) (t:=t) (t2:=t2) fun x hm=>hx x (by simpa[Op.operands] using hm);simp only[opK,e]
  (repeat' split)<;>first|exact h0|exact hn _
 |buildSlice ty n ps =>
  have e:=alB (l:=ps.toList) (t:=t) (t2:=t2) fun x hm=>hx x (by simpa[Op.operands] using hm);have hown:=hb ty n ps rfl
  have hf:∀h:List Blk,frzA h (ps.toList.map fun p=>(p.1,ev t p.2))=h:=fun h=>Xl fun p hp=>by
   obtain⟨q,hq,rfl⟩:=dM.1 hp;simpa using dL.1 hown q hq
  have hr:∀ty n,T5 h2 ty n (ps.toList.map fun p=>(p.1,ev t p.2))=T5 h ty n (ps.toList.map fun p=>(p.1,ev t p.2)):=fun ty n=>V7 fun p hp=>by
   obtain⟨q,hq,rfl⟩:=dM.1 hp;exact hs rfl q.2 (by simpa[Op.operands] using⟨q.1,by simpa using hq⟩)
  simp only[opK,e,hf,hr]
  (repeat' split)<;>first|exact h0|exact ha rfl _ _
 |load ty a =>
  have e:=hx a (by simp[Op.operands]);have hsa:=hs rfl a (by simp[Op.operands]);simp only[opK,e];rw[ajA hsa];exact pb2 h0 (uO ..) (uO ..) fun v=>hn v
 |nilCheck x =>
  have e:=hx x (by simp[Op.operands]);have hsa:=hs rfl x (by simp[Op.operands]);simp only[opK,e]
  cases hv:ev t x with
  |optr id g i off =>
   have:=hsa id (by rw[hv]; simp[refs1,ķ]);simp only[this]
   (repeat' split)<;>first|exact h0|exact hn _
  |_=>first|exact h0|exact hn _
 |binOp op ty x y yt =>
  have e1:=hx x (by simp[Op.operands]);have e2:=hx y (by simp[Op.operands]);simp only[opK,e1,e2];exact pb2 h0 (BM ..) (BM ..) fun v=>hn v
 |unOp op ty x =>
  have e:=hx x (by simp[Op.operands]);simp only[opK,e]
  (repeat' split)<;>first|exact h0|exact hn _|exact pb2 h0 (Fm ..) (Fm ..) fun v=>hn v
 |convert src dst x =>
  have e:=hx x (by simp[Op.operands]);simp only[opK,e]
  (repeat' split)<;>first|exact h0|exact hn _
 |makeFunc fn first captured =>
  have e1:=WG (l:=first.toList) (t:=t) (t2:=t2) fun x hm=>hx x (by simp[Op.operands]; exact .inl (by simpa using hm));have e2:=WG (l:=captured.toList) (t:=t) (t2:=t2) fun x hm=>hx x (by simp[Op.operands]; exact .inr (by simpa using hm));simp only[opK,e1,e2]
  (repeat' split)<;>first|exact h0|exact hn _
 |makeMap ty r =>
  simp only[opK]
  (repeat' split)<;>first|exact h0|exact ha rfl _ _
 |makeSlice ty l c =>
  have e:=hx l (by simp[Op.operands]);simp only[opK,e]
  (repeat' split)<;>first|exact h0|exact ha rfl _ _
 |slice ty x lo hi mx =>
  have e:=hx x (by simp[Op.operands]);have hsa:=hs rfl x (by simp[Op.operands])
  have e1:lo.map (ev t2)=lo.map (ev t):=by
   cases lo with
   |none=>rfl
   |some l=>simp[hx l (by simp[Op.operands])]
  have e2:hi.map (ev t2)=hi.map (ev t):=by
   cases hi with
   |none=>rfl
   |some l=>simp[hx l (by simp[Op.operands])]
  simp only[opK,e,e1,e2]
  (repeat' split)<;>first
   |exact h0
   | (obtain ⟨φ, q1, q2⟩ := afg hsa
      rw[q1,q2]
      exact pbind h0 fun v=>hn v)
 |fieldAddr ty x f =>
  have e:=hx x (by simp[Op.operands]);have hsa:=hs rfl x (by simp[Op.operands]);simp only[opK,e]
  (repeat' split)<;>first
   |exact h0
   |(rw[afj hsa]; exact pb2 h0 (pp ..) (pp ..) fun v=>hn v)
 |field ty x f =>
  have e:=hx x (by simp[Op.operands]);simp only[opK,e]
  (repeat' split)<;>first|exact h0|exact hn _
 |indexAddr ty x i =>
  have e1:=hx x (by simp[Op.operands]);have e2:=hx i (by simp[Op.operands]);have hsa:=hs rfl x (by simp[Op.operands]);simp only[opK,e1,e2]
  (repeat' split)<;>first
   |exact h0
   |exact hn _
   |exact pb2 h0 (iU ..) (iU ..) fun v=>hn _
   |(rw[agt hsa]; exact pb2 h0 (pz ..) (pz ..) fun v=>hn v)
 |index ty x i =>
  have e1:=hx x (by simp[Op.operands]);have e2:=hx i (by simp[Op.operands]);simp only[opK,e1,e2]
  (repeat' split)<;>first|exact h0|exact hn _|exact pb2 h0 (iU ..) (iU ..) fun v=>by(repeat' split)<;>first|exact h0|exact hn _
 |lookup ty m i ok =>
  have e1:=hx m (by simp[Op.operands]);have e2:=hx i (by simp[Op.operands]);have hsa:=hs rfl m (by simp[Op.operands]);simp only[opK,e1,e2];rw[ad0 hsa];exact pb2 h0 (mL ..) (mL ..) fun v=>hn v
 |extract x i =>
  have e:=hx x (by simp[Op.operands]);simp only[opK,e]
  (repeat' split)<;>first|exact h0|exact hn _
 |call c =>
  obtain⟨callee,args,tys⟩:=c
  cases callee with
  |builtin b =>
   have e:=WG (l:=args.toList) (t:=t) (t2:=t2) fun x hm=>hx x (by simpa[Op.operands,Call.operands] using hm);have hsa:cls E (.call ⟨.builtin b,args,tys⟩)=1→∀x∈args.toList,∀id∈refs1 (ev t x),lkB h2 id=lkB h id:=fun h1 x hm=>hs h1 x (by simpa[Op.operands,Call.operands] using hm);generalize hl:args.toList=l at e hsa;generalize hm:tys.toList=m
   cases b with
   |append=>simp[cls] at hcl
   |clear=>simp[cls] at hcl
   |len =>
    rcases l with _|⟨x,_|⟨y,l⟩⟩<;>rcases m with _|⟨ty,m⟩<;>simp only[opK,hl,hm]<;>try exact h0
    have e1:ev t2 x=ev t x:=by simpa using e
    rw[e1,alW (hsa rfl x (by simp))];exact pb2 h0 (Bi ..) (Bi ..) fun v=>hn v
   |cap =>
    rcases l with _|⟨x,_|⟨y,l⟩⟩<;>rcases m with _|⟨ty,m⟩<;>simp only[opK,hl,hm]<;>try exact h0
    have e1:ev t2 x=ev t x:=by simpa using e
    rw[e1]
    (repeat' split)<;>first|exact h0|exact hn _
   |min =>
    rcases l with _|⟨x,l⟩<;>simp only[opK,hl,hm]<;>try exact h0
    simp only[eP,List.cons.injEq] at e;rw[e.1,e.2];exact pb2 h0 (iF _ _ _ _) (iF _ _ _ _) fun v=>hn v
   |max =>
    rcases l with _|⟨x,l⟩<;>simp only[opK,hl,hm]<;>try exact h0
    simp only[eP,List.cons.injEq] at e;rw[e.1,e.2];exact pb2 h0 (iF _ _ _ _) (iF _ _ _ _) fun v=>hn v
   |_=>simp only[opK]; (repeat' split)<;>first|exact h0|contradiction
  |value f=>cases hcall
  |invoke r m=>exact h0
 |store=>simp[cls] at hcl
 |mapUpdate=>simp[cls] at hcl
 |_=>exact h0
def aps (ups:List (Nat×Blk)) (h:List Blk):List Blk:=ups.foldl (fun h p=>Ē h p.1 p.2) h
def anp {id:Nat} {B:Blk}:aps [(id,B)] h=Ē h id B:=rfl
def BN {u v:List (Nat×Blk)}:aps (u++v) h=aps v (aps u h):=by simp[aps]
def Lg:∀(ups:List (Nat×Blk)) (h:List Blk),(aps ups h).length=h.length
 |[],_=>rfl
 |p::ups,h=>by show(aps ups (Ē h p.1 p.2)).length=_; rw[Lg ups,ß]
def XG {id:Nat}:∀{ups:List (Nat×Blk)} {h:List Blk},(∀p∈ups,p.1≠id)→lkB (aps ups h) id=lkB h id
 |[],_,_=>rfl
 |p::ups,h,hn=>by
  show lkB (aps ups (Ē h p.1 p.2)) id=_;rw[XG fun q hq=>hn q (by simp[hq]),ý _ (Ne.symm (hn p (by simp)))]
def Jv {id:Nat}:∀{ups:List (Nat×Blk)} {h h2:List Blk},h2.length=h.length→lkB h2 id=lkB h id→lkB (aps ups h2) id=lkB (aps ups h) id
 |[],_,_,_,he=>he
 |p::ups,h,h2,hl,he=>Jv (ups:=ups) (h:=Ē h p.1 p.2) (h2:=Ē h2 p.1 p.2) (by simp[ß,hl]) (by simp only[O3,hl,he])
def aii {v:AV} (hs:∀id∈ķ v,lkB h2 id=lkB h id):∃ups,xP h v=aps ups h∧xP h2 v=aps ups h2∧∀p∈ups,p.1∈ķ v:=by
 have no:xP h v=h→xP h2 v=h2→∃ups,xP h v=aps ups h∧xP h2 v=aps ups h2∧∀p∈ups,p.1∈ķ v:=fun h1 h2'=>⟨[],h1,h2',by simp⟩
 cases v with
 |own id g =>
  have e:=hs id (by simp[ķ])
  cases hl:lkB h id with
  |row t g fz xs =>
   rw[hl] at e;exact⟨[(id,.row t g true xs)],by simp only[xP,hl]; rfl,by simp only[xP,e]; rfl,by simp[ķ]⟩
  |_=>rw[hl] at e; exact no (by simp only[xP,hl]) (by simp only[xP,e])
 |sub id g lo n =>
  have e:=hs id (by simp[ķ])
  cases hl:lkB h id with
  |row t g fz xs =>
   rw[hl] at e;exact⟨[(id,.row t g true xs)],by simp only[xP,hl]; rfl,by simp only[xP,e]; rfl,by simp[ķ]⟩
  |_=>rw[hl] at e; exact no (by simp only[xP,hl]) (by simp only[xP,e])
 |_=>exact no rfl rfl
def aar:∀{cs:List AV} {h h2:List Blk},h2.length=h.length→(∀c∈cs,∀id∈ķ c,lkB h2 id=lkB h id)→∃ups,Bk h cs=aps ups h∧Bk h2 cs=aps ups h2∧∀p∈ups,∃c∈cs,p.1∈ķ c
 |[],_,_,_,_=>⟨[],rfl,rfl,by simp⟩
 |c::cs,h,h2,hl,hs=>by
  obtain⟨u,h1,h2',h3⟩:=aii (hs c (by simp));obtain⟨v,h4,h5,h6⟩:=aar (cs:=cs) (h:=xP h c) (h2:=xP h2 c) (by rw[wQ,wQ,hl]) (fun d hd id hi=>by rw[h1,h2']; exact Jv hl (hs d (by simp[hd]) id hi));refine⟨u++v,by simp only[Bk]; rw[h4,h1,BN],by simp only[Bk]; rw[h5,h2',BN],fun p hp=>?_⟩;rcases dc.1 hp with hp|hp
  ·exact⟨c,by simp,h3 p hp⟩
  ·obtain⟨d,hd,hi⟩:=h6 p hp;exact⟨d,by simp[hd],hi⟩
def amb {v:AV} (hl:h2.length=h.length) (hs:∀id∈refs1 v,lkB h2 id=lkB h id):∃ups,frz h v=aps ups h∧frz h2 v=aps ups h2∧∀p∈ups,p.1∈refs1 v:=by
 have one:(∀id∈ķ v,lkB h2 id=lkB h id)→∃ups,xP h v=aps ups h∧xP h2 v=aps ups h2∧∀p∈ups,p.1∈ķ v:=aii
 cases v with
 |agg cs =>
  obtain⟨u,h1,h2',h3⟩:=aar (cs:=cs) hl fun c hc id hi=>hs id (dv.2 ⟨c,hc,hi⟩);exact⟨u,h1,h2',fun p hp=>dv.2 (h3 p hp)⟩
 |fn f a b =>
  obtain⟨u,h1,h2',h3⟩:=one fun _ hi=>by cases hi
  exact⟨u,h1,h2',fun p hp=>by cases h3 p hp⟩
 |_=>exact one hs
def LU {ty:Ty} {x:AV} (hs:∀id∈refs1 x,lkB h2 id=lkB h id):æ (.slice ty) [Ă h2 x]=æ (.slice ty) [Ă h x]:=by
 have:Ă h2 x=Ă h x:=po fun id hi=>hs id (by cases x<;>first|exact hi|simp[ķ] at hi)
 rw[this]
def ajZ {v:AV} {vs:List AV} (hc:Ŝ v=some vs):∀c∈vs,∀id∈ķ c,id∈refs1 v:=by
 intro c hm id hi
 cases v<;>simp only[Ŝ,Option.some.injEq,reduceCtorEq] at hc<;>subst hc
 all_goals first
  |(simp only[dh] at hm; subst hm; exact hi)
  |(simp only[dh] at hm; subst hm; cases hi; done)
  |exact dv.2 ⟨c,hm,hi⟩
def abr {σ σ2:Type} {R:Option σ→Option σ2→Prop} {ty:TypeId} {a v:AV} {K:List Blk→Option σ} {K2:List Blk→Option σ2} (h0:R none none) (hlen:h2.length=h.length)
 (s1:∀id∈refs1 a,lkB h2 id=lkB h id) (s2:∀id∈refs1 v,lkB h2 id=lkB h id) (hK:∀ups,(∀p∈ups,p.1∈refs1 a∨p.1∈refs1 v)→R (K (aps ups h)) (K2 (aps ups h2))):R (xj P h ty a v K) (xj P h2 ty a v K2):=by
 unfold xj
 split<;>try exact h0
 rename_i vs hvs
 split<;>try exact h0
 split<;>try exact h0
 ·rename_i id off;have e3:=s1 id (by simp[refs1,ķ]);rw[e3]
  (repeat' split)<;>first
   |exact h0
   |exact hK [(id,_)] fun p hp=>.inl (by simp only[dh] at hp; subst hp; simp[refs1,ķ])
 ·rename_i id g i off;have e3:=s1 id (by simp[refs1,ķ]);obtain⟨u,f1,f2,f3⟩:=amb (v:=v) hlen s2
  have e4:lkB (frz h2 v) id=lkB (frz h v) id:=by rw[f1,f2]; exact Jv hlen e3
  have e5:vs.map (Ă h2)=vs.map (Ă h):=fk fun c hc=>po fun id hi=>s2 id (ajZ hvs c hc id hi);rw[e4,e5]
  (repeat' split)<;>first
   |exact h0
   | (rw [f1, f2]
      refine hK (u++[(id,_)]) (fun p hp=>?_) |> fun q=>(by simpa only[BN,anp] using q)
      rcases dc.1 hp with hp|hp
      ·exact .inr (f3 p hp)
      ·exact .inl (by simp only[dh] at hp; subst hp; simp[refs1,ķ]))
 ·rename_i id g i j;have e3:=s1 id (by simp[refs1,ķ]);rw[e3]
  (repeat' split)<;>first
   |exact h0
   |exact hK [(id,_)] fun p hp=>.inl (by simp only[dh] at hp; subst hp; simp[refs1,ķ])
def aqL {σ σ2:Type} {R:Option σ→Option σ2→Prop} {E:Env ρ} {o:Op} {nid:Nat} {eat:Bool} {K:AV→St→Option σ} {K2:AV→St→Option σ2} (h0:R none none) (hcl:cls E o=2) (hcall:ad9 o=false) (hlen:h2.length=h.length)
 (hx:∀x∈o.operands.toList,ev t2 x=ev t x) (hs:∀x∈o.operands.toList,∀id∈refs1 (ev t x),lkB h2 id=lkB h id)
 (hK:∀v ups,(∀p∈ups,(p.1=nid∧ē E.clone o=true)∨∃x∈o.operands.toList,p.1∈refs1 (ev t x))→R (K v {t:=t,h:=aps ups h}) (K2 v {t:=t2,h:=aps ups h2})) :
 R (opK P {t:=t,h:=h} nid eat o K) (opK P {t:=t2,h:=h2} nid eat o K2):=by
 cases o with
 |store ty a v =>
  have e1:=hx a (by simp[Op.operands]);have e2:=hx v (by simp[Op.operands]);have s1:=hs a (by simp[Op.operands]);have s2:=hs v (by simp[Op.operands]);have ma:∀{id:Nat},id∈refs1 (ev t a)→∃x∈(Op.store ty a v).operands.toList,id∈refs1 (ev t x):=fun hi=>⟨a,by simp[Op.operands],hi⟩;have mv:∀{id:Nat},id∈refs1 (ev t v)→∃x∈(Op.store ty a v).operands.toList,id∈refs1 (ev t x):=fun hi=>⟨v,by simp[Op.operands],hi⟩;simp only[opK,e1,e2]
  cases eat with
  |false =>
   simp only;exact abr h0 hlen s1 s2 fun ups hu=>hK _ ups fun p hp=>.inr ((hu p hp).elim ma mv)
  |true =>
   simp only
   cases hv:ev t v with
   |sub id g lo n =>
    rw[hv] at s2 mv;have e3:=s2 id (by simp[refs1,ķ]);simp only[e3]
    split<;>try exact h0
    split<;>try exact h0
    refine abr h0 (by simp[ß,hlen]) (fun j hj=>?_) (fun j hj=>?_) fun ups hu=>hK _ ((id,_)::ups) fun p hp=>.inr ?_
    ·exact Jv (ups:=[(id,_)]) hlen (s1 j hj)
    ·simp only[refs1,ķ,dh] at hj;subst hj;exact Jv (ups:=[(_,_)]) hlen e3
    ·rcases df.1 hp with rfl|hp
     ·exact mv (by simp[refs1,ķ])
     ·rcases hu p hp with hu|hu
      ·exact ma hu
      ·exact mv (by simpa[refs1,ķ] using hu)
   |_=>exact h0
 |mapUpdate ty m i x =>
  have e1:=hx m (by simp[Op.operands]);have e2:=hx i (by simp[Op.operands]);have e3:=hx x (by simp[Op.operands]);have s1:=hs m (by simp[Op.operands]);have s3:=hs x (by simp[Op.operands]);obtain⟨u,f1,f2,f3⟩:=amb (v:=ev t x) hlen s3;simp only[opK,e1,e2,e3];unfold kR;rw[Pu s3]
  split<;>try exact h0
  split<;>try exact h0
  rename_i id hm;rw[hm] at s1;rw[s1 id (by simp[refs1,ķ])]
  (repeat' split)<;>first
   |exact h0
   | (rw [f1, f2]
      refine hK _ (u++[(id,_)]) (fun p hp=>?_) |> fun q=>(by simpa only[BN,anp] using q)
      rcases dc.1 hp with hp|hp
      ·exact .inr ⟨x,by simp[Op.operands],f3 p hp⟩
      ·exact .inr ⟨m,by simp[Op.operands],by simp only[dh] at hp; subst hp; rw[hm]; simp[refs1,ķ]⟩)
 |call c =>
  obtain⟨callee,args,tys⟩:=c
  cases callee with
  |builtin b =>
   have e:=WG (l:=args.toList) (t:=t) (t2:=t2) fun x hm=>hx x (by simpa[Op.operands,Call.operands] using hm);have hsa:∀x∈args.toList,∀id∈refs1 (ev t x),lkB h2 id=lkB h id:=fun x hm=>hs x (by simpa[Op.operands,Call.operands] using hm)
   have hmem:∀x∈args.toList,x∈(Op.call ⟨.builtin b,args,tys⟩).operands.toList:=fun x hm=>by simpa[Op.operands,Call.operands] using hm
   generalize hl:args.toList=l at e hsa hmem;generalize hm:tys.toList=m
   cases b with
   |append =>
    rcases l with _|⟨x,_|⟨y,_|⟨z,l⟩⟩⟩<;>rcases m with _|⟨ty,_|⟨ty',_|⟨ty'',m⟩⟩⟩<;>simp only[opK,hl,hm]<;>try exact h0
    simp only[eP,List.cons.injEq,fo,and_true] at e;rw[e.1,e.2];have sx:=hsa x (by simp);have sy:=hsa y (by simp);have hnew:∀v B,R (K v {t:=t,h:=Ē h nid B}) (K2 v {t:=t2,h:=Ē h2 nid B}):=fun v B=>hK v [(nid,B)] fun p hp=>.inl ⟨by simp only[dh] at hp; subst hp; rfl,rfl⟩
    (repeat' split)<;>first
     |exact h0
     | (unfold AP
        simp only[LU sy]
        split<;>try exact h0
        split<;>try exact h0
        split<;>try exact h0
        split<;>try exact h0
        split<;>try exact h0
        ·split<;>first|exact h0|exact hnew _ _
        ·rename_i id g hv;rw[hv] at sx;rw[sx id (by simp[refs1,ķ])]
         (repeat' split)<;>first
          |exact h0
          |exact hK _ [(id,_)] fun p hp=>.inr ⟨x,hmem x (by simp),by simp only[dh] at hp; subst hp; rw[hv]; simp[refs1,ķ]⟩)
     | (rename_i id2 g2 hdp
        rw[hdp] at sy;have my:∃q∈(Op.call ⟨.builtin .append,args,tys⟩).operands.toList,id2∈refs1 (ev t q):=⟨y,hmem y (by simp),by rw[hdp]; simp[refs1,ķ]⟩;unfold aex;rw[sy id2 (by simp[refs1,ķ])]
        split<;>try exact h0
        split<;>try exact h0
        split<;>try exact h0
        split<;>try exact h0
        split<;>try exact h0
        ·split<;>first
          |exact h0
          |exact hK _ [(id2,_),(nid,_)] fun p hp=>by
             simp only[df,fY,or_false] at hp;rcases hp with rfl|rfl
             ·exact .inr my
             ·exact .inl ⟨rfl,rfl⟩
        ·rename_i id g hv;rw[hv] at sx;have mx:∃q∈(Op.call ⟨.builtin .append,args,tys⟩).operands.toList,id∈refs1 (ev t q):=⟨x,hmem x (by simp),by rw[hv]; simp[refs1,ķ]⟩;rw[sx id (by simp[refs1,ķ])]
         (repeat' split)<;>first
          |exact h0
          |exact hK _ [(id2,_),(id,_)] fun p hp=>by
             simp only[df,fY,or_false] at hp;rcases hp with rfl|rfl
             ·exact .inr my
             ·exact .inr mx)
     | (unfold LR
        (repeat' split)<;>first|exact h0|exact hnew _ _)
   |clear =>
    rcases l with _|⟨x,_|⟨y,l⟩⟩<;>rcases m with _|⟨ty,_|⟨ty',m⟩⟩<;>simp only[opK,hl,hm]<;>try exact h0
    simp only[eP,List.cons.injEq,fo,and_true] at e;rw[e];have sx:=hsa x (by simp)
    split<;>try exact h0
    unfold Nf
    split<;>try exact h0
    ·exact hK _ [] (by simp)
    ·rename_i id g lo n _ hv _;rw[hv] at sx;rw[sx id (by simp[refs1,ķ])]
     (repeat' split)<;>first
      |exact h0
      |exact hK _ [(id,_)] fun p hp=>.inr ⟨x,hmem x (by simp),by simp only[dh] at hp; subst hp; rw[hv]; simp[refs1,ķ]⟩
   |_=>simp[cls] at hcl
  |value f=>cases hcall
  |invoke r m=>simp[cls] at hcl
 |_=>simp[cls] at hcl
end
end Go.Am
end

noncomputable section
namespace Go.Am
variable [ô]
section
variable {ρ:Type} {P:Program} {h h2:List Blk} {t t2:List AV}
def aeS {ty:Ty} {a:AV} (hs:nZ h h2 a):anX h2 ty a=anX h ty a:=by
 have hsn:ahv h2 a=ahv h a:=Pu hs.one
 cases ty with
 |ptr u =>
  cases a with
  |box id off =>
   cases off with
   |zero =>
    have h1:lkB h2 id=lkB h id:=hs.one id (by simp[refs1,ķ]);simp only[anX,h1]
    cases hl:lkB h id with
    |cells cs =>
     simp only
     have:cs.map (Ă h2)=cs.map (Ă h):=fk fun c hc=>po fun i hi=>hs i (by
      simp only[refs2,dc,dv]
      exact .inr ⟨id,by simp[refs1,ķ],by rw[hl]; exact⟨c,hc,hi⟩⟩)
     rw[this]
    |_=>rfl
   |succ n=>rfl
  |eptr t' x off=>cases off<;>rfl
  |_=>rfl
 |_=>cases a with
  |dp id g =>
   have h1:lkB h2 id=lkB h id:=hs.one id (by simp[refs1,ķ]);simp only[anX,h1]
  |_=>simp only[anX,hsn]
def XE:∀{l:List Ty} {ty:Ty} {as:List AV},(∀a∈as,nZ h h2 a)→aaY h2 l ty as=aaY h l ty as
 |[],ty,[],_=>rfl
 |[],ty,[a],hs=>by simp only[aaY]; exact aeS (hs a (by simp))
 |[],ty,_::_::_,_=>rfl
 |u::l,ty,[],_=>rfl
 |u::l,ty,a::as,hs=>by
  simp only[aaY];rw[aeS (hs a (by simp)),XE fun b hb=>hs b (by simp[hb])]
def XF {l:List Ty} {as:List AV} (hs:∀a∈as,nZ h h2 a):Ju h2 l as=Ju h l as:=by
 cases l with
 |nil=>rfl
 |cons ty l=>exact XE hs
def agH {E:Env ρ} {o:Op} (hx:∀x∈o.operands.toList,ev t2 x=ev t x):Ti E t2 o=Ti E t o:=by
 unfold Ti
 split
 ·rename_i ty n ps;rw[dJ];simp only[dL];refine forall_congr' fun p=>forall_congr' fun hm=>?_;rw[hx p.2 (by simpa[Op.operands] using⟨p.1,by simpa using hm⟩)]
 ·rename_i s args tys;rw[hx (.tmp s) (by simp[Op.operands,Call.operands])]
 ·rfl
def agG {E:Env ρ} {o:Op} (hx:∀x∈o.operands.toList,ev t2 x=ev t x) (hs:1≤cls E o→∀x∈o.operands.toList,nZ h h2 (ev t x)) :
 qF E {t:=t2,h:=h2} o=qF E {t:=t,h:=h} o:=by
 unfold qF
 split
 ·rename_i hc;have hc1:1≤cls E o:=fO hc
  have h1:(o.operands.toList.all fun x=>(refs2 h2 (ev t2 x)).all fun id=>!al2 (lkB h2 id))=o.operands.toList.all fun x=>(refs2 h (ev t x)).all fun id=>!al2 (lkB h id):=by
   rw[dJ];simp only[dL];refine forall_congr' fun x=>forall_congr' fun hm=>?_;rw[hx x hm,(hs hc1 x hm).refs]
   exact forall_congr' fun id=>forall_congr' fun hi=>by rw[hs hc1 x hm id hi]
  exact congr (congrArg and h1) (agH hx)
 ·rfl
def o8 {E:Env ρ} {o:Op} (hc:1≤cls E o) {id:Nat}:id∈Fp E {t:=t,h:=h} o↔∃x∈o.operands.toList,id∈refs2 h (ev t x):=by
 unfold Fp;have:Nat.ble 1 (cls E o)=true:=Nat.ble_eq_true_of_le hc;simp only[this,List.mem_flatMap]
def amd {E:Env ρ} {o:Op} (hc:cls E o=0) {S:St}:Fp E S o=[]:=by
 unfold Fp; rw[hc]
def Loc (E:Env ρ) (o:Op) (nid:Nat) (t:List AV) (h:List Blk) (t2:List AV) (h2:List Blk) (z z2:(AV→St→Option ρ)→Option ρ):Prop :=
 ∃φ:Option (AV×List (Nat×Blk)),(∀r,φ=some r→∀p∈r.2,(p.1=nid∧ē E.clone o=true)∨(cls E o=2∧p.1∈Fp E {t:=t,h:=h} o)) ∧
  (∀K,z K=φ.bind fun r=>K r.1 {t:=t,h:=aps r.2 h})∧∀K,z2 K=φ.bind fun r=>K r.1 {t:=t2,h:=aps r.2 h2}
def Loc.no {E:Env ρ} {o:Op} {nid:Nat} {z z2:(AV→St→Option ρ)→Option ρ} (h1:∀K,z K=none) (h2':∀K,z2 K=none):Loc E o nid t h t2 h2 z z2 :=
 ⟨none,by simp,fun K=>by rw[h1]; rfl,fun K=>by rw[h2']; rfl⟩
def amF {σ σ2:Type} {R:Option σ→Option σ2→Prop} {g nid:Nat} {fz:Bool} {x:AV} {K:AV→St→Option σ} {K2:AV→St→Option σ2} (h0:R none none) (hs:∀id∈refs1 x,lkB h2 id=lkB h id)
 (hK:∀v ef,R (K v {t:=t,h:=ap nid ef h}) (K2 v {t:=t2,h:=ap nid ef h2})):R (AG P g fz {t:=t,h:=h} nid x K) (AG P g fz {t:=t2,h:=h2} nid x K2):=by
 simp only[AG,LU hs]
 (repeat' split)<;>first|exact h0|exact hK _ none|exact hK _ (some _)
def efU (nid:Nat):Option Blk→List (Nat×Blk)
 |none=>[]
 |some B=>[(nid,B)]
def aiP {nid:Nat} {ef:Option Blk}:ap nid ef h=aps (efU nid ef) h:=by cases ef<;>rfl
def aqy {E:Env ρ} {call:List Nat→Bool→Nat→List AV→List Blk→(AV→List Blk→Option ρ)→Option ρ} {fid:Nat} {path:List Nat} {nid:Nat} {o:Oper}
 (hpe:anO E call) (hcl:cls E o.op≤2) (hlen:h2.length=h.length) (hx:∀x∈o.op.operands.toList,ev t2 x=ev t x) (hs:1≤cls E o.op→∀x∈o.op.operands.toList,nZ h h2 (ev t x)) :
 Loc E o.op nid t h t2 h2 (jT E call fid path true {t:=t,h:=h} nid o) (jT E call fid path true {t:=t2,h:=h2} nid o):=by
 have hwf:=agG hx hs
 cases hw:qF E {t:=t,h:=h} o.op with
 |false=>exact .no (fun K=>by simp[jT,hw]) (fun K=>by simp[jT,hwf,hw])
 |true =>
  rw[hw] at hwf
  have plain:(∀f args tys,o.op≠.call ⟨.value f,args,tys⟩)→Loc E o.op nid t h t2 h2 (jT E call fid path true {t:=t,h:=h} nid o) (jT E call fid path true {t:=t2,h:=h2} nid o):=by
   intro hno
   have hr:∀S:St,qF E S o.op=true→∀K,jT E call fid path true S nid o K=opK E.P S nid (agE E true fid o) o.op K:=fun S hS K=>by
    unfold jT;simp only[hS,Bool.not_true,Bool.and_false,Bool.false_and]
   have hcall:ad9 o.op=false:=by
    cases ho:o.op<;>try rfl
    rename_i c;obtain⟨f,args,tys⟩:=c
    cases f<;>first|rfl|exact absurd ho (hno _ _ _)
   have fin:(∃φ:Option (AV×List (Nat×Blk)),(∀r,φ=some r→∀p∈r.2,(p.1=nid∧ē E.clone o.op=true)∨(cls E o.op=2∧p.1∈Fp E {t:=t,h:=h} o.op)) ∧
    opK E.P {t:=t,h:=h} nid (agE E true fid o) o.op (fun v S=>some (v,S))=φ.map (fun r=>(r.1,({t:=t,h:=aps r.2 h}:St)))∧opK E.P {t:=t2,h:=h2} nid (agE E true fid o) o.op (fun v S=>some (v,S))=φ.map fun r=>(r.1,({t:=t2,h:=aps r.2 h2}:St))) →
    Loc E o.op nid t h t2 h2 (jT E call fid path true {t:=t,h:=h} nid o) (jT E call fid path true {t:=t2,h:=h2} nid o):=by
    rintro⟨φ,h1,h2',h3⟩;refine⟨φ,h1,fun K=>?_,fun K=>?_⟩
    ·rw[hr _ hw,afA]; unfold opR; rw[h2']; cases φ<;>rfl
    ·rw[hr _ hwf,afA]; unfold opR; rw[h3]; cases φ<;>rfl
   apply fin
   by_cases h2c:cls E o.op=2
   ·refine aqL (P:=E.P) (E:=E) (o:=o.op) (nid:=nid) (σ:=AV×St) (σ2:=AV×St) (K:=fun v S=>some (v,S)) (K2:=fun v S=>some (v,S))
     (R:=fun x y=>∃φ:Option (AV×List (Nat×Blk)),(∀r,φ=some r→∀p∈r.2,(p.1=nid∧ē E.clone o.op=true)∨(cls E o.op=2∧p.1∈Fp E {t:=t,h:=h} o.op))∧x=φ.map (fun r=>(r.1,({t:=t,h:=aps r.2 h}:St)))∧y=φ.map fun r=>(r.1,({t:=t2,h:=aps r.2 h2}:St)))
     ⟨none,by simp,rfl,rfl⟩ h2c hcall hlen hx (fun x hm=>(hs (by omega) x hm).one) fun v ups hu=>⟨some (v,ups),fun r hr' p hp=>?_,rfl,rfl⟩
    cases hr';rcases hu p hp with hu|⟨x,hm,hi⟩
    ·exact .inl hu
    ·exact .inr ⟨h2c,(o8 (by omega)).2 ⟨x,hm,by simp only[refs2,dc]; exact .inl hi⟩⟩
   ·have hea:agE E true fid o=false:=by
     unfold agE
     cases ho:o.op<;>first|rfl|(exfalso; apply h2c; rw[ho]; rfl)
    rw[hea]
    have hb:∀ty n ps,o.op=.buildSlice ty n ps→ps.toList.all (fun p=>!vq (ev t p.2))=true:=fun ty n ps ho=>by
     have h1:=hw;unfold qF at h1;rw[ho] at h1;have hb1:Nat.ble 1 (cls E (.buildSlice ty n ps))=true:=rfl;simp only[hb1,Bool.and_eq_true,Ti] at h1;exact h1.2
    refine op_par (P:=E.P) (E:=E) (o:=o.op) (nid:=nid) (σ:=AV×St) (σ2:=AV×St) (K:=fun v S=>some (v,S)) (K2:=fun v S=>some (v,S))
     (R:=fun x y=>∃φ:Option (AV×List (Nat×Blk)),(∀r,φ=some r→∀p∈r.2,(p.1=nid∧ē E.clone o.op=true)∨(cls E o.op=2∧p.1∈Fp E {t:=t,h:=h} o.op))∧x=φ.map (fun r=>(r.1,({t:=t,h:=aps r.2 h}:St)))∧y=φ.map fun r=>(r.1,({t:=t2,h:=aps r.2 h2}:St)))
     ⟨none,by simp,rfl,rfl⟩ (by omega) hcall hx (fun h1 x hm=>(hs (by omega) x hm).one) hb fun v ef hef=>⟨some (v,efU nid ef),fun r hr' p hp=>?_,by rw[aiP]; rfl,by rw[aiP]; rfl⟩
    cases hr'
    cases ef with
    |none=>cases hp
    |some B =>
     simp only[efU,dh] at hp;subst hp;exact .inl ⟨rfl,hef rfl⟩
  cases ho:o.op with
  |call c =>
   obtain⟨f,args,tys⟩:=c
   cases f with
   |value f =>
    cases f with
    |func g =>
     rw[ho] at hx hs hcl;have hxa:∀x∈args.toList,ev t2 x=ev t x:=fun x hm=>hx x (by simp[Op.operands,Call.operands]; exact .inr (by simpa using hm))
     have hmem:∀x∈args.toList,x∈(Op.call ⟨.value (.func g),args,tys⟩).operands.toList:=fun x hm=>by simp[Op.operands,Call.operands]; exact .inr (by simpa using hm)
     have he:=WG hxa
     cases hc:E.clone g with
     |true =>
      have hcls:cls E (.call ⟨.value (.func g),args,tys⟩)=1:=by simp[cls,hc]
      have hr:∀(S:St),qF E S o.op=true→∀K,jT E call fid path true S nid o K=match args.toList with
       |[x]=>AG E.P g (E.eat fid (o.dst.getD 0)) S nid (ev S.t x) K
       |_=>none:=fun S hS K=>by
       unfold jT;simp only[hS,Bool.not_true,Bool.and_false];rw[ho];simp only[ev,hc,aoT,Bool.and_self];rfl
      generalize hl:args.toList=l at hr he hxa hmem;rcases l with _|⟨x,_|⟨y,l⟩⟩
      ·exact .no (fun K=>hr _ hw K) (fun K=>hr _ hwf K)
      ·have hsx:=(hs (by omega) x (hmem x (by simp))).one;have e1:=hxa x (by simp)
       obtain⟨φ,h1,h2',h3⟩:=amF (P:=E.P) (g:=g) (fz:=E.eat fid (o.dst.getD 0)) (nid:=nid) (t:=t) (t2:=t2) (σ:=AV×St) (σ2:=AV×St) (K:=fun v S=>some (v,S)) (K2:=fun v S=>some (v,S))
        (R:=fun x y=>∃φ:Option (AV×List (Nat×Blk)),(∀r,φ=some r→∀p∈r.2,p.1=nid)∧x=φ.map (fun r=>(r.1,({t:=t,h:=aps r.2 h}:St)))∧y=φ.map fun r=>(r.1,{t:=t2,h:=aps r.2 h2}))
        ⟨none,by simp,rfl,rfl⟩ hsx fun v ef=>⟨some (v,efU nid ef),fun r hr' p hp=>by
         cases hr'
         cases ef with
         |none=>cases hp
         |some B=>simp only[efU,dh] at hp; rw[hp],by rw[aiP]; rfl,by rw[aiP]; rfl⟩
       refine⟨φ,fun r hr' p hp=>.inl ⟨h1 r hr' p hp,by simpa[ē] using hc⟩,fun K=>?_,fun K=>?_⟩
       ·rw[hr _ hw];simp only;rw[LC,h2']
        cases φ<;>rfl
       ·rw[hr _ hwf];simp only[e1];rw[LC,h3]
        cases φ<;>rfl
      ·exact .no (fun K=>hr _ hw K) (fun K=>hr _ hwf K)
     |false =>
      have hr:∀(S:St),qF E S o.op=true→∀K,jT E call fid path true S nid o K=call path true g (args.toList.map (ev S.t)) S.h fun v h=>K v {t:=S.t,h:=h}:=fun S hS K=>by
       unfold jT;simp only[hS,Bool.not_true,Bool.and_false];rw[ho];simp only[ev,hc,aoT,Bool.false_and,List.nil_append,List.append_nil]
      rcases hpe with hpe|⟨hpe,hse,hce⟩
      ·exact .no (fun K=>by rw[hr _ hw]; exact hpe _ _ _ _ _ _) (fun K=>by rw[hr _ hwf]; exact hpe _ _ _ _ _ _)
      cases hp:E.pure g with
      |none =>
       have h1c:1≤cls E (.call ⟨.value (.func g),args,tys⟩):=by simp only[cls,hc,hp]; cases E.sort g<;>cases E.compact g<;>simp
       have row:∀(f:List Blk→AV→(AV→List Blk→Option ρ)→Option ρ),(∀S K,qF E S o.op=true→jT E call fid path true S nid o K=match args.toList.map (ev S.t) with|[x]=>f S.h x fun v h=>K v {t:=S.t,h:=h}|_=>none)→cls E (.call ⟨.value (.func g),args,tys⟩)=2 →
        (∀x,(∀id∈refs1 x,lkB h2 id=lkB h id)→∃φ:Option (AV×List (Nat×Blk)),(∀r,φ=some r→∀p∈r.2,p.1∈refs1 x)∧(∀K,f h x K=φ.bind fun r=>K r.1 (aps r.2 h))∧∀K,f h2 x K=φ.bind fun r=>K r.1 (aps r.2 h2)) →
        Loc E (.call ⟨.value (.func g),args,tys⟩) nid t h t2 h2 (jT E call fid path true {t:=t,h:=h} nid o) (jT E call fid path true {t:=t2,h:=h2} nid o):=by
        intro f hf h2c hloc;generalize hl:args.toList=l at hf he hmem;rcases l with _|⟨x,_|⟨y,l⟩⟩
        ·exact .no (fun K=>hf _ K hw) (fun K=>hf _ K hwf)
        ·obtain⟨φ,q1,q2,q3⟩:=hloc (ev t x) (hs h1c x (hmem x (by simp))).one;refine⟨φ,fun r hr' p hp=>.inr ⟨h2c,(o8 h1c).2 ⟨x,hmem x (by simp),by simp only[refs2,dc]; exact .inl (q1 r hr' p hp)⟩⟩,fun K=>?_,fun K=>?_⟩
         ·rw[hf _ K hw];exact q2 _
         ·rw[hf _ K hwf];simp only[he];exact q3 _
        ·exact .no (fun K=>hf _ K hw) (fun K=>hf _ K hwf)
       cases hso:E.sort g with
       |true =>
        refine row XP (fun S K hS=>(hr S hS K).trans (hse g hp hso path true _ S.h _)) (by simp[cls,hc,hp,hso]) fun x hx1=>?_;unfold XP
        cases x with
        |own id g =>
         have e3:=hx1 id (by simp[refs1,ķ]);simp only[e3]
         cases lkB h id with
         |row ty g' fz xs =>
          cases fz<;>simp only
          ·split
           ·split
            ·split
             ·exact⟨some (_,[(id,_)]),by simp[refs1,ķ],fun K=>rfl,fun K=>rfl⟩
             ·exact⟨none,by simp,fun K=>rfl,fun K=>rfl⟩
            ·exact⟨none,by simp,fun K=>rfl,fun K=>rfl⟩
           ·exact⟨none,by simp,fun K=>rfl,fun K=>rfl⟩
          ·exact⟨none,by simp,fun K=>rfl,fun K=>rfl⟩
         |_=>exact⟨none,by simp,fun K=>rfl,fun K=>rfl⟩
        |nils=>exact⟨some (_,[]),by simp,fun K=>rfl,fun K=>rfl⟩
        |_=>exact⟨none,by simp,fun K=>rfl,fun K=>rfl⟩
       |false =>
        cases hco:E.compact g with
        |true =>
         refine row pj (fun S K hS=>(hr S hS K).trans (hce g hp hso hco path true _ S.h _)) (by simp[cls,hc,hp,hso,hco]) fun x hx1=>?_;unfold pj
         cases x with
         |own id g =>
          have e3:=hx1 id (by simp[refs1,ķ]);simp only[e3]
          cases lkB h id with
          |row ty g' fz xs =>
           cases fz<;>simp only
           ·split
            ·split
             ·split
              ·exact⟨some (_,[(id,_)]),by simp[refs1,ķ],fun K=>rfl,fun K=>rfl⟩
              ·exact⟨none,by simp,fun K=>rfl,fun K=>rfl⟩
             ·exact⟨none,by simp,fun K=>rfl,fun K=>rfl⟩
            ·exact⟨none,by simp,fun K=>rfl,fun K=>rfl⟩
           ·exact⟨none,by simp,fun K=>rfl,fun K=>rfl⟩
          |_=>exact⟨none,by simp,fun K=>rfl,fun K=>rfl⟩
         |nils=>exact⟨some (_,[]),by simp,fun K=>rfl,fun K=>rfl⟩
         |_=>exact⟨none,by simp,fun K=>rfl,fun K=>rfl⟩
        |false=>simp[cls,hc,hp,hso,hco] at hcl
      |some p =>
       have h1c:1≤cls E (.call ⟨.value (.func g),args,tys⟩):=by simp only[cls,hc,hp]; cases E.fz g<;>simp
       have hsa:∀a∈args.toList.map (ev t),nZ h h2 a:=fun a ha=>by
        obtain⟨x,hm,rfl⟩:=dM.1 ha;exact hs h1c x (hmem x hm)
       obtain⟨u,f1,f2,f3⟩:=aar (cs:=(args.toList.map (ev t)).flatMap lY) hlen fun c hcm id hi=>by
        obtain⟨a,ha,hca⟩:=dv.1 hcm;refine(hsa a ha).one id ?_
        cases a<;>first
         |(simp only[lY,dh] at hca; subst hca; exact hi)
         |(simp only[lY,dh] at hca; subst hca; cases hi; done)
         |exact dv.2 ⟨c,hca,hi⟩
       have f3':∀q∈u,∃x∈args.toList,q.1∈refs2 h (ev t x):=fun q hq=>by
        obtain⟨c,hcm,hi⟩:=f3 q hq;obtain⟨a,ha,hca⟩:=dv.1 hcm;obtain⟨x,hm,rfl⟩:=dM.1 ha;refine⟨x,hm,?_⟩;simp only[refs2,dc];left;generalize ev t x=a at hca
        cases a<;>first
         |(simp only[lY,dh] at hca; subst hca; exact hi)
         |(simp only[lY,dh] at hca; subst hca; cases hi; done)
         |exact dv.2 ⟨c,hca,hi⟩
       have hpk:∀(b:Bool) (h':List Blk),Ju h' p.ts (args.toList.map (ev t))=Ju h p.ts (args.toList.map (ev t))→Bk h' ((args.toList.map (ev t)).flatMap lY)=aps u h'→∀(K:AV→List Blk→Option ρ),
        XY b p h' (args.toList.map (ev t)) K=(match Ju h p.ts (args.toList.map (ev t)) with
        |some x=>(p.F x).bind fun y=>match PA (ae7 p.rs y) with
         |true=>some (ae7 p.rs y,[])
         |false=>match (args.toList.map (ev t)).all (fun a=>!vq a) with
          |true=>some (ae7 p.rs y,[])
          |false=>match b||!(args.toList.map (ev t)).all alr with
           |true=>none
           |false=>some (ae7 p.rs y,u)
        |none=>none).bind fun r=>K r.1 (aps r.2 h'):=fun b h' ha hf K=>by
        unfold XY Ã;rw[ha,hf]
        cases Ju h p.ts (args.toList.map (ev t)) with
        |none=>rfl
        |some x =>
         simp only
         cases p.F x with
         |none=>rfl
         |some y =>
          simp only[eR]
          cases PA (ae7 p.rs y) with
          |true=>rfl
          |false=>cases(args.toList.map (ev t)).all (fun a=>!vq a) with
           |true=>rfl
           |false=>cases b||!(args.toList.map (ev t)).all alr<;>rfl
       refine⟨_,?_,fun K=>(hr _ hw K).trans ((hpe g p hp path true _ h _).trans (hpk (true&&!E.fz g) h rfl f1 _)),fun K=>(hr _ hwf K).trans (by simp only[he]; exact(hpe g p hp path true _ h2 _).trans (hpk (true&&!E.fz g) h2 (XF hsa) f2 _))⟩;intro r hr1 q hq
       have hcase:r.2=[]∨(E.fz g=true∧r.2=u):=by
        cases hA:Ju h p.ts (args.toList.map (ev t)) with
        |none=>rw[hA] at hr1; cases hr1
        |some x =>
         rw[hA] at hr1;simp only at hr1
         cases hF:p.F x with
         |none=>rw[hF] at hr1; cases hr1
         |some y =>
          rw[hF] at hr1;simp only[eR] at hr1
          split at hr1
          ·cases hr1; exact .inl rfl
          ·split at hr1
           ·cases hr1; exact .inl rfl
           ·split at hr1
            ·cases hr1
            ·rename_i hb;cases hr1;simp only[dX,gn,fC] at hb;exact .inr ⟨hb.1,rfl⟩
       rcases hcase with hz|⟨hfz,hz⟩
       ·rw[hz] at hq; cases hq
       ·rw[hz] at hq;obtain⟨x,hm,hi⟩:=f3' q hq;exact .inr ⟨by simp[cls,hc,hp,hfz],(o8 h1c).2 ⟨x,hmem x hm,hi⟩⟩
    |tmp s =>
     rw[ho] at hx hs hcl
     obtain⟨g,hg⟩:∃g,E.hint s=some g:=by
      cases hh:E.hint s with
      |none=>simp[cls,hh] at hcl
      |some g=>exact⟨g,rfl⟩
     have hpf:(E.pure g).isSome=true∧E.fz g=false:=by
      simp only[cls,hg] at hcl
      split at hcl
      ·rename_i hb; simpa using hb
      ·omega
     obtain⟨hpg,hfz⟩:=hpf;obtain⟨p,hp⟩:=gF.1 hpg
     have hcls:cls E (.call ⟨.value (.tmp s),args,tys⟩)=1:=by simp[cls,hg,hp,hfz]
     have hmem:∀x∈args.toList,x∈(Op.call ⟨.value (.tmp s),args,tys⟩).operands.toList:=fun x hm=>by simp[Op.operands,Call.operands]; exact .inr (by simpa using hm)
     have hms:Operand.tmp s∈(Op.call ⟨.value (.tmp s),args,tys⟩).operands.toList:=by simp[Op.operands,Call.operands]
     have he:=WG fun x hm=>hx x (hmem x hm)
     have hnf:Ti E t (.call ⟨.value (.tmp s),args,tys⟩)=true:=by
      have h1:=hw;unfold qF at h1;rw[ho] at h1
      have hb1:Nat.ble 1 (cls E (.call ⟨.value (.tmp s),args,tys⟩))=true:=by rw[hcls]; rfl
      simp only[hb1,cW] at h1;exact h1.2
     simp only[Ti,hg] at hnf
     split at hnf<;>try (cases hnf; done)
     rename_i g' fa fb hfn;simp only[cW,dL] at hnf;obtain⟨hgg,hna,hnb⟩:=hnf;have hgg:g'=g:=dk hgg;subst hgg;have hfn2:=(hx _ hms).trans hfn
     have hr:∀(S:St),qF E S o.op=true→ev S.t (.tmp s)=.fn (.func g') fa fb→∀K,jT E call fid path true S nid o K=call path true g' (fa++(args.toList.map (ev S.t)++fb)) S.h fun v h=>K v {t:=S.t,h:=h}:=fun S hS hSf K=>by
      unfold jT;simp only[hS,Bool.not_true,Bool.and_false];rw[ho];simp only[hSf,aoT,Bool.and_false]
     rcases hpe with hpe|⟨hpe,hse,hce⟩
     ·exact .no (fun K=>by rw[hr _ hw hfn]; exact hpe _ _ _ _ _ _) (fun K=>by rw[hr _ hwf hfn2]; exact hpe _ _ _ _ _ _)
     have hcap:∀v,(v∈fa∨v∈fb)→aqN v=true→nZ h h2 v:=fun v hv hn id hi=>by
      refine hs (by omega) _ hms id ?_;rw[hfn]
      have e1:Go.Am.refs1 v=ak4 v:=by cases v<;>first|rfl|cases hn
      simp only[refs2,dc,dv,e1] at hi ⊢
      have hsub:∀i,i∈ak4 v→i∈Go.Am.refs1 (.fn (.func g') fa fb):=fun i hi=>by
       simp only[Go.Am.refs1,dc,dv];exact hv.imp (fun h=>⟨v,h,hi⟩) fun h=>⟨v,h,hi⟩
      rcases hi with hi|⟨i,hi,q⟩
      ·exact .inl (hsub _ hi)
      ·exact .inr ⟨i,hsub _ hi,q⟩
     have hsa:∀a∈fa++(args.toList.map (ev t)++fb),nZ h h2 a:=fun a ha=>by
      rcases dc.1 ha with ha|ha
      ·exact hcap a (.inl ha) (hna a ha)
      ·rcases dc.1 ha with ha|ha
       ·obtain⟨x,hm,rfl⟩:=dM.1 ha;exact hs (by omega) x (hmem x hm)
       ·exact hcap a (.inr ha) (hnb a ha)
     have hpk:∀(h':List Blk),Ju h' p.ts (fa++(args.toList.map (ev t)++fb))=Ju h p.ts (fa++(args.toList.map (ev t)++fb))→∀(K:AV→List Blk→Option ρ),
      XY (true&&!E.fz g') p h' (fa++(args.toList.map (ev t)++fb)) K=(match Ju h p.ts (fa++(args.toList.map (ev t)++fb)) with
      |some x=>(p.F x).bind fun y=>match PA (ae7 p.rs y) with
       |true=>some (ae7 p.rs y,([]:List (Nat×Blk)))
       |false=>match (fa++(args.toList.map (ev t)++fb)).all (fun a=>!vq a) with
        |true=>some (ae7 p.rs y,[])
        |false=>none
      |none=>none).bind fun r=>K r.1 (aps r.2 h'):=fun h' ha K=>by
      unfold XY Ã;rw[ha,hfz]
      cases Ju h p.ts (fa++(args.toList.map (ev t)++fb)) with
      |none=>rfl
      |some x =>
       simp only
       cases p.F x with
       |none=>rfl
       |some y =>
        simp only[eR]
        cases PA (ae7 p.rs y) with
        |true=>rfl
        |false=>cases(fa++(args.toList.map (ev t)++fb)).all (fun a=>!vq a)<;>rfl
     refine⟨_,?_,fun K=>(hr _ hw hfn K).trans ((hpe g' p hp path true _ h _).trans (hpk h rfl _)),fun K=>(hr _ hwf hfn2 K).trans (by simp only[he]; exact(hpe g' p hp path true _ h2 _).trans (hpk h2 (XF hsa) _))⟩;intro r hr1 q hq;exfalso
     cases hA:Ju h p.ts (fa++(args.toList.map (ev t)++fb)) with
     |none=>rw[hA] at hr1; cases hr1
     |some x =>
      rw[hA] at hr1;simp only at hr1
      cases hF:p.F x with
      |none=>rw[hF] at hr1; cases hr1
      |some y =>
       rw[hF] at hr1;simp only[eR] at hr1
       split at hr1
       ·cases hr1; cases hq
       ·split at hr1<;>cases hr1
        cases hq
    |_=>rw[ho] at hcl; simp[cls] at hcl
   |_=>exact ho▸plain fun _ _ _ hf=>by rw[ho] at hf; cases hf
  |_=>exact ho▸plain fun _ _ _ hf=>by rw[ho] at hf; cases hf
def aqs {l:List Operand} (ht:∀s∈V1 l,lk t2 s=lk t s):∀x∈l,ev t2 x=ev t x:=by
 induction l with
 |nil=>intro x hm; cases hm
 |cons y l ih =>
  intro x hm;rcases df.1 hm with rfl|hm
  ·cases x with
   |tmp i=>exact ht i (by simp[V1])
   |_=>rfl
  ·refine ih (fun s hs=>ht s ?_) x hm
   cases y<;>simp[V1,hs]
def ahk:∀(t:List AV) {d d':Nat} (v v':AV),d≠d'→upd (upd t d v) d' v'=upd (upd t d' v') d v
 |[],_,_,_,_,_=>rfl
 |_::_,0,0,_,_,h=>absurd rfl h
 |_::_,0,_+1,_,_,_=>rfl
 |_::_,_+1,0,_,_,_=>rfl
 |x::t,d+1,d'+1,v,v',h=>by simp only[upd]; rw[ahk t v v' (by omega)]
def abl:∀(t:List Blk) {d d':Nat} (v v':Blk),d≠d'→Ē (Ē t d v) d' v'=Ē (Ē t d' v') d v
 |[],_,_,_,_,_=>rfl
 |_::_,0,0,_,_,h=>absurd rfl h
 |_::_,0,_+1,_,_,_=>rfl
 |_::_,_+1,0,_,_,_=>rfl
 |x::t,d+1,d'+1,v,v',h=>by simp only[Ē]; rw[abl t v v' (by omega)]
def afl {da db:Option Nat} (hd:∀x,da=some x→db≠some x) (va vb:AV):Ğ (Ğ t da va) db vb=Ğ (Ğ t db vb) da va:=by
 cases da with
 |none=>rfl
 |some x=>cases db with
  |none=>rfl
  |some y=>exact ahk t va vb fun h=>hd x rfl (by rw[h])
def Pw {d:Option Nat} {s:Nat} (hd:d≠some s) (v:AV):lk (Ğ t d v) s=lk t s:=by
 cases d with
 |none=>rfl
 |some x =>
  simp only[Ğ,alR];rw[if_neg];rintro⟨rfl,_⟩;exact hd rfl
def aiO:∀{u v:List (Nat×Blk)} {h:List Blk},(∀p∈u,∀q∈v,p.1≠q.1)→aps v (aps u h)=aps u (aps v h)
 |[],_,_,_=>rfl
 |p::u,v,h,hn=>by
  show aps v (aps u (Ē h p.1 p.2))=aps u (Ē (aps v h) p.1 p.2);rw[aiO fun q hq=>hn q (by simp[hq])];congr 1
  have:∀(v:List (Nat×Blk)) (h:List Blk),(∀q∈v,p.1≠q.1)→aps v (Ē h p.1 p.2)=Ē (aps v h) p.1 p.2:=by
   intro v
   induction v with
   |nil=>intro h _; rfl
   |cons q v ih =>
    intro h hq;show aps v (Ē (Ē h p.1 p.2) q.1 q.2)=Ē (aps v (Ē h q.1 q.2)) p.1 p.2;rw[abl _ _ _ (hq q (by simp)),ih _ fun r hr=>hq r (by simp[hr])]
  exact this v h (hn p (by simp))
def jR (all:List Oper) (o:Oper) (t:List AV):Option Bool :=
 match o.guard with
 |none=>some true
 |some (j,want)=>match lk t (uS all j) with
  |.bool b=>some (b==want)
  |.und=>some false
  |_=>none
def E9 (E:Env ρ) (all:List Oper) (o:Oper) (S:St):List Nat :=
 match jR all o S.t with
 |some true=>Fp E S o.op
 |_=>[]
def Np (E:Env ρ) (call:List Nat→Bool→Nat→List AV→List Blk→(AV→List Blk→Option ρ)→Option ρ) (fid:Nat) (path:List Nat) (all:List Oper) (bef:List Nat) (acc:List (Nat×List Nat)) (i nid:Nat) (o:Oper) (S:St) (K:List Nat→St→Option ρ):Option ρ :=
 match jR all o S.t==some true&&!chk E all bef acc i (Fp E S o.op) with
 |true=>none
 |false=>DP E call fid path true all i nid o S (K (E9 E all o S))
def ale {E:Env ρ} {call:List Nat→Bool→Nat→List AV→List Blk→(AV→List Blk→Option ρ)→Option ρ} {fid:Nat} {path:List Nat} {all:List Oper} {bef:List Nat} {o:Oper} {os:List Oper} {i nid:Nat} {acc:List (Nat×List Nat)} {S:St} {K:St→Option ρ} :
 alf E call fid path all bef (o::os) i nid acc S K=Np E call fid path all bef acc i nid o S fun F S'=>alf E call fid path all bef os (i+1) (bif ē E.clone o.op then nid+1 else nid) ((i,F)::acc) S' K:=by
 have hself:∀d b,lk S.t d=.bool b→({t:=upd S.t d (.bool b),h:=S.h}:St)=S:=fun d b hb=>by rw[←hb,Fq]
 have htself:∀d b,lk S.t d=.bool b→upd S.t d (.bool b)=S.t:=fun d b hb=>by rw[←hb,Fq]
 simp only[alf,Np,DP,E9,jR]
 cases o.guard with
 |none=>cases chk E all bef acc i (Fp E S o.op)<;>rfl
 |some g =>
  obtain⟨j,want⟩:=g;simp only
  cases hb:lk S.t (uS all j)<;>try rfl
  rename_i b;have h1:=hself _ b hb;have h2:=htself _ b hb
  cases b<;>cases want<;>simp only[h1,h2]<;>first
   |rfl
   |(cases chk E all bef acc i (Fp E S o.op)<;>rfl)
def SU {E:Env ρ} {o:Op} (hx:∀x∈o.operands.toList,ev t2 x=ev t x) (hs:1≤cls E o→∀x∈o.operands.toList,nZ h h2 (ev t x)):Fp E {t:=t2,h:=h2} o=Fp E {t:=t,h:=h} o:=by
 unfold Fp
 split
 ·rename_i hc;have hc1:1≤cls E o:=fO hc
  have:∀l:List Operand,(∀x∈l,x∈o.operands.toList)→(l.flatMap fun x=>refs2 h2 (ev t2 x))=l.flatMap fun x=>refs2 h (ev t x):=by
   intro l
   induction l with
   |nil=>intro _; rfl
   |cons x l ih =>
    intro hl;simp only[dK];rw[hx x (hl x (by simp)),(hs hc1 x (hl x (by simp))).refs,ih fun y hy=>hl y (by simp[hy])]
  exact this _ fun _ h=>h
 ·rfl
def aco {all:List Oper} {o:Oper} (ht:∀s∈lf all o,lk t2 s=lk t s):∀x∈o.op.operands.toList,ev t2 x=ev t x:=aqs fun s hm=>ht s (by simp only[lf,dc]; exact .inr hm)
def AX {all:List Oper} {o:Oper} (ht:∀s∈lf all o,lk t2 s=lk t s):jR all o t2=jR all o t:=by
 unfold jR
 cases hg:o.guard with
 |none=>rfl
 |some g =>
  obtain⟨j,want⟩:=g;simp only;rw[ht _ (by simp[lf,hg])]
def an3 {E:Env ρ} {o:Op} (hc:1≤cls E o) (hw:qF E {t:=t,h:=h} o=true):∀id∈Fp E {t:=t,h:=h} o,lkB h id≠.dead:=fun id hi hd=>by
 obtain⟨x,hm,hi⟩:=(o8 hc).1 hi;unfold qF at hw;have hb1:Nat.ble 1 (cls E o)=true:=Nat.ble_eq_true_of_le hc;simp only[hb1,Bool.and_eq_true,List.all_eq_true] at hw;have:=hw.1 x hm id hi;rw[hd] at this;cases this
def OO {E:Env ρ} {call:List Nat→Bool→Nat→List AV→List Blk→(AV→List Blk→Option ρ)→Option ρ} {fid:Nat} {path:List Nat} {all:List Oper} {i nid:Nat} {o:Oper} (r0:ρ)
 (hpe:anO E call) (hcl:cls E o.op≤2) (hlen:h2.length=h.length) (ht:∀s∈lf all o,lk t2 s=lk t s)
 (hs:jR all o t=some true→1≤cls E o.op→∀x∈o.op.operands.toList,nZ h h2 (ev t x)) :
 ∃φ:Option (AV×List (Nat×Blk)),(∀r,φ=some r→∀p∈r.2,(p.1=nid∧ē E.clone o.op=true)∨(cls E o.op=2∧p.1∈E9 E all o {t:=t,h:=h})) ∧
  (∀r,φ=some r→∀id∈E9 E all o {t:=t,h:=h},lkB h id≠.dead) ∧
  (∀K,DP E call fid path true all i nid o {t:=t,h:=h} K=φ.bind fun r=>K {t:=Ğ t o.dst r.1,h:=aps r.2 h}) ∧
  ∀K,DP E call fid path true all i nid o {t:=t2,h:=h2} K=φ.bind fun r=>K {t:=Ğ t2 o.dst r.1,h:=aps r.2 h2}:=by
 have hx:=aco (t:=t) (t2:=t2) (o:=o) ht;have hwt:=AX (t:=t) (t2:=t2) (o:=o) ht
 cases hw:jR all o t with
 |none =>
  rw[hw] at hwt
  have:∀(S:St),jR all o S.t=none→∀K,DP E call fid path true all i nid o S K=none:=fun S hS K=>by
   unfold jR at hS;unfold DP
   cases hg:o.guard with
   |none=>rw[hg] at hS; cases hS
   |some g =>
    obtain⟨j,want⟩:=g;rw[hg] at hS;simp only at hS ⊢
    cases hb:lk S.t (uS all j)<;>rw[hb] at hS<;>first|rfl|cases hS
  exact⟨none,by simp,by simp,fun K=>this _ hw K,fun K=>this _ hwt K⟩
 |some b =>
  cases b with
  |false =>
   rw[hw] at hwt
   have:∀(S:St),jR all o S.t=some false→∀K,DP E call fid path true all i nid o S K=K {t:=Ğ S.t o.dst .und,h:=S.h}:=fun S hS K=>by
    unfold jR at hS;unfold DP
    cases hg:o.guard with
    |none=>rw[hg] at hS; cases hS
    |some g =>
     obtain⟨j,want⟩:=g;rw[hg] at hS;simp only at hS ⊢
     cases hb:lk S.t (uS all j)<;>rw[hb] at hS<;>first|rfl|(cases hS; done)|skip
     simp only[Option.some.injEq] at hS ⊢;rw[hS]
   refine⟨some (.und,[]),?_,?_,fun K=>this _ hw K,fun K=>this _ hwt K⟩
   ·intro r hr p hp;cases hr;cases hp
   ·intro r hr id hi;simp only[E9,hw] at hi;cases hi
  |true =>
   rw[hw] at hwt
   have hst:∀(S:St),jR all o S.t=some true→∀K,DP E call fid path true all i nid o S K=jT E call fid (path++[i]) true S nid o fun v S=>K {t:=Ğ S.t o.dst v,h:=S.h}:=fun S hS K=>by
    unfold jR at hS;unfold DP
    cases hg:o.guard with
    |none=>rfl
    |some g =>
     obtain⟨j,want⟩:=g;rw[hg] at hS;simp only at hS ⊢
     cases hb:lk S.t (uS all j)<;>rw[hb] at hS<;>first|(cases hS; done)|skip
     simp only[Option.some.injEq] at hS ⊢;rw[hS]
   obtain⟨φ,h1,h2',h3⟩:=aqy (fid:=fid) (path:=path++[i]) (nid:=nid) hpe hcl hlen hx (hs hw)
   have hfp:E9 E all o {t:=t,h:=h}=Fp E {t:=t,h:=h} o.op:=by simp only[E9,hw]
   refine⟨φ,fun r hr p hp=>?_,fun r hr id hi=>?_,fun K=>by rw[hst _ hw,h2'],fun K=>by rw[hst _ hwt,h3]⟩
   ·rw[hfp]; exact h1 r hr p hp
   ·rw[hfp] at hi
    by_cases hc:1≤cls E o.op
    ·refine an3 hc ?_ id hi
     cases hwf:qF E {t:=t,h:=h} o.op with
     |true=>rfl
     |false =>
      exfalso;have hk:=h2' fun v S=>some r0;rw[hr] at hk;simp[jT,hwf] at hk
    ·rw[amd (by omega)] at hi;cases hi
def AF:∀{l m:List Nat},disj l m=true↔∀x∈l,x∉m
 |[],m=>by simp[disj]
 |x::l,m=>by
  simp only[disj,cW,eO,ew,df,forall_eq_or_imp,AF (l:=l)];refine and_congr_left fun _=>⟨fun h hm=>h x hm (Nat.beq_refl x),fun h y hy he=>?_⟩;have:=dk he;subst this;exact h hy
structure arx (E:Env ρ) (all:List Oper) (bef:List Nat) (ia ib:Nat) (a b:Oper):Prop where
 ha:all[ia]?=some a
 hb:all[ib]?=some b
 a3:cls E a.op≤2
 b3:cls E b.op≤2
 rb:∀s∈lf all b,a.dst≠some s
 ra:∀s∈lf all a,b.dst≠some s
 dd:∀x,a.dst=some x→b.dst≠some x
 bab:(bef.getD ib 0).testBit ia=false
 bba:(bef.getD ia 0).testBit ib=false
def aqg (E:Env ρ) (o:Op):cls E o≤3:=by
 cases o with
 |call c =>
  obtain⟨f,args,tys⟩:=c
  cases f with
  |value f=>cases f<;>simp only[cls]<;>(repeat' split)<;>omega
  |builtin b=>cases b<;>simp[cls]
  |_=>simp[cls]
 |_=>simp[cls]
def agP {E:Env ρ} {all:List Oper} {bef:List Nat} {ia ib:Nat} {a b:Oper} (hc:apl E all a b=false) (ha:all[ia]?=some a) (hb:all[ib]?=some b) (h1:(bef.getD ib 0).testBit ia=false) (h2:(bef.getD ia 0).testBit ib=false):arx E all bef ia ib a b:=by
 unfold apl at hc;simp only[Bool.or_eq_false_iff,beq_eq_false_iff_ne] at hc;obtain⟨⟨⟨⟨_,h3⟩,h5⟩,h6⟩,h7⟩:=hc;have qa:=aqg E a.op;have qb:=aqg E b.op;refine⟨ha,hb,by omega,by omega,fun s hs hd=>?_,fun s hs hd=>?_,fun x hx hy=>?_,h1,h2⟩
 ·rw[hd] at h5;simp[aoG,hs] at h5
 ·rw[hd] at h6;simp[aoG,hs] at h6
 ·rw[hx,hy] at h7;simp at h7
def FG {E:Env ρ} {all:List Oper} {bef:List Nat} {j i:Nat} {a b:Oper} {Fj Fi:List Nat} (hp:FH E all bef j i Fj Fi=true) (ha:all[j]?=some a) (hb:all[i]?=some b) (h1:(bef.getD j 0).testBit i=false) (h2:(bef.getD i 0).testBit j=false)
 (hc:DJ E a.op b.op=true):∀x∈Fj,x∉Fi:=by
 unfold FH at hp;simp only[ha,hb,hc,h1,h2,Bool.not_true,Bool.false_or] at hp;exact AF.1 hp
def agQ {E:Env ρ} {a b:Op}:DJ E a b=DJ E b a:=by
 unfold DJ; cases cls E a==2<;>cases cls E b==2<;>cases Nat.ble 1 (cls E a)<;>cases Nat.ble 1 (cls E b)<;>rfl
def afw {E:Env ρ} {all:List Oper} {bef:List Nat} {j i:Nat} {Fj Fi:List Nat} (hp:FH E all bef j i Fj Fi=true):FH E all bef i j Fi Fj=true:=by
 unfold FH at hp ⊢
 cases ha:all[j]? with
 |none=>rw[ha] at hp; cases hp
 |some a=>cases hb:all[i]? with
  |none=>rw[ha,hb] at hp; cases hp
  |some b =>
   rw[ha,hb] at hp;simp only[Bool.or_eq_true,eO] at hp ⊢;rw[agQ];rcases hp with hp|hp|hp|hp
   ·exact .inl hp
   ·exact .inr (.inr (.inl hp))
   ·exact .inr (.inl hp)
   ·exact .inr (.inr (.inr (AF.2 fun x hx hy=>AF.1 hp x hy hx)))
def pC {E:Env ρ} {a b:Op}:DJ E a b=true↔(cls E a=2∧1≤cls E b)∨(1≤cls E a∧cls E b=2):=by
 unfold DJ;simp only[Bool.or_eq_true,Bool.and_eq_true,beq_iff_eq,Nat.ble_eq]
def xb {E:Env ρ} {all:List Oper} {bef:List Nat} {acc:List (Nat×List Nat)} {p:Nat×List Nat} {i:Nat} {F:List Nat}:chk E all bef (p::acc) i F=(FH E all bef p.1 i p.2 F&&chk E all bef acc i F):=by
 simp[chk]
def Wf {E:Env ρ} {all:List Oper} {bef:List Nat} {j i:Nat} {a b:Oper} {Fj:List Nat} (ha:all[j]?=some a) (hb:all[i]?=some b):FH E all bef j i Fj []=true:=by
 unfold FH;simp only[ha,hb,Bool.or_eq_true];exact .inr (.inr (.inr (AF.2 fun x _=>by simp)))
def aek {E:Env ρ} {all:List Oper} {o:Oper} (ht:∀s∈lf all o,lk t2 s=lk t s) (hs:jR all o t=some true→1≤cls E o.op→∀x∈o.op.operands.toList,nZ h h2 (ev t x)):E9 E all o {t:=t2,h:=h2}=E9 E all o {t:=t,h:=h}:=by
 unfold E9;simp only[AX (t:=t) (t2:=t2) ht]
 cases hw:jR all o t with
 |none=>rfl
 |some b=>cases b with
  |false=>rfl
  |true=>exact SU (aco ht) (hs hw)
def swap {E:Env ρ} {call:List Nat→Bool→Nat→List AV→List Blk→(AV→List Blk→Option ρ)→Option ρ} {fid:Nat} {path:List Nat} {all:List Oper} {bef:List Nat} {acc:List (Nat×List Nat)} {ia na ib nb:Nat} {a b:Oper} {K:List Nat→List Nat→St→Option ρ} {r:ρ}
 (hpe:anO E call) (hc:arx E all bef ia ib a b) (hbd:ē E.clone b.op=true→lkB h nb=.dead) (hn:ē E.clone a.op=true→ē E.clone b.op=true→na≠nb)
 (hfar1:ē E.clone a.op=true→∀x∈b.op.operands.toList,na∉refs1 (ev t x))
 (hfar:1≤cls E b.op→ē E.clone a.op=true→(∀p∈acc,∀c,all[p.1]?=some c→DJ E c.op b.op=true→(bef.getD ib 0).testBit p.1=false→(bef.getD p.1 0).testBit ib=false→∀x∈b.op.operands.toList,∀id∈refs1 (ev t x),id∉p.2)→∀x∈b.op.operands.toList,na∉refs2 h (ev t x))
 (e:Np E call fid path all bef acc ia na a {t:=t,h:=h} (fun Fa S=>Np E call fid path all bef ((ia,Fa)::acc) ib nb b S (K Fa))=some r) :
 Np E call fid path all bef acc ib nb b {t:=t,h:=h} (fun Fb S=>Np E call fid path all bef ((ib,Fb)::acc) ia na a S fun Fa=>K Fa Fb)=some r:=by
 -- what a does
 obtain⟨φa,a0,a1,a2,_⟩:=OO (t:=t) (t2:=t) (h:=h) (h2:=h) (call:=call) (fid:=fid) (path:=path) (i:=ia) (nid:=na) (all:=all) r hpe hc.a3 rfl (fun _ _=>rfl) (fun _ _ _ _ _ _=>rfl);unfold Np at e
 split at e<;>try (cases e; done)
 rename_i hcha;rw[a2] at e;obtain⟨⟨va,ea⟩,q1,q2⟩:=δ e;simp only at q2
 split at q2<;>try (cases q2; done)
 rename_i hchb;have hal1:=a1 _ q1;have hea:=a0 _ q1;simp only at hea
 -- b looks at the same
 have htb:∀s∈lf all b,lk (Ğ t a.dst va) s=lk t s:=fun s hs=>Pw (hc.rb s hs) _;have htb':∀s∈lf all b,lk t s=lk (Ğ t a.dst va) s:=fun s hs=>(htb s hs).symm;have hxb:=aco htb;have hwb:jR all b (Ğ t a.dst va)=jR all b t:=AX htb
 have hne1:1≤cls E b.op→jR all b t=some true→chk E all bef ((ia,E9 E all a {t:=t,h:=h})::acc) ib (Fp E {t:=Ğ t a.dst va,h:=aps ea h} b.op)=true:=fun _ hw=>by
  rw[hwb,hw] at hchb;simpa using hchb
 have hone:jR all b t=some true→1≤cls E b.op→∀x∈b.op.operands.toList,∀id∈refs1 (ev t x),lkB (aps ea h) id=lkB h id:=fun hw h1 x hx id hi=>by
  refine XG fun p hp hid=>?_;rcases hea p hp with⟨h2,h3⟩|⟨h2,h3⟩
  ·exact hfar1 h3 x hx (by rw[←h2,hid]; exact hi)
  ·have hk:=hne1 h1 hw;rw[xb,cW] at hk;refine FG hk.1 hc.ha hc.hb hc.bba hc.bab (pC.2 (.inl ⟨h2,h1⟩)) p.1 h3 ?_;rw[hid];refine(o8 h1).2 ⟨x,hx,?_⟩;rw[hxb x hx];simp only[refs2,dc];exact .inl hi
 have hrefs:jR all b t=some true→1≤cls E b.op→∀x∈b.op.operands.toList,refs2 (aps ea h) (ev t x)=refs2 h (ev t x):=fun hw h1 x hx=>by
  have:∀(l:List Nat),(∀id∈l,lkB (aps ea h) id=lkB h id)→(l.flatMap fun id=>(Tu (lkB (aps ea h) id)).flatMap ķ)=l.flatMap fun id=>(Tu (lkB h id)).flatMap ķ:=by
   intro l
   induction l with
   |nil=>intro _; rfl
   |cons y l ih=>intro hl; simp only[dK]; rw[hl y (by simp),ih fun id hi=>hl id (by simp[hi])]
  simp only[refs2];rw[this _ (hone hw h1 x hx)]
 have hfar2:jR all b t=some true→1≤cls E b.op→ē E.clone a.op=true→∀x∈b.op.operands.toList,na∉refs2 h (ev t x):=fun hw h1 h2=>hfar h1 h2 fun p hp c hc1 hc2 hb1 hb2 x hx id hi hid=>by
  have hk:=hne1 h1 hw;rw[xb,cW] at hk;have hk2:=dL.1 hk.2 p hp;refine FG hk2 hc1 hc.hb hb2 hb1 hc2 id hid ((o8 h1).2 ⟨x,hx,?_⟩);rw[hxb x hx];simp only[refs2,dc];exact .inl hi
 have hsame:jR all b t=some true→1≤cls E b.op→∀x∈b.op.operands.toList,nZ h (aps ea h) (ev t x):=fun hw h1 x hx id hi=>by
  refine XG fun p hp hid=>?_;rcases hea p hp with⟨h2,h3⟩|⟨h2,h3⟩
  ·exact hfar2 hw h1 h3 x hx (by rw[←h2,hid]; exact hi)
  ·have hk:=hne1 h1 hw;rw[xb,cW] at hk;refine FG hk.1 hc.ha hc.hb hc.bba hc.bab (pC.2 (.inl ⟨h2,h1⟩)) p.1 h3 ?_;rw[hid];refine(o8 h1).2 ⟨x,hx,?_⟩;rw[hxb x hx,hrefs hw h1 x hx];exact hi
 -- what b does
 obtain⟨φb,b0,b1,b2,b3⟩:=OO (t:=t) (t2:=Ğ t a.dst va) (h:=h) (h2:=aps ea h) (call:=call) (fid:=fid) (path:=path) (i:=ib) (nid:=nb) (all:=all) r hpe hc.b3 (Lg _ _) htb hsame;have hfb:E9 E all b {t:=Ğ t a.dst va,h:=aps ea h}=E9 E all b {t:=t,h:=h}:=aek htb hsame;rw[b3] at q2;obtain⟨⟨vb,eb⟩,q3,q4⟩:=δ q2;simp only at q4;rw[hfb] at q4;have heb:=b0 _ q3;simp only at heb;have hfo:jR all b t=some true→Fp E {t:=Ğ t a.dst va,h:=aps ea h} b.op=Fp E {t:=t,h:=h} b.op:=fun hw=>SU hxb (hsame hw)
 -- a looks at the same
 have hta:∀s∈lf all a,lk (Ğ t b.dst vb) s=lk t s:=fun s hs=>Pw (hc.ra s hs) _
 have hdisj:DJ E a.op b.op=true→∀id∈E9 E all a {t:=t,h:=h},id∉E9 E all b {t:=t,h:=h}:=fun hcl id hi hj=>by
  unfold E9 at hj;simp only at hj
  split at hj
  ·rename_i hw
   have h1:1≤cls E b.op:=by rcases pC.1 hcl with h|h<;>omega
   have hk:=hne1 h1 hw;rw[xb,cW,hfo hw] at hk;exact FG hk.1 hc.ha hc.hb hc.bba hc.bab hcl id hi hj
  ·cases hj
 have hsamea:jR all a t=some true→1≤cls E a.op→∀x∈a.op.operands.toList,nZ h (aps eb h) (ev t x):=fun hw h1 x hx id hi=>by
  have hidF:id∈E9 E all a {t:=t,h:=h}:=by
   unfold E9;simp only[hw];exact(o8 h1).2 ⟨x,hx,hi⟩
  refine XG fun p hp hid=>?_;rcases heb p hp with⟨h2,h3⟩|⟨h2,h3⟩
  ·exact hal1 id hidF (by rw[←hid,h2]; exact hbd h3)
  ·exact hdisj (pC.2 (.inr ⟨h1,h2⟩)) id hidF (hid▸h3)
 obtain⟨φa',a0',a1',a2',a3'⟩:=OO (t:=t) (t2:=Ğ t b.dst vb) (h:=h) (h2:=aps eb h) (call:=call) (fid:=fid) (path:=path) (i:=ia) (nid:=na) (all:=all) r hpe hc.a3 (Lg _ _) hta hsamea;have hfa:E9 E all a {t:=Ğ t b.dst vb,h:=aps eb h}=E9 E all a {t:=t,h:=h}:=aek hta hsamea
 have h3:DP E call fid path true all ia na a {t:=t,h:=h} (fun S=>K (E9 E all a {t:=t,h:=h}) (E9 E all b {t:=t,h:=h}) {t:=Ğ S.t b.dst vb,h:=aps eb S.h})=some r:=by rw[a2,q1]; exact q4
 rw[a2'] at h3;obtain⟨⟨va',ea'⟩,q5,q6⟩:=δ h3;simp only at q6;have hea':=a0' _ q5;simp only at hea'
 have hcomm:aps eb (aps ea' h)=aps ea' (aps eb h):=aiO fun p hp q hq hpq=>by
  rcases hea' p hp with⟨h2,h3⟩|⟨h2,h3⟩<;>rcases heb q hq with⟨h4,h5⟩|⟨h4,h5⟩
  ·exact hn h3 h5 (by rw[←h2,←h4]; exact hpq)
  ·-- b would write a's new block
   have hw:jR all b t=some true:=by
    unfold E9 at h5;simp only at h5
    split at h5
    ·assumption
    ·cases h5
   have h5':q.1∈Fp E {t:=t,h:=h} b.op:=by
    unfold E9 at h5;simp only[hw] at h5;exact h5
   obtain⟨x,hx,hi⟩:=(o8 (by omega)).1 h5';exact hfar2 hw (by omega) h3 x hx (by rw[←h2,hpq]; exact hi)
  ·exact hal1 p.1 h3 (by rw[hpq,h4]; exact hbd h5)
  ·exact hdisj (pC.2 (.inl ⟨h2,by omega⟩)) p.1 h3 (by rw[hpq]; exact h5)
 rw[afl hc.dd,hcomm] at q6
 -- the checks
 have chb:(jR all b t==some true&&!chk E all bef acc ib (Fp E {t:=t,h:=h} b.op))=false:=by
  cases hw:jR all b t==some true with
  |false=>rfl
  |true =>
   have hw':jR all b t=some true:=by simpa using hw
   rw[hwb,hw] at hchb;simp only[dX,fC] at hchb ⊢;rw[xb,cW,hfo hw'] at hchb;exact hchb.2
 have cha:(jR all a (Ğ t b.dst vb)==some true&&!chk E all bef ((ib,E9 E all b {t:=t,h:=h})::acc) ia (Fp E {t:=Ğ t b.dst vb,h:=aps eb h} a.op))=false:=by
  rw[AX hta]
  cases hw:jR all a t==some true with
  |false=>rfl
  |true =>
   have hw':jR all a t=some true:=by simpa using hw
   rw[hw] at hcha;simp only[dX,fC] at hcha ⊢;rw[SU (aco hta) (hsamea hw'),xb,cW];refine⟨afw ?_,hcha⟩
   have hfa0:E9 E all a {t:=t,h:=h}=Fp E {t:=t,h:=h} a.op:=by simp only[E9,hw']
   cases hwb':jR all b t with
   |some wb=>cases wb with
    |true =>
     rw[hwb,hwb'] at hchb;simp only[beq_self_eq_true,dX,fC] at hchb;rw[xb,cW,hfo hwb',hfa0] at hchb;simp only[E9,hwb'];exact hchb.1
    |false=>simp only[E9,hwb']; exact Wf hc.ha hc.hb
   |none=>simp only[E9,hwb']; exact Wf hc.ha hc.hb
 unfold Np;simp only[chb];rw[b2,q3];simp only[Option.bind_some,cha];rw[a3',q5];simp only[Option.bind_some];rw[hfa];exact q6
abbrev Item:=Nat×Nat×Oper
def ou (clone:Nat→Bool):List Oper→Nat→Nat→List Item
 |[],_,_=>[]
 |o::os,i,nid=>(i,nid,o)::ou clone os (i+1) (bif ē clone o.op then nid+1 else nid)
def ahx (E:Env ρ) (call:List Nat→Bool→Nat→List AV→List Blk→(AV→List Blk→Option ρ)→Option ρ) (fid:Nat) (path:List Nat) (all:List Oper) (bef:List Nat):List Item→List (Nat×List Nat)→St→(St→Option ρ)→Option ρ
 |[],_,S,K=>K S
 |x::l,acc,S,K=>Np E call fid path all bef acc x.1 x.2.1 x.2.2 S fun F S=>ahx E call fid path all bef l ((x.1,F)::acc) S K
def acq {E:Env ρ} {call:List Nat→Bool→Nat→List AV→List Blk→(AV→List Blk→Option ρ)→Option ρ} {fid:Nat} {path:List Nat} {all:List Oper} {bef:List Nat}:∀(os:List Oper) (i nid:Nat) (acc:List (Nat×List Nat)) (S:St) (K:St→Option ρ),
 alf E call fid path all bef os i nid acc S K=ahx E call fid path all bef (ou E.clone os i nid) acc S K
 |[],_,_,_,_,_=>rfl
 |o::os,i,nid,acc,S,K=>by
  rw[ale];simp only[ou,ahx];congr 1;funext F S';exact acq os _ _ _ S' K
def apo {E:Env ρ} {all:List Oper} {bef:List Nat} {acc acc':List (Nat×List Nat)} {i:Nat} {F:List Nat} (h:∀p,p∈acc↔p∈acc'):chk E all bef acc i F=chk E all bef acc' i F:=by
 rw[dJ];simp only[chk,dL]
 exact forall_congr' fun p=>by rw[h p]
def abD {E:Env ρ} {call:List Nat→Bool→Nat→List AV→List Blk→(AV→List Blk→Option ρ)→Option ρ} {fid:Nat} {path:List Nat} {all:List Oper} {bef:List Nat} {K:St→Option ρ}:∀(l:List Item) {acc acc':List (Nat×List Nat)} (S:St),(∀p,p∈acc↔p∈acc') →
 ahx E call fid path all bef l acc S K=ahx E call fid path all bef l acc' S K
 |[],_,_,_,_=>rfl
 |x::l,acc,acc',S,h=>by
  simp only[ahx,Np];rw[apo h]
  split
  ·rfl
  ·congr 1;funext S'
   exact abD l S' fun p=>by simp[h p]
def aql {E:Env ρ} {call:List Nat→Bool→Nat→List AV→List Blk→(AV→List Blk→Option ρ)→Option ρ} {fid:Nat} {path:List Nat} {all:List Oper} {bef:List Nat} {b:Item} {rest:List Item} {K:St→Option ρ} {r:ρ} {h0:List Blk} {t0:List AV}
 (hpe:anO E call) :
 ∀(as:List Item) (acc:List (Nat×List Nat)) (t:List AV) (h:List Blk),(∀a∈as,arx E all bef a.1 b.1 a.2.2 b.2.2)→(∀s∈lf all b.2.2,lk t s=lk t0 s)→(ē E.clone b.2.2.op=true→lkB h b.2.1=.dead) →
  (∀a∈as,ē E.clone a.2.2.op=true→ē E.clone b.2.2.op=true→a.2.1≠b.2.1)→(∀a∈as,ē E.clone a.2.2.op=true→∀x∈b.2.2.op.operands.toList,a.2.1∉refs2 h0 (ev t0 x)) →
  (1≤cls E b.2.2.op→∀x∈b.2.2.op.operands.toList,∀id∈refs1 (ev t0 x),lkB h id=lkB h0 id∨∃p∈acc,(∃c,all[p.1]?=some c∧DJ E c.op b.2.2.op=true∧(bef.getD b.1 0).testBit p.1=false∧(bef.getD p.1 0).testBit b.1=false)∧id∈p.2) →
  ahx E call fid path all bef (as++b::rest) acc {t:=t,h:=h} K=some r→ahx E call fid path all bef (b::(as++rest)) acc {t:=t,h:=h} K=some r
 |[],acc,t,h,_,_,_,_,_,_,e=>e
 |a::as,acc,t,h,hap,ht,hbd,hn,hfar,hinv,e=>by
  have hA:=hap a (by simp);have hx0:∀x∈b.2.2.op.operands.toList,ev t x=ev t0 x:=aco ht
  have hf1:ē E.clone a.2.2.op=true→∀x∈b.2.2.op.operands.toList,a.2.1∉refs1 (ev t x):=fun hal x hx hi=>hfar a (by simp) hal x hx (by
   rw[hx0 x hx] at hi;simp only[refs2,dc]
   exact .inl hi)
  simp only[eZ,ahx] at e ⊢
  have fin:=swap (K:=fun Fa Fb S=>ahx E call fid path all bef (as++rest) ((b.1,Fb)::(a.1,Fa)::acc) S K) (r:=r) (t:=t) (h:=h) (acc:=acc) (ia:=a.1) (na:=a.2.1) (ib:=b.1) (nb:=b.2.1) (a:=a.2.2) (b:=b.2.2) (fid:=fid) (path:=path) hpe hA hbd (hn a (by simp)) hf1
   (fun h1 hal hno x hx=>by
    rw[hx0 x hx];have hcells:∀id∈refs1 (ev t0 x),lkB h id=lkB h0 id:=fun id hi=>(hinv h1 x hx id hi).resolve_right fun⟨p,hp,⟨c,c1,c2,c3,c4⟩,hid⟩=>hno p hp c c1 c2 c3 c4 x hx id (by rw[hx0 x hx]; exact hi) hid
    have:refs2 h (ev t0 x)=refs2 h0 (ev t0 x):=by
     have key:∀(l:List Nat),(∀id∈l,lkB h id=lkB h0 id)→(l.flatMap fun id=>(Tu (lkB h id)).flatMap ķ)=l.flatMap fun id=>(Tu (lkB h0 id)).flatMap ķ:=by
      intro l
      induction l with
      |nil=>intro _; rfl
      |cons y l ih=>intro hl; simp only[dK]; rw[hl y (by simp),ih fun id hi=>hl id (by simp[hi])]
     simp only[refs2];rw[key _ hcells]
    rw[this]
    exact hfar a (by simp) hal x hx) ?_
  ·have hperm:∀(Fa Fb:List Nat) (S:St),ahx E call fid path all bef (as++rest) ((b.1,Fb)::(a.1,Fa)::acc) S K=ahx E call fid path all bef (as++rest) ((a.1,Fa)::(b.1,Fb)::acc) S K:=fun Fa Fb S=>abD _ S fun p=>by
    simp only[df]
    constructor<;>rintro(h|h|h)<;>simp[h]
   simp only[hperm] at fin;exact fin
  ·-- behind a
   obtain⟨φa,a0,a1,a2,_⟩:=OO (t:=t) (t2:=t) (h:=h) (h2:=h) (call:=call) (fid:=fid) (path:=path) (i:=a.1) (nid:=a.2.1) (all:=all) r hpe hA.a3 rfl (fun _ _=>rfl) (fun _ _ _ _ _ _=>rfl);unfold Np at e ⊢
   split at e<;>try (cases e; done)
   rename_i hcha;simp only[hcha];rw[a2] at e ⊢;obtain⟨⟨va,ea⟩,q1,q2⟩:=δ e;rw[q1];simp only[eR];have hal1:=a1 _ q1;have hea:=a0 _ q1;simp only at hea q2;refine aql hpe as _ _ _ (fun c hc=>hap c (by simp[hc])) (fun s hs=>(Pw (hA.rb s hs) _).trans (ht s hs)) (fun hal=>?_) (fun c hc=>hn c (by simp[hc])) (fun c hc=>hfar c (by simp[hc])) (fun h1 x hx id hi=>?_) q2
   ·refine(XG fun p hp hid=>?_).trans (hbd hal);rcases hea p hp with⟨h2,h3⟩|⟨h2,h3⟩
    ·exact hn a (by simp) h3 hal (h2.symm.trans hid)
    ·exact hal1 p.1 h3 (by rw[hid]; exact hbd hal)
   ·by_cases hin:∃p∈ea,p.1=id
    ·obtain⟨p,hp,hid⟩:=hin;rcases hea p hp with⟨h2,h3⟩|⟨h2,h3⟩
     ·exfalso;exact hf1 h3 x hx (by rw[hx0 x hx,←h2,hid]; exact hi)
     ·exact .inr ⟨(a.1,_),List.mem_cons_self ..,⟨a.2.2,hA.ha,pC.2 (.inl ⟨h2,h1⟩),hA.bab,hA.bba⟩,hid▸h3⟩
    ·have hne:lkB (aps ea h) id=lkB h id:=XG fun p hp hid=>hin ⟨p,hp,hid⟩;rw[hne];rcases hinv h1 x hx id hi with h2|⟨p,hp,h2⟩
     ·exact .inl h2
     ·exact .inr ⟨p,by simp[hp],h2⟩
section
variable {ν:Nat→Value} {w:World}
def VR0.refs {a:AV} {v:Value} (hv:VR0 ν h w a v):∀id∈ķ a,lkB h id≠.dead:=by
 intro id hi hd
 cases a<;>simp only[ķ,dh,fY] at hi
 ·subst hi; obtain⟨_,t,g',fz,xs,hl,_⟩:=hv; rw[hd] at hl; cases hl
 ·subst hi; obtain⟨_,t,g',fz,xs,hl,_⟩:=hv; rw[hd] at hl; cases hl
 ·subst hi; obtain⟨_,t,g',fz,hl,_⟩:=hv; rw[hd] at hl; cases hl
 ·subst hi; obtain⟨_,_,hl,_⟩:=hv; rw[hd] at hl; cases hl
 ·subst hi; obtain⟨_,t,g',fz,xs,hl,_⟩:=hv; rw[hd] at hl; cases hl
 ·subst hi; obtain⟨_,k,g',xss,hl,_⟩:=hv; rw[hd] at hl; cases hl
 ·subst hi; obtain⟨_,k,g',xss,hl,_⟩:=hv; rw[hd] at hl; cases hl
 ·subst hi; obtain⟨_,k,g',xss,hl,_⟩:=hv; rw[hd] at hl; cases hl
 ·subst hi; obtain⟨_,k,g',xss,hl,_⟩:=hv; rw[hd] at hl; cases hl
def VR1.refs {a:AV} {v:Value} (hv:VR1 ν h w a v):∀id∈ķ a,lkB h id≠.dead:=by
 cases hf:a.isFn with
 |true=>cases a<;>first|(cases hf; done)|(intro id hi; cases hi)
 |false=>rw[TR hf] at hv; exact hv.refs
def ĉ.left_mem {α β:Type} {R:α→β→Prop}:∀{l:List α} {m:List β},ĉ R l m→∀a∈l,∃b∈m,R a b
 |[],_,_,a,ha=>by cases ha
 |x::l,y::m,h,a,ha=>by
  rcases df.1 ha with rfl|ha
  ·exact⟨y,by simp,h.1⟩
  ·obtain⟨b,hb,hr⟩:=ĉ.left_mem h.2 a ha;exact⟨b,by simp[hb],hr⟩
 |_::_,[],h,_,_=>h.elim
def VR.refs1 {a:AV} {v:Value} (hv:VR ν h w a v):∀id∈Go.Am.refs1 a,lkB h id≠.dead:=by
 cases hag:a.isAgg with
 |true =>
  cases a<;>try cases hag
  obtain⟨us,_,h2⟩:=hv;intro id hi;simp only[Go.Am.refs1,dv] at hi;obtain⟨c,hc,hi⟩:=hi;obtain⟨u,_,hu⟩:=h2.left_mem c hc;exact hu.1.refs id hi
 |false =>
  cases htu:a.isTup with
  |true=>cases a<;>first|(cases htu; done)|(intro id hi; cases hi)
  |false =>
   have h1:=hv.one hag htu;have h2:=h1.refs
   cases a with
   |fn f fa fb =>
    obtain⟨fs,cs,_,h3,h4⟩:=h1
    have one:∀c u,VR0 ν h w c u→∀id∈ak4 c,lkB h id≠.dead:=fun c u hu id hi=>by
     cases c with
     |agg=>exact hu.elim
     |_=>exact hu.refs id hi
    intro id hi;simp only[Go.Am.refs1,dc,dv] at hi;rcases hi with⟨c,hc,hi⟩|⟨c,hc,hi⟩
    ·obtain⟨u,_,hu⟩:=h3.left_mem c hc;exact one c u hu id hi
    ·obtain⟨u,_,hu⟩:=h4.left_mem c hc;exact one c u hu id hi
   |agg=>cases hag
   |_=>exact h2
def VR.refs2 (H:HR ν h w) {a:AV} {v:Value} (hv:VR ν h w a v):∀id∈Go.Am.refs2 h a,lkB h id≠.dead:=by
 intro id hi;simp only[Go.Am.refs2,dc,dv] at hi;rcases hi with hi|⟨j,hj,c,hc,hi⟩
 ·exact hv.refs1 id hi
 ·have hB:=H.blk j
  cases hl:lkB h j with
  |cells cs =>
   rw[hl] at hB hc;obtain⟨b,arr,e,_,_,h3⟩:=hB;obtain⟨u,_,hu⟩:=h3.left_mem c hc;exact hu.1.refs id hi
  |_=>rw[hl] at hc; cases hc
end
end
end Go.Am
end
