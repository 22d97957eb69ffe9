/- lemmas -/
import Derived.Test.YtiochmbenflhhaaGreatAmA
import Derived.OrdersIn
import Derived.LoopNIn
set_option linter.all false
set_option linter.unusedSectionVars false
set_option linter.unusedVariables false
set_option linter.unusedSimpArgs false
noncomputable section
namespace Go.Am
variable [ô]
section
variable {ν ν':Nat→Value} {h h':List Blk} {w w':World} {P:Program}
def Wb (b:AV):∀(as:List AV) (h:List Blk),þ (A6 h as) b=þ h b
 |[],_=>rfl
 |a::as,h=>by rw[A6,Wb b as,IR]
def BZ.mono {av av':Nat→Prop} (hm:∀b,av' b→av b) {t:Ty} {xs:List (Val t)} {news:List Value} (hr:BZ w av t xs news):BZ w av' t xs news :=
 ⟨hr.1,fun i x hi=>CR.mono hm (hr.2 i x hi)⟩
def afi {a:AV} {id:Nat} {h:List Blk} (hl:lkB h id=.dead):lkB (xJ h a) id=.dead:=by
 have key:∀(j g:Nat) (t:Ty) (fz:Bool) (xs:List (Val t)),lkB h j=.row t g fz xs→lkB (ć h j (.row t g true xs)) id=.dead:=fun j g t fz xs hr=>by
  by_cases hj:id=j
  ·subst hj; rw[hl] at hr; cases hr
  ·rw[ó _ hj]; exact hl
 cases a<;>try exact hl
 all_goals
  simp only[xJ]
  split
  ·exact key _ _ _ _ _ ‹_›
  ·exact hl
def Sn {id:Nat}:∀(as:List AV) {h:List Blk},lkB h id=.dead→lkB (A6 h as) id=.dead
 |[],_,hl=>hl
 |_::as,_,hl=>Sn as (afi hl)
def ajf {v:AV} {id:Nat} {h:List Blk} (hl:lkB h id=.dead):lkB (frz h v) id=.dead:=by
 unfold frz; split
 ·exact Sn _ hl
 ·exact afi hl
def Sq {id:Nat}:∀(ps:List (Nat×AV)) {h:List Blk},lkB h id=.dead→lkB (frzA h ps) id=.dead
 |[],_,hl=>hl
 |(_,_)::ps,_,hl=>Sq ps (ajf hl)
def aiF {h0:List Blk} {ty:Ty}:∀(ps:List (Nat×AV)) (us:List (Nat×Value)) (k:Nat) (c:Array Value) (xs:List (Val ty)) (h:List Blk),(∀b,þ h b=þ h0 b)→HR ν h w→TI h0 ty k ps=some xs →
 Ć (fun(a:Nat×AV) (b:Nat×Value)=>a.1=b.1∧VR ν h w a.2 b.2) ps us→(k+ps.length)*ty.size≤c.size →
 ∃c' news,Instr.fill (fun i=>some (i*ty.size,ty.size)) c us=some c'∧c'.toList=c.toList.take (k*ty.size)++news++c.toList.drop ((k+ps.length)*ty.size)∧BZ w (Av ν (frzA h ps)) ty xs news∧xs.length=ps.length ∧
  Ev h.length ν h w ν (frzA h ps) w∧HR ν (frzA h ps) w∧(∀b,Av ν (frzA h ps) b→Av ν h b)∧(frzA h ps).length=h.length
 |[],[],k,c,xs,h,hsn,H,e,_,_=>by
  cases e;exact⟨c,[],rfl,by simp,⟨by simp,fun i x hi=>by simp at hi⟩,rfl,Ev.refl _ _ _ _,H,fun _ hb=>hb,rfl⟩
 |[],_::_,_,_,_,_,_,_,_,hu,_=>hu.elim
 |_::_,[],_,_,_,_,_,_,_,hu,_=>hu.elim
 |(i,v)::ps,(j,u)::us,k,c,xs,h,hsn,H,e,hu,hc=>by
  obtain⟨⟨hij,hvu⟩,hu⟩:=hu;simp only at hij hvu; subst hij;simp only[TI] at e
  split at e<;>try (cases e; done)
  rename_i hik;simp only[cZ,beq_iff_eq] at hik;obtain⟨rfl,hnm⟩:=hik
  split at e<;>try (cases e; done)
  rename_i cs hcs
  split at e<;>try (cases e; done)
  rename_i x hx
  split at e<;>try (cases e; done)
  rename_i xs' hxs;cases e;obtain⟨vs,hvs,rfl⟩:=IQ hcs;obtain⟨hfe,hfm⟩:=anl hvs h;have hcx:=hvu.cells hvs;have hs:=HJ H (hcx.mono fun _ _ q=>q.1) (hfm hnm);have hmap:vs.map (þ h)=vs.map (þ h0):=fp fun b _=>hsn b;rw[hmap] at hs;have hxc:=š hx hs;obtain⟨e1,H1,hlv⟩:=ED vs H;simp only[frzA,hfe]
  have hsz:u.cells.size=ty.size:=by have:=hxc.length; simpa using this
  have hlen:(i+1+ps.length)*ty.size≤c.size:=by rw[show i+1+ps.length=i+(ps.length+1) by omega]; simpa using hc
  have hi:i*ty.size+ty.size≤c.size:=by
   have:=dJ ty.size (show i+1≤i+1+ps.length by omega);rw[dH i 1,fu] at this;omega
  have hcl:u.cells.toList.length=ty.size:=by simpa using hsz
  have hcsz:(c.toList.take (i*ty.size)++u.cells.toList++c.toList.drop (i*ty.size+ty.size)).toArray.size=c.size:=by
   simp only[eY,dc,dm,gS,ft,hcl]; omega
  obtain⟨c',news,h1,h2,h3,h4,h5,h6,h7,h8⟩:=aiF ps us (i+1) (c.toList.take (i*ty.size)++u.cells.toList++c.toList.drop (i*ty.size+ty.size)).toArray xs' (A6 h vs)
   (fun b=>(Wb b vs h).trans (hsn b)) H1 hxs (hu.mono fun _ _ q=>⟨q.1,q.2.ev e1⟩) (by rw[hcsz]; exact hlen)
  refine⟨c',u.cells.toList++news,?_,?_,?_,by simp[h4],e1.trans h5 (by rw[Ω]; exact cY _),h6,fun b hb=>hlv b (h7 b hb),by rw[h8,Ω]⟩
  ·rw[Af rfl hsz hi]; exact h1
  ·rw[h2]
   have a1:(c.toList.take (i*ty.size)++u.cells.toList++c.toList.drop (i*ty.size+ty.size)).take ((i+1)*ty.size)=c.toList.take (i*ty.size)++u.cells.toList:=by
    have hl1:(c.toList.take (i*ty.size)++u.cells.toList).length=(i+1)*ty.size:=by
     rw[dc,dm,ft,hcl,dH,fu]; omega
    rw[←hl1,List.take_left]
   have a2:(c.toList.take (i*ty.size)++u.cells.toList++c.toList.drop (i*ty.size+ty.size)).drop ((i+1+ps.length)*ty.size)=c.toList.drop ((i+(ps.length+1))*ty.size):=by
    have hl1:(c.toList.take (i*ty.size)++u.cells.toList).length=i*ty.size+ty.size:=by
     rw[dc,dm,ft,hcl]; omega
    rw[show(i+1+ps.length)*ty.size=(c.toList.take (i*ty.size)++u.cells.toList).length+ps.length*ty.size by rw[hl1,dH,dH,fu],←gx,List.drop_left,gx];congr 1;rw[dH,dH,fu]; omega
   show(List.take ((i+1)*ty.size) _++news++List.drop ((i+1+ps.length)*ty.size) _)=_;rw[a1,a2];simp
  ·have hone:BZ w (Av ν (frzA (A6 h vs) ps)) ty [x] u.cells.toList:=⟨by simp[hsz],fun q y hq=>by
    cases q with
    |zero =>
     simp at hq; subst hq;simp only[Nat.zero_mul,List.drop_zero];rw[er (by omega)];exact CR.mono h7 hxc
    |succ q=>simp at hq⟩
   exact hone.append h3
def aby {S:St} {a:Act} {nid n:Nat} {t e:TypeId} {ty:Ty} {ps:Array (Nat×Operand)} {xs:List (Val ty)} (H:Sim ν S a w) (hn:nid<S.h.length) (hd:lkB S.h nid=.dead) (he:KX P t=some e)
 (hrow:Ml P e ty.size=true) (hln:ps.toList.length=n) (hlim:n*ty.size≤65536) (hx:TI S.h ty 0 (ps.toList.map fun p=>(p.1,ev S.t p.2))=some xs) :
 iV P ν S.h w (Instr.buildSlice t n (ps.map fun(i,x)=>(i,a.eval x))) (.own nid 0) (ć (frzA S.h (ps.toList.map fun p=>(p.1,ev S.t p.2))) nid (.row ty 0 false xs)):=by
 obtain⟨i,z,hi,hsz,hpos,hby,hz,hzs⟩:=ld hrow;have ht:=jY he
 have hcs:((Array.range (n*ty.size)).map (fun j=>(if n*ty.size=0 then(#[]:Array Value) else z.cells)[j % (if n*ty.size=0 then(#[]:Array Value) else z.cells).size]!)).size=n*ty.size:=by simp
 obtain⟨c',news,h1,h2,h3,h4,h5,h6,h7,h8⟩:=aiF (ν:=ν) (w:=w) (h0:=S.h) _ (ps.toList.map fun p=>(p.1,a.eval p.2)) 0 ((Array.range (n*ty.size)).map (fun j=>(if n*ty.size=0 then(#[]:Array Value) else z.cells)[j % (if n*ty.size=0 then(#[]:Array Value) else z.cells).size]!)) xs S.h (fun _=>rfl) H.heap hx (E6 H ps.toList)
  (by rw[hcs]; simp only[dY]; rw[hln,du]; exact cY _)
 rw[dY,hln] at h2 h4
 have h2':c'.toList=news:=by
  rw[h2];simp
 have hd':lkB (frzA S.h (ps.toList.map fun p=>(p.1,ev S.t p.2))) nid=.dead:=Sq _ hd
 have hnew:=IU (w':=w.alloc (.cells c' e)) h6 (id:=nid) (g':=0) (xs':=xs) (cap':=n) (by rw[h8]; exact hn) (fun V=>by rw[hd']; trivial) rfl rfl rfl rfl (by omega) (by
  have:c'.size=news.length:=by rw[←h2']; simp
  rw[this,h3.1,h4]; exact cY _) h3 (fun j v hj=>by rw[←h2'] at hj; simpa using hj)
 rw[h4] at hnew;refine⟨_,_,_,?_,yo (by rw[h8]; exact hn) rfl,hnew.2,(h5.trans hnew.1 (by rw[h8]; exact cY _)),by rw[Û,h8]⟩
 have hp:(ps.map fun(x:Nat×Operand)=>(x.1,a.eval x.2)).toList=ps.toList.map fun p=>(p.1,a.eval p.2):=by simp
 have hlt:¬(16777216<n*ty.size):=by omega
 have h1':Instr.fill (fun i=>some (i*ty.size,ty.size)) ((Array.range (n*ty.size)).map (fun j=>(if n*ty.size=0 then(#[]:Array Value) else z.cells)[j % (if n*ty.size=0 then(#[]:Array Value) else z.cells).size]!)) (ps.map fun(x:Nat×Operand)=>(x.1,a.eval x.2)).toList=some c':=by rw[hp]; exact h1
 simp only[Instr.buildSlice,Sem.run_bind,run_underlying ht,Result.andThen_ok,sizeOf,typeInfo,run_program,hi,Sem.run_pure,hsz];rw[show(2:Nat) ^ 24=16777216 from rfl,if_neg (by omega:¬n*ty.size>16777216)]
 by_cases h0:n*ty.size=0
 ·simp only[h0,if_true,Sem.run_bind,Sem.run_pure,Result.andThen_ok] at h1' ⊢
  erw [h1']
  simp[newRow]
 ·simp only[h0,if_false,Sem.run_bind,zeroValue,typeInfo,run_program,hi,hz,Sem.run_pure,Result.andThen_ok] at h1' ⊢
  erw [h1']
  simp[newRow]
end
end Go.Am
end

noncomputable section
namespace Go.Am
variable [ô]
section
variable {ν ν':Nat→Value} {h h':List Blk} {w w':World} {P:Program}
def upd2 (H:HR ν h w) {i j:Nat} {A B:Blk} {U V:Value} (hij:i≠j) (hi:i<h.length) (hj:j<h.length) (hos:w'.os=w.os) (htape:w'.tape=w.tape) (hout:w'.output=w.output)
 (hsize:w.heap.size≤w'.heap.size)
 (hkeep:∀b,b<w.heap.size→((lkB h i).live=true→¬Ο (ν i) b)→((lkB h j).live=true→¬Ο (ν j) b)→w'.heap[b]?=w.heap[b]?)
 (hU:A.live=true→∀b,Ο U b→((lkB h i).live=true∧Ο (ν i) b)∨((lkB h j).live=true∧Ο (ν j) b)∨w.heap.size≤b)
 (hV:B.live=true→∀b,Ο V b→((lkB h i).live=true∧Ο (ν i) b)∨((lkB h j).live=true∧Ο (ν j) b)∨w.heap.size≤b)
 (hdis:A.live=true→B.live=true→∀b,Ο U b→Ο V b→False)
 (hni:(lkB h i).next ν (ą (ą ν i U) j V) i A) (hnj:(lkB h j).next ν (ą (ą ν i U) j V) j B)
 (hbi:Ev h.length ν h w (ą (ą ν i U) j V) (ć (ć h i A) j B) w'→BR (ą (ą ν i U) j V) (ć (ć h i A) j B) w' i A)
 (hbj:Ev h.length ν h w (ą (ą ν i U) j V) (ć (ć h i A) j B) w'→BR (ą (ą ν i U) j V) (ć (ć h i A) j B) w' j B) :
 Ev h.length ν h w (ą (ą ν i U) j V) (ć (ć h i A) j B) w'∧HR (ą (ą ν i U) j V) (ć (ć h i A) j B) w':=by
 have li:lkB (ć (ć h i A) j B) i=A:=by rw[ó _ hij,ò _ hi]
 have lj:lkB (ć (ć h i A) j B) j=B:=ò _ (by rw[Û]; exact hj)
 have lo:∀{m},m≠i→m≠j→lkB (ć (ć h i A) j B) m=lkB h m:=fun h1 h2=>by rw[ó _ h2,ó _ h1]
 have vi:ą (ą ν i U) j V i=U:=by rw[ő _ _ hij,Ý]
 have vj:ą (ą ν i U) j V j=V:=Ý _ _ _
 have vo:∀{m},m≠i→m≠j→ą (ą ν i U) j V m=ν m:=fun h1 h2=>by rw[ő _ _ h2,ő _ _ h1]
 -- who owns a block now owned it, or it is new
 have own:∀m b,(lkB (ć (ć h i A) j B) m).live=true→Ο (ą (ą ν i U) j V m) b →
  (∃q,(lkB h q).live=true∧Ο (ν q) b∧(q=m∨((q=i∨q=j)∧(m=i∨m=j))))∨(w.heap.size≤b∧(m=i∨m=j)):=by
  intro m b hl hb
  by_cases h1:m=i
  ·subst h1;rw[li] at hl; rw[vi] at hb;rcases hU hl b hb with h2|h2|h2
   ·exact .inl ⟨m,h2.1,h2.2,.inl rfl⟩
   ·exact .inl ⟨j,h2.1,h2.2,.inr ⟨.inr rfl,.inl rfl⟩⟩
   ·exact .inr ⟨h2,.inl rfl⟩
  ·by_cases h2:m=j
   ·subst h2;rw[lj] at hl; rw[vj] at hb;rcases hV hl b hb with h2|h2|h2
    ·exact .inl ⟨i,h2.1,h2.2,.inr ⟨.inl rfl,.inr rfl⟩⟩
    ·exact .inl ⟨m,h2.1,h2.2,.inl rfl⟩
    ·exact .inr ⟨h2,.inr rfl⟩
   ·rw[lo h1 h2] at hl; rw[vo h1 h2] at hb;exact .inl ⟨m,hl,hb,.inl rfl⟩
 have ev:Ev h.length ν h w (ą (ą ν i U) j V) (ć (ć h i A) j B) w':=by
  refine⟨hos,htape,hout,hsize,fun b hb hn=>⟨hkeep b hb (fun hl he=>hn ⟨i,hl,he⟩) (fun hl he=>hn ⟨j,hl,he⟩),?_⟩,fun m hm=>?_⟩
  ·rintro⟨m,hl,he⟩;rcases own m b hl he with⟨q,h1,h2,_⟩|⟨h1,_⟩
   ·exact hn ⟨q,h1,h2⟩
   ·omega
  ·by_cases h1:m=i
   ·subst h1; rw[li]; exact hni
   ·by_cases h2:m=j
    ·subst h2; rw[lj]; exact hnj
    ·rw[lo h1 h2]
     cases hB:lkB h m with
     |dead=>trivial
     |cells cs=>exact⟨⟨cs,rfl⟩,vo h1 h2⟩
     |row t g fz xs=>exact⟨g,fz,xs,rfl,cY _,fun _=>⟨vo h1 h2,rfl⟩⟩
     |map k v es=>exact⟨⟨es,rfl⟩,vo h1 h2⟩
     |deep k g xss=>exact⟨g,xss,rfl,cY _,fun _=>⟨vo h1 h2,rfl⟩⟩
 refine⟨ev,fun m=>?_,fun m n b hm hn hbm hbn=>?_,fun b hb=>dF (H.ghlt b hb) hsize,fun m b hl hb hg=>?_⟩
 ·by_cases h1:m=i
  ·subst h1; rw[li]; exact hbi ev
  ·by_cases h2:m=j
   ·subst h2; rw[lj]; exact hbj ev
   ·rw[lo h1 h2];refine BR.ev ev (vo h1 h2) (fun b hl hb hlt=>hkeep b hlt (fun hl' hb'=>h1 (H.inj m i b hl hl' hb hb')) (fun hl' hb'=>h2 (H.inj m j b hl hl' hb hb'))) (H.blk m)
 ·-- one owner alone
  have hd:∀{m n b},(m=i∨m=j)→(n=i∨n=j)→(lkB (ć (ć h i A) j B) m).live=true→(lkB (ć (ć h i A) j B) n).live=true→Ο (ą (ą ν i U) j V m) b→Ο (ą (ą ν i U) j V n) b→m=n:=by
   intro m n b h1 h2 hm hn hbm hbn
   rcases h1 with rfl|rfl<;>rcases h2 with rfl|rfl
   ·rfl
   ·rw[li] at hm; rw[lj] at hn; rw[vi] at hbm; rw[vj] at hbn;exact(hdis hm hn b hbm hbn).elim
   ·rw[lj] at hm; rw[li] at hn; rw[vj] at hbm; rw[vi] at hbn;exact(hdis hn hm b hbn hbm).elim
   ·rfl
  rcases own m b hm hbm with⟨q,h1,h2,h3⟩|⟨h1,h3⟩
  ·rcases own n b hn hbn with⟨r,h4,h5,h6⟩|⟨h4,h6⟩
   ·have hqr:=H.inj q r b h1 h4 h2 h5;subst hqr;rcases h3 with rfl|⟨h3,h3'⟩
    ·rcases h6 with rfl|⟨h6,h6'⟩
     ·rfl
     ·exact hd h6 h6' hm hn hbm hbn
    ·rcases h6 with rfl|⟨h6,h6'⟩
     ·exact hd h3' h3 hm hn hbm hbn
     ·exact hd h3' h6' hm hn hbm hbn
   ·have:=H.lt ⟨q,h1,h2⟩; omega
  ·rcases own n b hn hbn with⟨r,h4,h5,h6⟩|⟨h4,h6⟩
   ·have:=H.lt ⟨r,h4,h5⟩; omega
   ·exact hd h3 h6 hm hn hbm hbn
 ·rcases own m b hl hb with⟨q,h1,h2,_⟩|⟨h1,_⟩
  ·exact H.ghne q b h1 h2 hg
  ·have:=H.ghlt b hg; omega
def pT {l:List Value} {b:Nat}:Ο (.agg l.toArray) b↔∃u∈l,mm u=some b:=by
 show(∃u∈l.toArray.toList,mm u=some b)↔_;simp
def apJ {k:IntKind} {xss:List (List Int)} {us:List Value} (h:Ć (alu w k) xss us):∀u∈us,u.oneCell'=true:=by
 intro u hu;obtain⟨i,hi,rfl⟩:=dl.1 hu;obtain⟨xs,_,base,cap,e,_⟩:=h.get' (cX hi);rw[e]; rfl
def ame {k:IntKind} {xss:List (List Int)} {us:List Value} (h:Ć (alu w k) xss us):∀u∈us,∀b,mm u=some b→b<w.heap.size:=by
 intro u hu b hb;obtain⟨i,hi,rfl⟩:=dl.1 hu;obtain⟨xs,_,base,cap,e,_,h1⟩:=h.get' (cX hi);rw[e] at hb;rcases h1 with⟨rfl,_⟩|⟨b',off,c,e',rfl,h1,_⟩
 ·cases hb
 ·cases hb; exact ē h1
def aqq (H:HR ν h w) {nid id g n:Nat} {t e:TypeId} {k:IntKind} {xs:List Int} {i:TypeInfo} {z:Value} (hnid:nid<h.length) (hd:lkB h nid=.dead) (ht:P.underlying t=some (.slice e)) (hi:P.info? e=some i) (hsz:i.size=1) (hz:i.zero=some z) (hzs:z.cells.size=1)
 (hl:lkB h id=.row (.int k) g false xs) (hn:n=1) {ux:Value} (hux:ux=ν id) :
 iV P ν h w (Instr.buildSlice t n #[(0,ux)]) (.dp nid 0) (ć (ć h id (.row (.int k) (g+1) false [])) nid (.deep k 0 [xs])):=by
 subst hn
 have hne:id≠nid:=fun e=>by rw[e,hd] at hl; cases hl
 have hid:id<h.length:=ik hl (by simp);have hB:=H.blk id;rw[hl] at hB;obtain⟨base,cap,h1,h2,h3⟩:=hB
 have hlive:(lkB h id).live=true:=by rw[hl]; rfl
 have h3':(base=none∧cap=0)∨∃b off c e,base=some ⟨b,off,none⟩∧w.heap[b]?=some (.cells c e (0,0))∧off+cap≤c.size∧∀(j:Nat) (x:Int),xs[j]?=some x→c[off+j]?=some (.int k x):=by
  rcases h3 with h3|⟨b,off,c,e',h3,h4,h5,h6⟩
  ·exact .inl h3
  ·refine .inr ⟨b,off,c,e',h3,h4,by simpa[Ty.size] using h5,fun j x hx=>?_⟩;obtain⟨us,q1,q2⟩:=h6 j x hx;have q1':us=[.int k x]:=q1;subst q1';have:=q2 0 _ rfl;simp only[World.cell?,h4] at this;simpa[Ty.size] using this
 have hone:(ν id).oneCell'=true:=by rw[h1]; rfl
 have hheap:(w.alloc (.cells #[ν id] e)).heap=w.heap.push (.cells #[ν id] e (0,0)):=rfl
 have hpush:∀b,b<w.heap.size→(w.alloc (.cells #[ν id] e)).heap[b]?=w.heap[b]?:=fun b hb=>by rw[hheap,eT]; simp[fJ hb]
 obtain⟨ev,hr⟩:=upd2 (w':=w.alloc (.cells #[ν id] e)) (A:=.row (.int k) (g+1) false []) (B:=.deep k 0 [xs]) (U:=.slice none 0 0) (V:=.agg [Value.slice (some ⟨w.heap.size,0,none⟩) 1 1,ν id].toArray) H hne hid hnid rfl rfl rfl (by rw[hheap]; simp)
  (fun b hb _ _=>hpush b hb) (fun _ b hb=>by cases hb)
  (fun _ b hb=>by
   obtain⟨u,hu,hb⟩:=pT.1 hb;simp only[di,gc,or_false] at hu;rcases hu with rfl|rfl
   ·cases hb; exact .inr (.inr (cY _))
   ·exact .inl ⟨hlive,by rw[h1] at hb ⊢; exact hb⟩)
  (fun _ _ b hb _=>by cases hb)
  (by rw[hl]; exact⟨g+1,false,[],rfl,gk _,fun hf=>by omega⟩) (by rw[hd]; trivial)
  (fun ev=>⟨none,0,by rw[ő _ _ hne,Ý]; rfl,cY _,.inl ⟨rfl,rfl⟩⟩)
  (fun ev=>by
   have hnew:(w.alloc (.cells #[ν id] e)).heap[w.heap.size]?=some (.cells #[ν id] e (0,0)):=by rw[hheap]; simp
   refine⟨some ⟨w.heap.size,0,none⟩,1,[ν id],by rw[Ý]; rfl,by simp,?_,.inr ⟨w.heap.size,0,#[ν id],e,rfl,hnew,by simp,fun m u hm=>?_⟩,⟨base,cap,h1,h2,?_⟩,trivial⟩
   ·refine List.Pairwise.cons (fun v hv b hb hvb=>?_) (gj _ _);simp at hv;subst hv
    obtain rfl:w.heap.size=b:=by simpa[mm] using hb
    have:=H.lt ⟨id,hlive,by rw[h1] at hvb ⊢; exact hvb⟩;omega
   ·cases m with
    |zero=>simpa using hm
    |succ m=>simp at hm
   ·rcases h3' with h3|⟨b,off,c,e',h3,h4,h5⟩
    ·exact .inl h3
    ·exact .inr ⟨b,off,c,e',h3,by
      rw[hpush b (ē h4),h4],h5⟩)
 refine⟨_,w.alloc (.cells #[ν id] e),.slice (some ⟨w.heap.size,0,none⟩) 1 1,?_,⟨rfl,k,0,[xs],?_,cY _,fun _=>⟨[ν id],Ý _ _ _⟩⟩,hr,ev,by rw[Û,Û]⟩
 ·subst hux;simp only[Instr.buildSlice,Sem.run_bind,run_underlying ht,Result.andThen_ok,sizeOf,typeInfo,run_program,hi,Sem.run_pure,hsz];rw[show(2:Nat) ^ 24=16777216 from rfl,if_neg (by omega:¬1*1>16777216)];simp only[f8,Nat.one_ne_zero,if_false,Sem.run_bind,zeroValue,typeInfo,run_program,hi,hz,Sem.run_pure,Result.andThen_ok]
  have hfill:Instr.fill (fun i=>some (i*1,1)) ((Array.range 1).map (fun j=>z.cells[j % z.cells.size]!)) [(0,ν id)]=some #[ν id]:=by
   have:=Af (place:=fun i=>some (i*1,1)) (cells:=(Array.range 1).map (fun j=>z.cells[j % z.cells.size]!)) (i:=0) (v:=ν id) (rest:=[]) (off:=0) (size:=1) rfl (by have:=qM hone; simpa using congrArg List.length this) (by simp);rw[this];have hc:=qM hone;simp[Instr.fill,hc]
  simp only[f8] at hfill
  erw [hfill]
  simp[newRow]
 ·exact ò _ (by rw[Û]; exact hnid)
def ab5 (H:HR ν h w) {G:Nat→Prop} {id g:Nat} {k:IntKind} {xss:List (List Int)} (hl:lkB h id=.deep k g xss) {v:Value} (hv:∃us,ν id=.agg (v::us).toArray) (hG:∀b,Ο (ν id) b→¬G b) :
 CR w G (.slice (.slice (.int k))) xss [v]:=by
 obtain⟨us,hν⟩:=hv;obtain⟨base,cap,us',h1,h2,_,h3,h4⟩:=H.table hl;have h1':=h1;rw[hν] at h1;have q:=mn h1
 injection q with q1 q2
 subst q1 q2;have own:∀u∈Value.slice base xss.length cap::us,∀b,mm u=some b→¬G b:=fun u hu b hb=>hG b (by rw[h1']; exact⟨u,by simpa using hu,hb⟩);refine⟨base,cap,rfl,h2,?_⟩;rcases h3 with⟨rfl,rfl⟩|⟨b,off,c,e,rfl,h5,h6,h7⟩
 ·exact .inl (dw.1 (by omega))
 ·refine .inr ⟨b,off,rfl,own _ (.head _) b rfl,ē h5,fun i xs hx=>?_⟩;obtain⟨u,hu,hr⟩:=h4.get hx;refine⟨[u],?_,fun j y hj=>?_⟩
  ·obtain⟨base2,cap2,rfl,h8,h9⟩:=hr;refine⟨base2,cap2,rfl,h8,?_⟩;rcases h9 with⟨rfl,rfl⟩|⟨b2,off2,c2,e2,rfl,h10,h11,h12⟩
   ·exact .inl (dw.1 (by omega))
   ·refine .inr ⟨b2,off2,rfl,own _ (.tail _ (dg hu)) b2 rfl,ē h10,fun m x hm=>⟨[.int k x],rfl,fun j y hj=>?_⟩⟩
    cases j with
    |zero =>
     simp at hj;subst hj;simp only[World.cell?,h10];have:=h12 m x hm;simpa[Ty.size] using this
    |succ j=>simp at hj
  ·cases j with
   |zero =>
    simp at hj;subst hj;simp only[World.cell?,h5];have:=h7 i _ hu;simpa[Ty.size] using this
   |succ j=>simp at hj
def aqp (H:HR ν h w) {nid id g n:Nat} {t e:TypeId} {k:IntKind} {xss:List (List Int)} {i:TypeInfo} {z:Value} (hnid:nid<h.length) (hd:lkB h nid=.dead) (ht:P.underlying t=some (.slice e)) (hi:P.info? e=some i) (hsz:i.size=1) (hz:i.zero=some z) (hzs:z.cells.size=1)
 (hl:lkB h id=.deep k g xss) (hn:n=1) {ux:Value} (hux:∃us,ν id=.agg (ux::us).toArray) :
 iV P ν h w (Instr.buildSlice t n #[(0,ux)]) (.own nid 0) (ć (ć h id (.deep k (g+1) [])) nid (.row (.slice (.slice (.int k))) 0 false [xss])):=by
 subst hn;have hux0:=hux;obtain⟨us,hux⟩:=hux
 have hne:id≠nid:=fun e=>by rw[e,hd] at hl; cases hl
 have hid:id<h.length:=ik hl (by simp)
 have hlive:(lkB h id).live=true:=by rw[hl]; rfl
 have hone:ux.oneCell'=true:=by
  obtain⟨base,cap,us',h1,_⟩:=H.table hl;rw[hux] at h1;have q:=mn h1
  injection q with q1 q2
  rw[q1]; rfl
 have hheap:(w.alloc (.cells #[ux] e)).heap=w.heap.push (.cells #[ux] e (0,0)):=rfl
 have hpush:∀b,b<w.heap.size→(w.alloc (.cells #[ux] e)).heap[b]?=w.heap[b]?:=fun b hb=>by rw[hheap,eT]; simp[fJ hb]
 have hnew:(w.alloc (.cells #[ux] e)).heap[w.heap.size]?=some (.cells #[ux] e (0,0)):=by rw[hheap]; simp
 obtain⟨ν',hν'⟩:∃ν',ν'=ą (ą ν id (.agg [Value.slice none 0 0].toArray)) nid (.slice (some ⟨w.heap.size,0,none⟩) 1 1):=⟨_,rfl⟩;obtain⟨h',hh'⟩:∃h',h'=ć (ć h id (.deep k (g+1) [])) nid (.row (.slice (.slice (.int k))) 0 false [xss]):=⟨_,rfl⟩
 have noav:∀b,Ο (ν id) b→¬Av ν' h' b:=by
  intro b hb;rintro(⟨m,hm,hb'⟩|hg)
  ·by_cases e1:m=nid
   ·subst e1;rw[hν',Ý] at hb';obtain rfl:w.heap.size=b:=Option.some.inj hb';have:=H.lt ⟨id,hlive,hb⟩;omega
   ·rw[hν',ő _ _ e1] at hb';rw[hh',ó _ e1] at hm
    by_cases e2:m=id
    ·subst e2;rw[Ý] at hb';obtain⟨u,hu,hb'⟩:=pT.1 hb';simp at hu;subst hu;cases hb'
    ·rw[ő _ _ e2] at hb';rw[ó _ e2] at hm;exact e2 (H.inj m id b hm hlive hb' hb)
  ·exact H.ghne id b hlive hb hg
 have hcr:CR (w.alloc (.cells #[ux] e)) (Av ν' h') (.slice (.slice (.int k))) xss [ux]:=CR.keep (fun b hb hn=>⟨hpush b hb,hn⟩) (ab5 H hl hux0 noav)
 obtain⟨ev,hr⟩:=upd2 (w':=w.alloc (.cells #[ux] e)) (A:=.deep k (g+1) []) (B:=.row (.slice (.slice (.int k))) 0 false [xss]) (U:=.agg [Value.slice none 0 0].toArray) (V:=.slice (some ⟨w.heap.size,0,none⟩) 1 1) H hne hid hnid rfl rfl rfl (by rw[hheap]; simp)
  (fun b hb _ _=>hpush b hb)
  (fun _ b hb=>by
   obtain⟨u,hu,hb⟩:=pT.1 hb;simp at hu;subst hu
   cases hb)
  (fun _ b hb=>by
   obtain rfl:w.heap.size=b:=Option.some.inj hb
   exact .inr (.inr (cY _)))
  (fun _ _ b hb _=>by
   obtain⟨u,hu,hb⟩:=pT.1 hb;simp at hu;subst hu
   cases hb)
  (by rw[hl]; exact⟨g+1,[],rfl,gk _,fun hf=>by omega⟩) (by rw[hd]; trivial)
  (fun ev=>⟨none,0,[],by rw[ő _ _ hne,Ý]; rfl,cY _,gj _ _,.inl ⟨rfl,rfl⟩,trivial⟩)
  (fun ev=>by
   rw[←hν',←hh'];refine⟨some ⟨w.heap.size,0,none⟩,1,by rw[hν',Ý]; rfl,by simp,.inr ⟨w.heap.size,0,#[ux],e,rfl,hnew,by simp[Ty.size],fun m x hm=>?_⟩⟩
   cases m with
   |zero =>
    simp at hm;subst hm;refine⟨[ux],hcr,?_⟩;have:=ļ.of_cells hnew;simpa using this
   |succ m=>simp at hm)
 refine⟨_,w.alloc (.cells #[ux] e),.slice (some ⟨w.heap.size,0,none⟩) 1 1,?_,⟨rfl,.slice (.slice (.int k)),0,false,[xss],?_,cY _,fun _=>(Ý _ _ _).symm⟩,hr,ev,by rw[Û,Û]⟩
 ·simp only[Instr.buildSlice,Sem.run_bind,run_underlying ht,Result.andThen_ok,sizeOf,typeInfo,run_program,hi,Sem.run_pure,hsz];rw[show(2:Nat) ^ 24=16777216 from rfl,if_neg (by omega:¬1*1>16777216)];simp only[f8,Nat.one_ne_zero,if_false,Sem.run_bind,zeroValue,typeInfo,run_program,hi,hz,Sem.run_pure,Result.andThen_ok]
  have hfill:Instr.fill (fun i=>some (i*1,1)) ((Array.range 1).map (fun j=>z.cells[j % z.cells.size]!)) [(0,ux)]=some #[ux]:=by
   have:=Af (place:=fun i=>some (i*1,1)) (cells:=(Array.range 1).map (fun j=>z.cells[j % z.cells.size]!)) (i:=0) (v:=ux) (rest:=[]) (off:=0) (size:=1) rfl (by have:=qM hone; simpa using congrArg List.length this) (by simp);rw[this];have hc:=qM hone;simp[Instr.fill,hc]
  simp only[f8] at hfill
  erw [hfill]
  simp[newRow]
 ·exact ò _ (by rw[Û]; exact hnid)
def age {k:IntKind} {base:Option Addr} {cap:Nat} {xss:List (List Int)} {us:List Value} (h10:Ć (alu w k) xss us)
 (h9:(base=none∧cap=0)∨∃b off c e,base=some ⟨b,off,none⟩∧w.heap[b]?=some (.cells c e (0,0))∧off+cap≤c.size∧∀(i:Nat) (u:Value),us[i]?=some u→c[off+i]?=some u) (hc:xss.length≤cap) :
 (∀a,base=some a→∀j u,us[j]?=some u→w.cell? (a.add j)=some u)∧(base=none→us=[]):=by
 constructor
 ·intro a ha j u hj;rcases h9 with⟨h9,_⟩|⟨b,off,c,e,h9,h11,_,h13⟩
  ·rw[h9] at ha; cases ha
  ·rw[h9] at ha; cases ha;rw[Ļ];simp only[World.cell?,h11];exact h13 j u hj
 ·intro hb;rcases h9 with⟨_,h9⟩|⟨b,off,c,e,h9,_⟩
  ·have:=h10.length;exact dw.1 (by omega)
  ·rw[hb] at h9; cases h9
def abi (H:HR ν h w) {j id2:Nat} (hne:id2≠j) (hj:j<h.length) {k:IntKind} {g2 g':Nat} {xss yss:List (List Int)} (hl2:lkB h id2=.deep k g2 yss) {base2:Option Addr} {cap2:Nat} {us us2:List Value} (hν2:ν id2=.agg (Value.slice base2 yss.length cap2::us2).toArray)
 (hnext:∀W,(lkB h j).next ν W j (.deep k g' (xss++yss)))
 (hrows:Ć (alu w k) xss us) (hus:∀u∈us,∀b,mm u=some b→(lkB h j).live=true∧Ο (ν j) b) (hap:af7 us)
 {base':Option Addr} {cap':Nat} {w':World} (hcap:xss.length+yss.length≤cap') (hos:w'.os=w.os) (htape:w'.tape=w.tape) (hout:w'.output=w.output) (hsize:w.heap.size≤w'.heap.size)
 (hblk:∀b,mm (.slice base' (xss.length+yss.length) cap')=some b→((lkB h j).live=true∧Ο (ν j) b∧∀u∈us,mm u≠some b)∨w.heap.size≤b)
 (hkeep:∀b,b<w.heap.size→mm (.slice base' (xss.length+yss.length) cap')≠some b→w'.heap[b]?=w.heap[b]?)
 (hcells:(base'=none∧cap'=0)∨∃b off c e,base'=some ⟨b,off,none⟩∧w'.heap[b]?=some (.cells c e (0,0))∧off+cap'≤c.size∧∀(m:Nat) (u:Value),(us++us2)[m]?=some u→c[off+m]?=some u) :
 Ev h.length ν h w (ą (ą ν id2 (.agg [Value.slice none 0 0].toArray)) j (.agg (Value.slice base' (xss.length+yss.length) cap'::(us++us2)).toArray)) (ć (ć h id2 (.deep k (g2+1) [])) j (.deep k g' (xss++yss))) w' ∧
  HR (ą (ą ν id2 (.agg [Value.slice none 0 0].toArray)) j (.agg (Value.slice base' (xss.length+yss.length) cap'::(us++us2)).toArray)) (ć (ć h id2 (.deep k (g2+1) [])) j (.deep k g' (xss++yss))) w':=by
 have hid2:id2<h.length:=ik hl2 (by simp);obtain⟨base2',cap2',us2',q1,q2,q3,q4,q5⟩:=H.table hl2;rw[hν2] at q1;have q:=mn q1
 injection q with e1 e2
 subst e2
 have hlive2:(lkB h id2).live=true:=by rw[hl2]; rfl
 have own2:∀u∈us2,∀b,mm u=some b→Ο (ν id2) b:=fun u hu b hb=>by rw[hν2]; exact pT.2 ⟨u,by simp[hu],hb⟩
 have hap2:af7 us2:=q3.sublist (List.sublist_cons_self _ _)
 have hdiff:∀u∈us,∀v∈us2,∀b,mm u=some b→mm v≠some b:=fun u hu v hv b hb hvb =>
  hne (H.inj id2 j b hlive2 (hus u hu b hb).1 (own2 v hv b hvb) (hus u hu b hb).2)
 have hV0:∀u∈us++us2,∀b,mm (.slice base' (xss.length+yss.length) cap')=some b→mm u≠some b:=fun u hu b hb hub=>by
  rcases hblk b hb with⟨h1,h2,h3⟩|h1
  ·rcases dh.1 hu with hu|hu
   ·exact h3 u hu hub
   ·exact hne (H.inj id2 j b hlive2 h1 (own2 u hu b hub) h2)
  ·rcases dh.1 hu with hu|hu
   ·have:=ame hrows u hu b hub; omega
   ·have:=ame q5 u hu b hub; omega
 have hrow':∀u∈us++us2,∀b,mm u=some b→b<w.heap.size→w'.heap[b]?=w.heap[b]?:=fun u hu b hb hlt=>hkeep b hlt fun hv=>hV0 u hu b hv hb;refine upd2 H hne hid2 hj hos htape hout hsize (fun b hb h1 h2=>hkeep b hb fun hv=>?_) (fun _ b hb=>?_) (fun _ b hb=>?_) (fun _ _ b hb _=>?_) ?_ (hnext _) (fun ev=>?_) (fun ev=>?_)
 ·rcases hblk b hv with⟨h3,h4,_⟩|h3
  ·exact h2 h3 h4
  ·omega
 ·obtain⟨u,hu,hb⟩:=pT.1 hb;simp at hu;subst hu;cases hb
 ·obtain⟨u,hu,hb⟩:=pT.1 hb;rcases di.1 hu with rfl|hu
  ·rcases hblk b hb with⟨h3,h4,_⟩|h3
   ·exact .inr (.inl ⟨h3,h4⟩)
   ·exact .inr (.inr h3)
  ·rcases dh.1 hu with hu|hu
   ·exact .inr (.inl (hus u hu b hb))
   ·exact .inl ⟨hlive2,own2 u hu b hb⟩
 ·obtain⟨u,hu,hb⟩:=pT.1 hb;simp at hu;subst hu;cases hb
 ·rw[hl2]; exact⟨g2+1,[],rfl,gk _,fun hf=>by omega⟩
 ·exact⟨none,0,[],by rw[ő _ _ hne,Ý]; rfl,cY _,gj _ _,.inl ⟨rfl,rfl⟩,trivial⟩
 ·refine⟨base',cap',us++us2,by rw[Ý,dc],by rw[dc]; exact hcap,?_,hcells,?_⟩
  ·rw[dc];exact List.Pairwise.cons (fun v hv b hb=>hV0 v hv b hb) (List.pairwise_append.2 ⟨hap,hap2,fun u hu v hv b hb=>hdiff u hu v hv b hb⟩)
  ·exact(hrows.append q5).keepRows hrow'
def ajK {n b:Nat} (h1:n≤4294967296) (h2:b≤32768):n*b≤140737488355328:=by
 have:=gr h1 h2;omega
def afw (H:HR ν h w) (t ty:TypeId) {e:TypeId} {i:TypeInfo} {z:Value} (ht:P.underlying t=some (.slice e)) (hi:P.info? e=some i) (hz:i.zero=some z) (hsz:i.size=1) (hby:i.bytes≤32768) (hzs:z.cells.size=1)
 {j id2:Nat} (hne:id2≠j) (hj:j<h.length) {k:IntKind} {g2 g':Nat} {xss yss:List (List Int)} (hl2:lkB h id2=.deep k g2 yss) {base base2:Option Addr} {cap cap2:Nat} {us us2:List Value} (hν2:ν id2=.agg (Value.slice base2 yss.length cap2::us2).toArray)
 (hnext:∀W,(lkB h j).next ν W j (.deep k g' (xss++yss)))
 (hx:(base=none∧cap=0∧xss=[]∧us=[])∨∃g,lkB h j=.deep k g xss∧ν j=.agg (Value.slice base xss.length cap::us).toArray)
 (hlen:xss.length+yss.length≤4294967296) :
 ∃V w',(Builtin.append_ #[t,t] ty #[.slice base xss.length cap,.slice base2 yss.length cap2]).run P w=.ok V w'∧V.oneCell'=true ∧
  Ev h.length ν h w (ą (ą ν id2 (.agg [Value.slice none 0 0].toArray)) j (.agg (V::(us++us2)).toArray)) (ć (ć h id2 (.deep k (g2+1) [])) j (.deep k g' (xss++yss))) w' ∧
  HR (ą (ą ν id2 (.agg [Value.slice none 0 0].toArray)) j (.agg (V::(us++us2)).toArray)) (ć (ć h id2 (.deep k (g2+1) [])) j (.deep k g' (xss++yss))) w':=by
 obtain⟨base2',cap2',us2',q1,q2,q3,q4,q5⟩:=H.table hl2;rw[hν2] at q1;have q:=mn q1
 injection q with e1 e2
 injection e1 with e1 e3 e4
 subst e1 e2 e4;obtain⟨c2,n2⟩:=age q5 q4 q2;have l2:=q5.length;have hone2:=apJ q5
 -- the table that grows
 have hX:Ć (alu w k) xss us∧(∀u∈us,∀b,mm u=some b→(lkB h j).live=true∧Ο (ν j) b)∧af7 us ∧
  ((base=none∧cap=0∧us=[]∧xss=[])∨∃b off c e,base=some ⟨b,off,none⟩∧w.heap[b]?=some (.cells c e (0,0))∧off+cap≤c.size∧xss.length≤cap∧(∀(i:Nat) (u:Value),us[i]?=some u→c[off+i]?=some u)∧((lkB h j).live=true∧Ο (ν j) b∧∀u∈us,mm u≠some b)):=by
  rcases hx with⟨rfl,rfl,rfl,rfl⟩|⟨g,hl,hν⟩
  ·exact⟨trivial,fun u hu=>(by cases hu),List.Pairwise.nil,.inl ⟨rfl,rfl,rfl,rfl⟩⟩
  ·obtain⟨b',c',us',p1,p2,p3,p4,p5⟩:=H.table hl;rw[hν] at p1;have q:=mn p1
   injection q with e1 e2
   injection e1 with e1 e3 e4
   subst e1 e2 e4
   have hlive:(lkB h j).live=true:=by rw[hl]; rfl
   refine⟨p5,fun u hu b hb=>⟨hlive,by rw[hν]; exact pT.2 ⟨u,by simp[hu],hb⟩⟩,p3.sublist (List.sublist_cons_self _ _),?_⟩;rcases p4 with⟨rfl,rfl⟩|⟨b,off,c,e',rfl,p6,p7,p8⟩
   ·have h0:xss=[]:=dw.1 (by omega);subst h0;exact .inl ⟨rfl,rfl,dw.1 p5.length.symm,rfl⟩
   ·exact .inr ⟨b,off,c,e',rfl,p6,p7,p2,p8,hlive,by rw[hν]; exact pT.2 ⟨_,.head _,rfl⟩,fun u hu hub=>(dS.1 p3).1 u hu b rfl hub⟩
 obtain⟨x1,x2,x3,x4⟩:=hX;have l1:=x1.length
 have hU2:yss≠[]→∃a,base2=some a:=fun hy=>by
  cases hb:base2 with
  |none=>exact absurd (dw.1 (by rw[l2,n2 hb]; rfl)) hy
  |some a=>exact⟨a,rfl⟩
 -- a new array
 have hnew:∀old:Nat,∃V w',(Result.ok (Value.slice (some ⟨w.heap.size,0,none⟩) (xss.length+yss.length) (grownCap w (xss.length+yss.length) old e))
  (w.drew.alloc (.cells (us.toArray++us2.toArray++Builtin.zeroCells z.cells (grownCap w (xss.length+yss.length) old e-(xss.length+yss.length))) e)):Result Value)=.ok V w'∧V.oneCell'=true ∧
  Ev h.length ν h w (ą (ą ν id2 (.agg [Value.slice none 0 0].toArray)) j (.agg (V::(us++us2)).toArray)) (ć (ć h id2 (.deep k (g2+1) [])) j (.deep k g' (xss++yss))) w' ∧
  HR (ą (ą ν id2 (.agg [Value.slice none 0 0].toArray)) j (.agg (V::(us++us2)).toArray)) (ć (ć h id2 (.deep k (g2+1) [])) j (.deep k g' (xss++yss))) w':=by
  intro old;have hge:=grownCap_ge w (xss.length+yss.length) old e;obtain⟨q,hq⟩:∃q,q=grownCap w (xss.length+yss.length) old e:=⟨_,rfl⟩;rw[←hq] at hge ⊢;obtain⟨cs,hcs⟩:∃cs,cs=us.toArray++us2.toArray++Builtin.zeroCells z.cells (q-(xss.length+yss.length)):=⟨_,rfl⟩
  have hsize:cs.size=q:=by
   rw[hcs];simp only[gQ,eY,size_zeroCells,hzs];omega
  have hget:∀(m:Nat) (u:Value),(us++us2)[m]?=some u→cs[m]?=some u:=fun m u hm=>by
   rw[←eM] at hm;rw[hcs,fc,if_pos]
   ·simpa using hm
   ·have:=(eD.1 hm).1;simpa using this
  rw[←hcs];have hheap:(w.drew.alloc (.cells cs e)).heap=w.heap.push (.cells cs e (0,0)):=rfl
  have hlast:(w.drew.alloc (.cells cs e)).heap[w.heap.size]?=some (.cells cs e (0,0)):=by rw[hheap]; exact Array.getElem?_push_size
  exact⟨_,_,rfl,rfl,abi (w':=w.drew.alloc (.cells cs e)) H hne hj hl2 hν2 hnext x1 x2 x3 (base':=some ⟨w.heap.size,0,none⟩) (cap':=q) hge rfl rfl rfl (by rw[hheap]; simp)
   (fun b hb=>.inr (by cases hb; exact cY _)) (fun b hb _=>by rw[hheap,eT]; simp[fJ hb]) (.inr ⟨w.heap.size,0,cs,e,rfl,hlast,by omega,fun m u hm=>by rw[du]; exact hget m u hm⟩)⟩
 rcases x4 with⟨rfl,rfl,rfl,rfl⟩|⟨b,off,c,e',rfl,p6,p7,p8,p9,p10⟩
 ·by_cases hy:yss=[]
  ·subst hy;have hu2:us2=[]:=dw.1 l2.symm;subst hu2;have hrun:=pP (P:=P) (w:=w) t ty e i ht hi base2 cap2;exact⟨_,w,hrun,rfl,abi H hne hj hl2 hν2 hnext x1 x2 x3 (base':=none) (cap':=0) (cY _) rfl rfl rfl (cY _) (fun b hb=>by cases hb) (fun b _ _=>rfl) (.inl ⟨rfl,rfl⟩)⟩
  ·have h0:0<yss.length:=gh.2 hy;obtain⟨a,rfl⟩:=hU2 hy;rw[dE,du] at hlen;have hb48:=ajK hlen hby;have hrun:=run_append_nil (P:=P) w t ty e i z ht hi hz a yss.length cap2 us2 (by rw[hsz]; omega) (c2 a rfl) h0 (by omega) (by omega);obtain⟨V,w',h1,h2,h3⟩:=hnew 0;refine⟨V,w',?_,h2,h3⟩;rw[←h1];simpa using hrun
 ·by_cases hroom:xss.length+yss.length≤cap
  ·have hrun:=oq (P:=P) (o:=off) (sLen:=xss.length) (sCap:=cap) t ty e i ht hi p6 base2 yss.length cap2 us2 (by rw[hsz]; omega) c2 n2 hone2 hroom (by rw[hsz]; omega);rw[hsz,f8] at hrun;obtain⟨cs,hcs⟩:∃cs,cs=(c.toList.take (off+xss.length)++us2++c.toList.drop (off+xss.length+us2.length)).toArray:=⟨_,rfl⟩
   have hsize:cs.size=c.size:=by
    rw[hcs];simp only[eY,dc,dm,gS,ft];omega
   have hget:∀(m:Nat) (u:Value),(us++us2)[m]?=some u→cs[off+m]?=some u:=fun m u hm=>by
    have hs:=pv c.toList us2 (off+xss.length) (off+m) (by rw[show c.toList.length=c.size from ft]; omega);rw[hcs,eM,hs];rw[eX] at hm
    split at hm
    ·rw[if_pos (by omega)];simpa using p9 m u hm
    ·have hml:=(df.1 hm).1;rw[if_neg (by omega),if_pos (by omega),show off+m-(off+xss.length)=m-us.length by omega];exact hm
   rw[←hcs] at hrun;have hh:(w.setRow b cs).heap[b]?=some (.cells cs e' (0,0)):=setRow_heap w b c _ e' _ p6
   exact⟨_,_,hrun,rfl,abi (w':=w.setRow b cs) H hne hj hl2 hν2 hnext x1 x2 x3 (base':=some ⟨b,off,none⟩) (cap':=cap) hroom rfl rfl rfl (by rw[vk]; exact cY _)
    (fun b' hb=>.inl (by cases hb; exact p10)) (fun b' hb hne'=>setRow_other w b b' _ fun he=>hne' (by rw[he]; rfl)) (.inr ⟨b,off,cs,e',rfl,hh,by omega,hget⟩)⟩
  ·have hy:yss≠[]:=fun e=>by rw[e,dE] at hroom; omega
   have h0:0<yss.length:=gh.2 hy;obtain⟨a,rfl⟩:=hU2 hy;have hrun:=run_append_grow (P:=P) w t ty e i z ht hi hz ⟨b,off,none⟩ xss.length cap us (by rw[hsz]; omega) (fun m u hm=>by rw[Ļ]; simp only[World.cell?,p6]; exact p9 m u hm) a yss.length cap2 us2 (by rw[hsz]; omega) (c2 a rfl) (by omega) (by omega) (growslice_fits (by omega) (ajK hlen hby));obtain⟨V,w',h1,h2,h3⟩:=hnew cap;exact⟨V,w',hrun.trans h1,h2,h3⟩
def asu {S:St} {a:Act} {nid n:Nat} {t:TypeId} {ps:Array (Nat×Operand)} {v:AV} (H:Sim ν S a w) (hn:nid<S.h.length) (hd:lkB S.h nid=.dead)
 (e:ahJ P S.h nid n t (ps.toList.map fun p=>(p.1,ev S.t p.2)) (fun v h=>some (v,h))=some (v,h')):iV P ν S.h w (Instr.buildSlice t n (ps.map fun(i,x)=>(i,a.eval x))) v h':=by
 cases hps:ps.toList with
 |nil=>rw[hps] at e; cases e
 |cons p l =>
 cases l with
 |cons q l=>rw[hps] at e; cases e
 |nil =>
 obtain⟨p1,x⟩:=p;rw[hps] at e;simp only[eV,fA,ahJ] at e;have hv:=ń H x
 cases hev:ev S.t x<;>rw[hev] at e<;>simp only at e<;>try (cases e; done)
 ·rename_i id g;rw[hev] at hv
  split at e<;>try (cases e; done)
  rename_i el hel
  split at e<;>try (cases e; done)
  rename_i hc
  split at e<;>try (cases e; done)
  rename_i k g' xs hl
  split at e<;>try (cases e; done)
  rename_i hgg;cases e;simp only[cZ] at hc;obtain⟨hrow,h0,h1⟩:=hc;obtain rfl:=dn h0;obtain rfl:=dn h1
  obtain rfl:g=g':=by simpa using hgg
  obtain⟨ti,z,hi,hsz,_,hby,hz,hzs⟩:=ld hrow;have hpa:ps=#[(0,x)]:=dX.1 (by rw[hps]);subst hpa;obtain⟨_,t2,g2,fz2,xs2,hl2,_,hv2⟩:=hv;rw[hl] at hl2;cases hl2
  have hm:((#[(0,x)]:Array (Nat×Operand)).map fun(i,x)=>(i,a.eval x))=#[(0,a.eval x)]:=by simp
  rw[hm];exact aqq H.heap hn hd (jY hel) hi hsz hz hzs hl rfl (hv2 rfl)
 ·rename_i id g;rw[hev] at hv
  split at e<;>try (cases e; done)
  rename_i el hel
  split at e<;>try (cases e; done)
  rename_i hc
  split at e<;>try (cases e; done)
  rename_i k g' xss hl
  split at e<;>try (cases e; done)
  rename_i hgg;cases e;simp only[cZ] at hc;obtain⟨hrow,h0,h1⟩:=hc;obtain rfl:=dn h0;obtain rfl:=dn h1
  obtain rfl:g=g':=by simpa using hgg
  obtain⟨ti,z,hi,hsz,_,hby,hz,hzs⟩:=ld hrow;have hpa:ps=#[(0,x)]:=dX.1 (by rw[hps]);subst hpa;obtain⟨_,k2,g2,xss2,hl2,_,hv2⟩:=hv;rw[hl] at hl2;cases hl2
  have hm:((#[(0,x)]:Array (Nat×Operand)).map fun(i,x)=>(i,a.eval x))=#[(0,a.eval x)]:=by simp
  rw[hm];exact aqp H.heap hn hd (jY hel) hi hsz hz hzs hl rfl (hv2 rfl)
def asv {nid:Nat} {t ty:TypeId} {s v:AV} {id2 g2:Nat} {us ux:Value} (H:HR ν h w) (hn:nid<h.length) (hd:lkB h nid=.dead)
 (e:afx P h nid t s id2 g2 (fun v h=>some (v,h))=some (v,h')) (hs:VR ν h w s us) (hx:VR ν h w (.dp id2 g2) ux):iV P ν h w (Builtin.append_ #[t,t] ty #[us,ux]) v h':=by
 unfold afx at e
 split at e<;>try (cases e; done)
 rename_i el hel
 split at e<;>try (cases e; done)
 rename_i hrow
 split at e<;>try (cases e; done)
 rename_i k g2' yss hl2
 split at e<;>try (cases e; done)
 rename_i hgg
 obtain rfl:g2=g2':=by simpa using hgg
 obtain⟨ti,z,hi,hsz,_,hby,hz,hzs⟩:=ld hrow;have ht:=jY hel;have hid2:id2<h.length:=ik hl2 (by simp);obtain⟨_,k2,g3,yss2,hl3,_,hv2⟩:=hx;rw[hl2] at hl3; cases hl3;obtain⟨us2,hν2⟩:=hv2 rfl;obtain⟨base2,cap2,us2',q1,_⟩:=H.table hl2;have q1':=q1;rw[hν2] at q1;have q:=mn q1
 injection q with e1 e2
 subst e1 e2
 split at e
 ·-- nil
  split at e<;>try (cases e; done)
  rename_i hok;cases e;have hus:us=.slice none 0 0:=hs;subst hus
  have hne:id2≠nid:=fun e=>by rw[e,hd] at hl2; cases hl2
  obtain⟨V,w',h1,h2,h3,h4⟩:=afw H t ty ht hi hz hsz hby hzs hne hn (g':=0) (xss:=[]) (us:=[]) hl2 hν2 (fun W=>by rw[hd]; trivial) (.inl ⟨rfl,rfl,rfl,rfl⟩) (by simp[ã] at hok; simpa using hok);refine⟨_,w',V,h1,⟨h2,k,0,yss,ò _ (by rw[Û]; exact hn),cY _,fun _=>⟨_,Ý _ _ _⟩⟩,h4,h3,by rw[Û,Û]⟩
 ·rename_i id g
  split at e<;>try (cases e; done)
  rename_i hid
  split at e<;>try (cases e; done)
  rename_i k' g' xss hl
  split at e<;>try (cases e; done)
  rename_i hg
  split at e<;>try (cases e; done)
  rename_i hk _;subst hk
  split at e<;>try (cases e; done)
  rename_i hok
  obtain rfl:g=g':=by simpa using hg
  cases e
  have hne:id2≠id:=fun e=>by rw[e] at hid; simp at hid
  have hidl:id<h.length:=ik hl (by simp);obtain⟨_,k3,g4,xss3,hl4,_,hv3⟩:=hs;rw[hl] at hl4; cases hl4;obtain⟨us1,hν1⟩:=hv3 rfl;obtain⟨base,cap,us1',p1,_⟩:=H.table hl;rw[hν1] at p1;have q:=mn p1
  injection q with e1 e2
  subst e1 e2;obtain⟨V,w',h1,h2,h3,h4⟩:=afw H t ty ht hi hz hsz hby hzs hne hidl (g':=g+1) (xss:=xss) (us:=us1) hl2 hν2 (fun W=>by rw[hl]; exact⟨g+1,xss++yss,rfl,gk _,fun hf=>by omega⟩) (.inr ⟨g,hl,hν1⟩) (by simpa[ã] using hok);refine⟨_,w',V,h1,⟨h2,_,g+1,xss++yss,ò _ (by rw[Û]; exact hidl),cY _,fun _=>⟨_,Ý _ _ _⟩⟩,h4,h3,by rw[Û,Û]⟩
 ·cases e
end
end Go.Am
end

noncomputable section
namespace Go.Am
variable {ρ:Type}
def EK (k:IntKind) (n:Int) (K:AV→Option ρ):arK k n K=(arK k n some).bind K:=rfl
def BA (P:Program) (op:BinOp) (t:TypeId) (x y:AV) (K:AV→Option ρ):binK P op t x y K=(binK P op t x y some).bind K:=by
 unfold binK; (repeat' split)<;>first|rfl|exact EK _ _ _
def A3 (d:Option TypeDesc) (h:List Blk) (x:AV) (K:AV→Option ρ):ap6 d h x K=(ap6 d h x some).bind K:=by
 unfold ap6; (repeat' split)<;>rfl
def pF (sz:Nat) (h:List Blk) (x i:AV) (K:AV→Option ρ):HE sz h x i K=(HE sz h x i some).bind K:=by
 unfold HE; (repeat' split)<;>rfl
def pz (h:List Blk) (x:AV) (o:Nat) (K:AV→Option ρ):B3 h x o K=(B3 h x o some).bind K:=by
 unfold B3; (repeat' split)<;>rfl
def uH (P:Program) (h:List Blk) (t:TypeId) (a:AV) (K:AV→Option ρ):VW P h t a K=(VW P h t a some).bind K:=by
 unfold VW; (repeat' split)<;>rfl
def pu (P:Program) (h:List Blk) (t:TypeId) (a v:AV) (K:List Blk→Option ρ):xa P h t a v K=(xa P h t a v some).bind K:=by
 unfold xa; (repeat' split)<;>rfl
def AK (sz:Nat) (h:List Blk) (x:AV) (lo hi:Option AV) (eat:Bool) (K:AV→List Blk→Option ρ) :
 qV sz h x lo hi eat K=(qV sz h x lo hi eat fun v h=>some (v,h)).bind fun r=>K r.1 r.2:=by
 unfold qV; (repeat' split)<;>rfl
def wZ (P:Program) (h:List Blk) (nid:Nat) (t:TypeId) (s x:AV) (K:AV→List Blk→Option ρ) :
 AD P h nid t s x K=(AD P h nid t s x fun v h=>some (v,h)).bind fun r=>K r.1 r.2:=by
 unfold AD; (repeat' split)<;>rfl
def Im (P:Program) (h:List Blk) (nid:Nat) (t:TypeId) (s:AV) (id g:Nat) (K:AV→List Blk→Option ρ) :
 afx P h nid t s id g K=(afx P h nid t s id g fun v h=>some (v,h)).bind fun r=>K r.1 r.2:=by
 unfold afx; (repeat' split)<;>rfl
def Ii (P:Program) (h:List Blk) (nid n:Nat) (t:TypeId) (ps:List (Nat×AV)) (K:AV→List Blk→Option ρ) :
 ahJ P h nid n t ps K=(ahJ P h nid n t ps fun v h=>some (v,h)).bind fun r=>K r.1 r.2:=by
 unfold ahJ; (repeat' split)<;>rfl
def AH (P:Program) (h:List Blk) (nid:Nat) (t:TypeId) (s x:AV) (K:AV→List Blk→Option ρ) :
 Lm P h nid t s x K=(Lm P h nid t s x fun v h=>some (v,h)).bind fun r=>K r.1 r.2:=by
 unfold Lm; (repeat' split)<;>rfl
def Bt (P:Program) (h:List Blk) (t:TypeId) (x:AV) (K:List Blk→Option ρ):Mb P h t x K=(Mb P h t x some).bind K:=by
 unfold Mb; (repeat' split)<;>rfl
def m7 (P:Program) (h:List Blk) (t:TypeId) (m i:AV) (ok:Bool) (K:AV→Option ρ):oD P h t m i ok K=(oD P h t m i ok some).bind K:=by
 unfold oD; (repeat' split)<;>rfl
def np (P:Program) (h:List Blk) (t:TypeId) (m i x:AV) (K:List Blk→Option ρ):lg P h t m i x K=(lg P h t m i x some).bind K:=by
 unfold lg; (repeat' split)<;>rfl
def iH (gt:Bool) (l:List AV) (K:AV→Option ρ):∀x,lH gt x l K=(lH gt x l some).bind K:=by
 induction l with
 |nil=>intro x; rfl
 |cons y l ih =>
  intro x
  cases x<;>cases y<;>try rfl
  unfold lH; (repeat' split)<;>first|rfl|exact ih _
def opR (P:Program) (S:St) (nid:Nat) (eat:Bool) (o:Op):Option (AV×St):=opK P S nid eat o fun v S=>some (v,S)
def ŵ {α β γ:Type} {x:Option α} {y:Option β} {f:α→Option β} {g:β→Option γ} {k:α→Option γ} {z:Option γ}
 (h1:z=x.bind k) (h2:y=x.bind f) (h:∀a,k a=(f a).bind g):z=y.bind g:=by
 subst h1 h2; cases x with
 |none=>rfl
 |some a=>exact h a
def iX (j:Int) (K:Nat→Option ρ):∀(n q:Nat),acs n q j K=(acs n q j some).bind K
 |0,_=>rfl
 |n+1,q=>by
  unfold acs
  split
  ·rfl
  ·exact iX j K n (q+1)
def IX {j:Int} {v:Nat}:∀{n q:Nat},acs n q j some=some v→j=(v:Int)∧q≤v∧v<q+n
 |0,_,h=>by cases h
 |n+1,q,h=>by
  unfold acs at h
  split at h
  ·rename_i hd;cases h;exact⟨of_decide_eq_true hd,cY _,by omega⟩
  ·obtain⟨h1,h2,h3⟩:=IX h;exact⟨h1,by omega,by omega⟩
def Yk (P:Program) (S:St) (nid:Nat) (eat:Bool) (o:Op) (K:AV→St→Option ρ) :
 opK P S nid eat o K=(opR P S nid eat o).bind fun r=>K r.1 r.2:=by
 unfold opR;unfold opK;dsimp only
 (repeat' split)<;>first
  |rfl
  |exact ŵ (A3 ..) (A3 ..) fun _=>rfl
  |exact ŵ (uH ..) (uH ..) fun _=>rfl
  |exact ŵ (pu ..) (pu ..) fun _=>rfl
  |exact ŵ (BA ..) (BA ..) fun _=>rfl
  |exact ŵ (np ..) (np ..) fun _=>rfl
  |exact ŵ (m7 ..) (m7 ..) fun _=>rfl
  |exact ŵ (wZ ..) (wZ ..) fun _=>rfl
  |exact ŵ (Im ..) (Im ..) fun _=>rfl
  |exact ŵ (Ii ..) (Ii ..) fun _=>rfl
  |exact ŵ (AH ..) (AH ..) fun _=>rfl
  |exact ŵ (Bt ..) (Bt ..) fun _=>rfl
  |exact ŵ (iH _ _ _ _) (iH _ _ _ _) fun _=>rfl
  |exact ŵ (EK ..) (EK ..) fun _=>rfl
  |exact ŵ (AK ..) (AK ..) fun _=>rfl
  |exact ŵ (pz ..) (pz ..) fun _=>rfl
  |exact ŵ (pF ..) (pF ..) fun _=>rfl
  |exact ŵ (iX ..) (iX ..) fun _=>rfl
  |exact ŵ (iX ..) (iX ..) fun _=>by(repeat' split)<;>rfl
end Go.Am
end

noncomputable section
namespace Go.Am
variable [ô]
section
variable {ν ν':Nat→Value} {w w':World} {P:Program}
def alr (ν:Nat→Value) (S:St) (w:World) (r:Result Next) (v:AV) (S':St):Prop :=
 ∃ν' w' u,(r=.ok (.value u) w'∨(r=.ok .skip w'∧u=undef))∧VR ν' S'.h w' v u∧HR ν' S'.h w'∧Ev S.h.length ν S.h w ν' S'.h w'∧S'.h.length=S.h.length∧S'.t=S.t
def iV.step {S:St} {x:Sem Value} {v:AV} {h':List Blk} (hd:iV P ν S.h w x v h') :
 alr ν S w ((do let u ←x; pure (.value u):Sem Next).run P w) v {t:=S.t,h:=h'}:=by
 obtain⟨ν',w',u,h1,h2,h3,h4,h5⟩:=hd;refine⟨ν',w',u,.inl ?_,h2,h3,h4,h5,rfl⟩;simp[h1]
def alr.still {S:St} {r:Result Next} {v:AV} {u:Value} (H:HR ν S.h w) (hr:r=.ok (.value u) w) (hv:VR ν S.h w v u):alr ν S w r v S :=
 ⟨ν,w,u,.inl hr,hv,H,Ev.refl _ _ _ _,rfl,rfl⟩
def ab0 {S:St} {x:Sem Unit} {h':List Blk} (hd:∃w',x.run P w=.ok () w'∧HR ν h' w'∧Ev S.h.length ν S.h w ν h' w'∧h'.length=S.h.length) :
 alr ν S w ((do x; pure .skip:Sem Next).run P w) .any {t:=S.t,h:=h'}:=by
 obtain⟨w',h1,h3,h4,h5⟩:=hd;refine⟨ν,w',undef,.inr ⟨?_,rfl⟩,trivial,h3,h4,h5,rfl⟩;simp[h1]
def anc {a:AV} {v:Value} {h:List Blk} (hi:isV0 a=true) (hv:VR ν h w a v):VR0 ν h w a v:=by
 have h1:a.isFn=false:=by cases a<;>first|rfl|cases hi
 have h2:a.isAgg=false:=by cases a<;>first|rfl|cases hi
 have h3:a.isTup=false:=by cases a<;>first|rfl|cases hi
 rwa [Lg h3,XK h2,Tq h1] at hv
def Ć.of_map {α β γ:Type} {R:β→γ→Prop} {f:α→β} {g:α→γ}:∀{l:List α},(∀x∈l,R (f x) (g x))→Ć R (l.map f) (l.map g)
 |[],_=>trivial
 |x::l,h=>⟨h x (by simp),Ć.of_map fun y hy=>h y (by simp[hy])⟩
def apI (k:IntKind) (a b:Int):(Builtin.max2 (.int k a) (.int k b)).run P w=.ok (.int k (TC a b)) w:=rfl
def apH (k:IntKind) (a b:Int):(Builtin.min2 (.int k a) (.int k b)).run P w=.ok (.int k (Xh a b)) w:=rfl
def amc {S:St} {a:Act} {x y:Operand} (h:Dq x y=true):a.eval x=a.eval y:=by
 unfold Dq at h
 split at h
 ·have:=eq_of_beq h; subst this; rfl
 ·have:=of_decide_eq_true h; subst this; rfl
 ·cases h
def ż {α β:Type} {x:Option α} {f:α→Option β} {r:β} (h:x.bind f=some r):∃a,x=some a∧f a=some r:=by
 cases x with
 |none=>cases h
 |some a=>exact⟨a,rfl,h⟩
def arr1 {α:Type} {a:Array α} {x:α} (h:a.toList=[x]):a=#[x]:=fi (by simpa using h)
def arr2 {α:Type} {a:Array α} {x y:α} (h:a.toList=[x,y]):a=#[x,y]:=fi (by simpa using h)
def kO {S:St} {a:Act} {o:Oper} {b:Builtin} {args:Array Operand} {tys:Array TypeId} {f:Array TypeId→TypeId→Array Value→Sem Value} (hop:o.op=.call ⟨.builtin b,args,tys⟩)
 (hb:∀consts vs,builtin b tys o.type consts vs=(do pure (.value (←f tys o.type vs)):Sem Next)) :
 execOp a.eval o=(do let u ←f tys o.type (args.map a.eval); pure (.value u)):=by
 unfold execOp;rw[hop];simp only[resolve,pure_bind,invoke,hb]
def apQ {S S':St} {a:Act} {o:Oper} {nid:Nat} {eat:Bool} {v:AV} {clone:Nat→Bool} (H:Sim ν S a w) (hn:Ď clone o.op=true→nid<S.h.length∧lkB S.h nid=.dead)
 (e:opR P S nid eat o.op=some (v,S')):alr ν S w ((execOp a.eval o).run P w) v S':=by
 have hr:=H.heap
 cases hop:o.op with
 |move x =>
  rw[hop] at e; cases e;exact alr.still hr (by unfold execOp; rw[hop]; rfl) (ń H x)
 |assign x =>
  rw[hop] at e; cases e;exact alr.still hr (by unfold execOp; rw[hop]; rfl) (ń H x)
 |pick c x y =>
  rw[hop] at e;simp only[opR,opK] at e
  split at e<;>try (cases e; done)
  rename_i b hb;have hc:=ń H c;rw[hb] at hc;have hc:a.eval c=.bool b:=hc
  have hx:(execOp a.eval o).run P w=.ok (.value (if b then a.eval x else a.eval y)) w:=by unfold execOp; rw[hop]; simp[asBool,hc]
  split at e
  ·cases e; exact alr.still hr hx (ń H x)
  ·cases e; exact alr.still hr hx (ń H y)
 |box el x =>
  rw[hop] at e;simp only[opR,opK] at e
  split at e<;>try (cases e; done)
  rename_i cs hcs
  have hx:execOp a.eval o=(do let u ←Instr.box el (a.eval x); pure (.value u)):=by unfold execOp; rw[hop]
  rw[hx]
  split at e
  ·split at e<;>try (cases e; done)
   split at e<;>try (cases e; done)
   rename_i y hy;cases e;exact(asG hr hcs hy (ń H x)).step
  ·cases e;obtain⟨h1,h2⟩:=hn (by rw[hop]; rfl);exact(box_ok hr h1 h2 hcs (ń H x)).step
 |alloc el =>
  rw[hop] at e;simp only[opR,opK] at e
  split at e<;>try (cases e; done)
  rename_i z hz
  split at e<;>try (cases e; done)
  rename_i cs hcs;cases e;obtain⟨h1,h2⟩:=hn (by rw[hop]; rfl)
  have hx:execOp a.eval o=(do let u ←Instr.alloc el true (.tuple #[]); pure (.value u)):=by unfold execOp; rw[hop]
  rw[hx];exact(aqX hr h1 h2 hz hcs).step
 |build t ps =>
  rw[hop] at e;simp only[opR,opK] at e
  have hx:execOp a.eval o=(do let u ←Instr.build t (ps.map fun(i,x)=>(i,a.eval x)); pure (.value u)):=by unfold execOp; rw[hop]
  rw[hx]
  split at e<;>try (cases e; done)
  ·rename_i fs ht
   split at e<;>try (cases e; done)
   rename_i hfs
   split at e<;>try (cases e; done)
   rename_i z hz
   split at e<;>try (cases e; done)
   rename_i zs hzs
   split at e<;>try (cases e; done)
   rename_i cs hcs;cases e;exact(V1 H ht hfs hz hzs hcs).step
  ·rename_i n el ht
   split at e<;>try (cases e; done)
   rename_i sz z hs hz
   split at e<;>try (cases e; done)
   rename_i zs hzs
   split at e<;>try (cases e; done)
   rename_i cs hcs;cases e;exact(ah5 H ht hs hz hzs hcs).step
 |buildSlice t n ps =>
  rw[hop] at e
  have hx:execOp a.eval o=(do let u ←Instr.buildSlice t n (ps.map fun(i,x)=>(i,a.eval x)); pure (.value u)):=by unfold execOp; rw[hop]
  rw[hx];obtain⟨h1,h2⟩:=hn (by rw[hop]; rfl);simp only[opR,opK] at e
  split at e
  ·rw[Ii] at e;obtain⟨⟨v',h'⟩,h3,h4⟩:=ż e;cases h4;exact(asu H h1 h2 h3).step
  split at e<;>try (cases e; done)
  rename_i el hel
  split at e<;>try (cases e; done)
  rename_i ty hty
  split at e<;>try (cases e; done)
  rename_i hc;simp only[cZ,beq_iff_eq,decide_eq_true_eq] at hc
  split at e<;>try (cases e; done)
  rename_i xs hxs;cases e;exact(aby H h1 h2 hel hc.1 hc.2.1 hc.2.2 hxs).step
 |load t x =>
  rw[hop] at e;simp only[opR,opK] at e;rw[uH] at e;obtain⟨v',h1,h2⟩:=ż e;cases h2
  have hx:execOp a.eval o=(do let u ←Instr.loadAt t (a.eval x); pure (.value u)):=by unfold execOp; rw[hop]
  rw[hx];obtain⟨u,h3,h4⟩:=am2 hr h1 (ń H x);exact(iV.still hr h3 h4).step
 |store t x y =>
  rw[hop] at e;simp only[opR,opK] at e
  have hx:execOp a.eval o=(do Instr.storeAt t (a.eval x) (a.eval y); pure .skip):=by unfold execOp; rw[hop]
  rw[hx]
  split at e
  ·split at e<;>try (cases e; done)
   rename_i id g lo n hsub
   split at e<;>try (cases e; done)
   rename_i ty g' xs hl
   split at e<;>try (cases e; done)
   rename_i hc;simp only[cZ,beq_iff_eq,decide_eq_true_eq] at hc;obtain⟨rfl,hln⟩:=hc;rw[pu] at e;obtain⟨h',h1,h2⟩:=ż e;cases h2;have hy:=ń H y;rw[hsub] at hy;obtain⟨ν1,v1,H1,ev1⟩:=asr hr hl hln hy;obtain⟨w',k1,k2,k3,k4⟩:=aiz H1 h1 ((ń H x).ev ev1) v1;refine⟨ν1,w',undef,.inr ⟨?_,rfl⟩,trivial,k2,ev1.trans k3 (Nat.le_of_eq (Û _ _ _).symm),k4.trans (Û _ _ _),rfl⟩;simp[k1]
  ·rw[pu] at e;obtain⟨h',h1,h2⟩:=ż e;cases h2;exact ab0 (aiz hr h1 (ń H x) (ń H y))
 |nilCheck x =>
  rw[hop] at e;simp only[opR,opK] at e;have hv:=ń H x
  split at e<;>try (cases e; done)
  ·rename_i id off he;cases e;rw[he] at hv;have hv':=hv;obtain⟨cs,b,h1,h2,h3⟩:=hv';exact alr.still hr (by unfold execOp; rw[hop]; simp only[h3]; rfl) (h3▸hv)
  ·rename_i t x' off he;cases e;rw[he] at hv;have hv':=hv;obtain⟨b,o',us,h3,h4⟩:=hv';exact alr.still hr (by unfold execOp; rw[hop]; simp only[h3]; rfl) (h3▸hv)
  ·rename_i id g i off he
   split at e<;>try (cases e; done)
   rename_i t g' fz xs hl
   split at e<;>try (cases e; done)
   rename_i hgg;cases e;rw[he] at hv;have hv':=hv;obtain⟨ho,t2,g2,fz2,xs2,hl2,hle,hf⟩:=hv';rw[hl] at hl2; cases hl2;obtain⟨_,b,o',cap,_,h3⟩:=hf (eq_of_beq hgg);exact alr.still hr (by unfold execOp; rw[hop]; simp only[h3]; rfl) (h3▸hv)
 |binOp op t x y yt =>
  rw[hop] at e;simp only[opR,opK] at e;rw[BA] at e;obtain⟨v',h1,h2⟩:=ż e;cases h2
  have hx:execOp a.eval o=(do let u ←(do eqGuard op t x y (a.eval x) (a.eval y); binOp op t (a.eval x) (a.eval y)); pure (.value u)):=by unfold execOp; rw[hop]
  rw[hx];exact(aqU x y hr h1 (ń H x) (ń H y)).step
 |unOp op t x =>
  rw[hop] at e;simp only[opR,opK] at e
  have hx:execOp a.eval o=(do let u ←Op.unary op (a.eval x); pure (.value u)):=by unfold execOp; rw[hop]
  rw[hx];have hv:=ń H x
  split at e<;>try (cases e; done)
  ·rename_i b he;cases e;rw[he] at hv;exact(alP (op:=.not) hr hv rfl).step
  ·rename_i k n he;rw[EK] at e;obtain⟨v',h1,h2⟩:=ż e;cases h2;rw[he] at hv;exact(alP (op:=.neg) hr hv h1).step
 |convert src dst x =>
  rw[hop] at e;simp only[opR,opK] at e
  have hx:execOp a.eval o=(do let u ←convert src dst (a.eval x); pure (.value u)):=by unfold execOp; rw[hop]
  rw[hx];have hv:=ń H x
  split at e<;>try (cases e; done)
  rename_i d k k' n hs hd he;cases e;rw[he] at hv;have hv:a.eval x=.int k' n:=hv;refine(iV.still (v:=.int k (k.wrap n)) (u:=.int k (k.wrap n)) hr ?_ rfl).step;rw[hv];simp only[convert,Sem.run_bind,run_underlying hs,run_underlying hd,Result.andThen_ok];simp[Conv.intToInt]
 |makeFunc fn first caps =>
  rw[hop] at e;simp only[opR,opK] at e
  split at e<;>try (cases e; done)
  rename_i hc;simp only[cZ,dN] at hc;cases e
  have hx:execOp a.eval o=(do let u ←Instr.makeFunc fn (first.map a.eval) (caps.map a.eval); pure (.value u)):=by unfold execOp; rw[hop]
  rw[hx];refine(iV.still (v:=.fn fn (first.toList.map (ev S.t)) (caps.toList.map (ev S.t))) (u:=.func fn (first.map a.eval) (caps.map a.eval)) hr rfl ⟨_,_,rfl,?_,?_⟩).step
  ·rw[gg];exact Ć.of_map fun x hx=>anc (hc.1 _ (List.mem_map_of_mem hx)) (ń H x)
  ·rw[gg];exact Ć.of_map fun x hx=>anc (hc.2 _ (List.mem_map_of_mem hx)) (ń H x)
 |makeMap t r =>
  rw[hop] at e;simp only[opR,opK] at e
  split at e<;>try (cases e; done)
  rename_i kt et ht
  split at e<;>try (cases e; done)
  rename_i k v' hk hv
  split at e<;>try (cases e; done)
  cases e;obtain⟨h1,h2⟩:=hn (by rw[hop]; rfl)
  have hx:execOp a.eval o=(do let u ←Instr.makeMap t none; pure (.value u)):=by unfold execOp; rw[hop]; rfl
  rw[hx];exact(aks k v' hr h1 h2).step
 |makeSlice t l c =>
  rw[hop] at e;simp only[opR,opK] at e
  split at e<;>try (cases e; done)
  rename_i k n el hsame hl hel
  split at e<;>try (cases e; done)
  rename_i ty hty
  split at e<;>try (cases e; done)
  rename_i hrow
  split at e<;>try (cases e; done)
  rename_i zs hzs
  split at e<;>try (cases e; done)
  rename_i z hz
  split at e<;>try (cases e; done)
  rename_i hb;simp only[cZ,decide_eq_true_eq,ã] at hb;cases e;obtain⟨h1,h2⟩:=hn (by rw[hop]; rfl);have hv:=ń H l;rw[hl] at hv;have hv:a.eval l=.int k n:=hv
  have hc:a.eval c=.int k n:=by rw[←amc (S:=S) hsame,hv]
  have hx:execOp a.eval o=(do let u ←Instr.makeSlice t (.int k n) (.int k n); pure (.value u)):=by unfold execOp; rw[hop]; simp only[hv,hc]
  rw[hx];exact(adc hr h1 h2 hel hrow hzs hz hb.1 hb.2).step
 |slice t x lo hi mx =>
  rw[hop] at e;simp only[opR,opK] at e
  split at e<;>try (cases e; done)
  rename_i el ht
  split at e<;>try (cases e; done)
  rename_i sz hs;rw[AK] at e;obtain⟨⟨v',h'⟩,h1,h2⟩:=ż e;cases h2
  have hx:execOp a.eval o=(do let u ←Instr.sliceAt t (a.eval x) (lo.map a.eval) (hi.map a.eval) none; pure (.value u)):=by unfold execOp; rw[hop]; rfl
  rw[hx];refine(apC hr ht hs h1 (ń H x) (fun y hy=>?_) (fun hy=>?_) (fun y hy=>?_) (fun hy=>?_)).step
  ·cases lo with
   |none=>cases hy
   |some l=>cases hy; exact⟨_,rfl,ń H l⟩
  ·cases lo with
   |none=>rfl
   |some l=>cases hy
  ·cases hi with
   |none=>cases hy
   |some l=>cases hy; exact⟨_,rfl,ń H l⟩
  ·cases hi with
   |none=>rfl
   |some l=>cases hy
 |fieldAddr t x f =>
  rw[hop] at e;simp only[opR,opK] at e
  split at e<;>try (cases e; done)
  rename_i fs ht
  split at e<;>try (cases e; done)
  rename_i fd hf
  split at e<;>try (cases e; done)
  rename_i n hs;rw[pz] at e;obtain⟨v',h1,h2⟩:=ż e;cases h2
  have hx:execOp a.eval o=(do let u ←Instr.fieldAt t (a.eval x) f; pure (.value u)):=by unfold execOp; rw[hop]
  rw[hx];exact(afr hr ht hf hs h1 (ń H x)).step
 |field t x f =>
  rw[hop] at e;simp only[opR,opK] at e;have hv:=ń H x
  split at e<;>try (cases e; done)
  rename_i fs cs ht hc
  split at e<;>try (cases e; done)
  rename_i fd hf
  split at e<;>try (cases e; done)
  rename_i agg n hl
  split at e<;>try (cases e; done)
  rename_i ds hg
  split at e<;>try (cases e; done)
  rename_i v' hm;cases e;rw[hc] at hv
  have hx:execOp a.eval o=(do let u ←Instr.field t (a.eval x) f; pure (.value u)):=by unfold execOp; rw[hop]
  rw[hx];exact(aqj hr ht hf hl hg hm hv).step
 |indexAddr t x i =>
  rw[hop] at e;simp only[opR,opK] at e
  have hx:execOp a.eval o=(do let u ←Instr.indexAt t (a.eval x) (a.eval i); pure (.value u)):=by unfold execOp; rw[hop]
  rw[hx]
  split at e<;>try (cases e; done)
  ·rename_i el ht
   split at e<;>try (cases e; done)
   rename_i sz hs;rw[pF] at e;obtain⟨v',h1,h2⟩:=ż e;cases h2;exact(aqb hr ht hs h1 (ń H x) (ń H i)).step
  ·rename_i n el ht;have hv:=ń H x;have hi:=ń H i
   split at e<;>try (cases e; done)
   rename_i id off k j hx' hi'
   split at e<;>try (cases e; done)
   rename_i sz hs;rw[iX] at e;obtain⟨q,h1,h2⟩:=ż e;obtain⟨rfl,_,hb⟩:=IX h1;cases h2;rw[hx'] at hv;rw[hi'] at hi;have hi:a.eval i=.int k (q:Int):=hi;rw[hi];have:=(Si hr ht (j:=(q:Int)) (k:=k) ⟨by omega,by omega⟩ hs hv).step;simpa using this
 |index t x i =>
  rw[hop] at e;simp only[opR,opK] at e
  have hx:execOp a.eval o=(do let u ←Instr.index t (a.eval x) (a.eval i); pure (.value u)):=by unfold execOp; rw[hop]
  rw[hx];have hv:=ń H x;have hi:=ń H i
  split at e<;>try (cases e; done)
  rename_i n el cs k j ht hx' hi';rw[iX] at e;obtain⟨q,h1,h2⟩:=ż e;obtain⟨rfl,_,hb⟩:=IX h1
  split at h2<;>try (cases h2; done)
  rename_i agg m hl
  split at h2<;>try (cases h2; done)
  rename_i ds hg
  split at h2<;>try (cases h2; done)
  rename_i v' hm;cases h2;rw[hx'] at hv;rw[hi'] at hi;have hi:a.eval i=.int k (q:Int):=hi;rw[hi];exact(ahA hr ht (j:=(q:Int)) (k:=k) ⟨by omega,by omega⟩ hl (by simpa using hg) hm hv).step
 |lookup t m i ok =>
  rw[hop] at e;simp only[opR,opK] at e;rw[m7] at e;obtain⟨v',h1,h2⟩:=ż e;cases h2
  have hx:execOp a.eval o=(do let u ←Instr.lookup t (a.eval m) (a.eval i) ok; pure (.value u)):=by unfold execOp; rw[hop]
  rw[hx];exact(amY hr h1 (ń H m) (ń H i)).step
 |mapUpdate t m i x =>
  rw[hop] at e;simp only[opR,opK] at e;rw[np] at e;obtain⟨h',h1,h2⟩:=ż e;cases h2
  have hx:execOp a.eval o=(do Instr.mapUpdate t (a.eval m) (a.eval i) (a.eval x); pure .skip):=by unfold execOp; rw[hop]
  rw[hx];exact ab0 (ada hr h1 (ń H m) (ń H i) (ń H x))
 |extract x i =>
  rw[hop] at e;simp only[opR,opK] at e;have hv:=ń H x
  split at e<;>try (cases e; done)
  rename_i vs hvs
  split at e<;>try (cases e; done)
  rename_i v' hv';cases e;rw[hvs] at hv;obtain⟨us,hu,h2⟩:=hv;obtain⟨u,h3,h4⟩:=h2.get hv';refine alr.still hr (u:=u) (by unfold execOp; rw[hop]; simp only[hu]; simp at h3; simp[Instr.extract,h3]) ?_
  cases ht:v.isTup with
  |true =>
   cases v<;>try cases ht
   exact h4.elim
  |false=>rw[Lg ht]; exact h4
 |call c =>
  obtain⟨f,args,tys⟩:=c;rw[hop] at e
  cases f with
  |value f=>cases e
  |invoke r n=>cases e
  |builtin b =>
   simp only[opR,opK] at e
   split at e
   ·-- len
    rename_i x t rest hargs htys;rw[A3] at e;obtain⟨v',h1,h2⟩:=ż e;cases h2;rw[kO (S:=S) (f:=Builtin.len_) hop (fun _ _=>rfl),arr1 hargs,show Array.map a.eval #[x]=#[a.eval x] by simp]
    have ht0:tys[0]?=some t:=by rw[←gu,htys]; rfl
    exact(len_ok hr h1 (ń H x) ht0).step
   ·rename_i s x t t' hargs htys;obtain⟨h1,h2⟩:=hn (by rw[hop]; rfl);rw[kO (S:=S) (f:=Builtin.append_) hop (fun _ _=>rfl),arr2 hargs,arr2 htys,show Array.map a.eval #[s,x]=#[a.eval s,a.eval x] by simp]
    split at e
    ·rename_i htt;have htt:=eq_of_beq htt;subst htt;have hvx:=ń H x
     split at e
     ·rename_i id g hdp;rw[hdp] at hvx;rw[Im] at e;obtain⟨⟨v',h'⟩,h3,h4⟩:=ż e;cases h4;exact(asv hr h1 h2 h3 (ń H s) hvx).step
     ·rw[wZ] at e;obtain⟨⟨v',h'⟩,h3,h4⟩:=ż e;cases h4;exact(aoB hr h1 h2 h3 (ń H s) hvx).step
    ·split at e<;>try (cases e; done)
     rename_i hu;rw[AH] at e;obtain⟨⟨v',h'⟩,h3,h4⟩:=ż e;cases h4;exact(apc hr h1 h2 hu h3 (ń H s) (ń H x)).step
   ·rename_i x t hargs htys
    split at e<;>try (cases e; done)
    rename_i d hd;rw[Bt] at e;obtain⟨h',h1,h2⟩:=ż e;cases h2;rw[kO (S:=S) (f:=Builtin.clear_) hop (fun _ _=>rfl),arr1 hargs,show Array.map a.eval #[x]=#[a.eval x] by simp]
    have ht0:tys[0]?=some t:=by rw[←gu,htys]; rfl
    exact(aqy ht0 hr h1 (by rw[hd]; rfl) (ń H x)).step
   ·rename_i x t rest hargs htys
    split at e<;>try (cases e; done)
    rename_i el ht hx;cases e;have hv:=ń H x;rw[hx] at hv;have hv:a.eval x=.slice none 0 0:=hv;rw[kO (S:=S) (f:=Builtin.cap_) hop (fun _ _=>rfl),arr1 hargs]
    have ht0:tys[0]?=some t:=by rw[←gu,htys]; rfl
    exact(iV.still (v:=.int .i64 0) (u:=.int .i64 0) hr (by simp[Builtin.cap_,ht0,hv,run_underlying ht,goInt]) rfl).step
   ·rename_i x xs hargs;rw[iH] at e;obtain⟨v',h1,h2⟩:=ż e;cases h2;rw[kO (S:=S) (f:=Builtin.min_) hop (fun _ _=>rfl)];obtain⟨u,h3,h4⟩:=Pa (P:=P) (f:=Builtin.min2) (gt:=false) (fun k p q=>apH k p q) (xs.map (ev S.t)) (xs.map a.eval) _ v (a.eval x) h1 (ń H x) (Ć.of_map fun y _=>ń H y);refine(iV.still hr ?_ h4).step;simp only[Builtin.min_,gg,hargs,eV];exact h3
   ·rename_i x xs hargs;rw[iH] at e;obtain⟨v',h1,h2⟩:=ż e;cases h2;rw[kO (S:=S) (f:=Builtin.max_) hop (fun _ _=>rfl)];obtain⟨u,h3,h4⟩:=Pa (P:=P) (f:=Builtin.max2) (gt:=true) (fun k p q=>apI k p q) (xs.map (ev S.t)) (xs.map a.eval) _ v (a.eval x) h1 (ń H x) (Ć.of_map fun y _=>ń H y);refine(iV.still hr ?_ h4).step;simp only[Builtin.max_,gg,hargs,eV];exact h3
   ·cases e
 |_=>rw[hop] at e; cases e
end
end Go.Am
end

noncomputable section
namespace Go.Am
variable [ô]
def Ŋ (nid:Nat) (h h':List Blk):Prop:=∀j,j≠nid→lkB h j=.dead→lkB h' j=.dead
def Ŋ.refl (nid:Nat) (h:List Blk):Ŋ nid h h:=fun _ _ hd=>hd
def Ŋ.upd {nid id:Nat} {h:List Blk} (B:Blk) (hl:id=nid∨lkB h id≠.dead):Ŋ nid h (ć h id B):=fun j hj hd=>by
 rw[ó]
 ·exact hd
 ·rintro rfl;rcases hl with rfl|hl
  ·exact hj rfl
  ·exact hl hd
def Ŋ.trans {nid:Nat} {h h' h'':List Blk} (h1:Ŋ nid h h') (h2:Ŋ nid h' h''):Ŋ nid h h'':=fun j hj hd=>h2 j hj (h1 j hj hd)
def Ŋ.upd2 {nid i j:Nat} {h:List Blk} (A B:Blk) (hi:lkB h i≠.dead) (hl:j=nid∨lkB h j≠.dead):Ŋ nid h (ć (ć h i A) j B):=fun m hm hd=>by
 have h1:m≠i:=fun e=>hi (by rw[←e]; exact hd);have h2:m≠j:=fun e=>hl.elim (fun q=>hm (e.trans q)) fun q=>q (by rw[←e]; exact hd);rw[ó _ h2,ó _ h1];exact hd
def Ŋ.frz {nid:Nat} {h:List Blk} (v:AV):Ŋ nid h (frz h v):=fun _ _ hd=>ajf hd
def Ŋ.frzA {nid:Nat} {h:List Blk} (ps:List (Nat×AV)):Ŋ nid h (frzA h ps):=fun _ _ hd=>Sq ps hd
def mK {h:List Blk} {id:Nat} {B:Blk} (hl:lkB h id=B) (hB:B≠.dead):lkB h id≠.dead:=by rw[hl]; exact hB
def asl {v:AV} {id:Nat} {h:List Blk} {k u:Ty} {es:List (Val k×Val u)} (hl:lkB h id=.map k u es):lkB (frz h v) id=.map k u es:=by
 unfold frz; split
 ·exact aa6 _ hl
 ·exact ajh hl
def V7 {P:Program} {h h':List Blk} {t:TypeId} {a v:AV} {nid:Nat} (h1:xa P h t a v some=some h'):Ŋ nid h h':=by
 unfold xa at h1
 (repeat' split at h1)<;>first
  |(cases h1; done)
  |(cases h1; exact Ŋ.upd _ (.inr (mK ‹lkB h _=.cells _› (by simp))))
  |(cases h1; exact Ŋ.upd _ (.inr (mK ‹lkB h _=.deep _ _ _› (by simp))))
  |(cases h1; exact(Ŋ.frz _).trans (Ŋ.upd _ (.inr (mK ‹lkB (frz h _) _=.row _ _ _ _› (by simp)))))
def amv {P:Program} {S S':St} {o:Op} {nid:Nat} {eat:Bool} {v:AV} (e:opR P S nid eat o=some (v,S')):Ŋ nid S.h S'.h:=by
 unfold opR opK at e;dsimp only at e
 (repeat' split at e)<;>first
  |(cases e; done)
  |(cases e; exact Ŋ.refl _ _)
  |(cases e; exact Ŋ.upd _ (.inl rfl))
  |(cases e; exact(Ŋ.frzA _).trans (Ŋ.upd _ (.inl rfl)))
  |(rw[uH] at e; obtain⟨v',h1,h2⟩:=ż e; cases h2; exact Ŋ.refl _ _)
  |(rw[BA] at e; obtain⟨v',h1,h2⟩:=ż e; cases h2; exact Ŋ.refl _ _)
  |(rw[EK] at e; obtain⟨v',h1,h2⟩:=ż e; cases h2; exact Ŋ.refl _ _)
  |(rw[pz] at e; obtain⟨v',h1,h2⟩:=ż e; cases h2; exact Ŋ.refl _ _)
  |(rw[pF] at e; obtain⟨v',h1,h2⟩:=ż e; cases h2; exact Ŋ.refl _ _)
  |(rw[m7] at e; obtain⟨v',h1,h2⟩:=ż e; cases h2; exact Ŋ.refl _ _)
  |(rw[A3] at e; obtain⟨v',h1,h2⟩:=ż e; cases h2; exact Ŋ.refl _ _)
  |(rw[iH] at e; obtain⟨v',h1,h2⟩:=ż e; cases h2; exact Ŋ.refl _ _)
  |(rw[pu] at e; obtain⟨h',h1,h2⟩:=ż e; cases h2; exact V7 h1)
  | (rw [pu] at e; obtain ⟨h', h1, h2⟩ := ż e; cases h2
     exact(Ŋ.upd _ (.inr (mK ‹lkB S.h _=.row _ _ _ _› (by simp)))).trans (V7 h1))
  | (rw [AK] at e; obtain ⟨⟨v', h'⟩, h1, h2⟩ := ż e; cases h2
     unfold qV at h1
     (repeat' split at h1)<;>first
      |(cases h1; done)
      |(cases h1; exact Ŋ.refl _ _)
      |(cases h1; exact Ŋ.upd _ (.inr (mK ‹lkB S.h _=.row _ _ _ _› (by simp)))))
  | (rw [wZ] at e; obtain ⟨⟨v', h'⟩, h1, h2⟩ := ż e; cases h2
     unfold AD at h1
     (repeat' split at h1)<;>first
      |(cases h1; done)
      |(cases h1; exact Ŋ.upd _ (.inl rfl))
      |(cases h1; exact Ŋ.upd _ (.inr (mK ‹lkB S.h _=.row _ _ _ _› (by simp)))))
  | (rw [Ii] at e; obtain ⟨⟨v', h'⟩, h1, h2⟩ := ż e; cases h2
     unfold ahJ at h1
     (repeat' split at h1)<;>first
      |(cases h1; done)
      |(cases h1; exact Ŋ.upd2 _ _ (mK ‹lkB S.h _=.row _ _ _ _› (by simp)) (.inl rfl))
      |(cases h1; exact Ŋ.upd2 _ _ (mK ‹lkB S.h _=.deep _ _ _› (by simp)) (.inl rfl)))
  | (rw [Im] at e; obtain ⟨⟨v', h'⟩, h1, h2⟩ := ż e; cases h2
     unfold afx at h1
     split at h1<;>try (cases h1; done)
     split at h1<;>try (cases h1; done)
     split at h1<;>try (cases h1; done)
     rename_i hl2
     split at h1<;>try (cases h1; done)
     (repeat' split at h1)<;>first
      |(cases h1; done)
      |(cases h1; exact Ŋ.upd2 _ _ (mK hl2 (by simp)) (.inl rfl))
      |(cases h1; exact Ŋ.upd2 _ _ (mK hl2 (by simp)) (.inr (mK (by assumption) (by simp)))))
  | (rw [AH] at e; obtain ⟨⟨v', h'⟩, h1, h2⟩ := ż e; cases h2
     unfold Lm at h1
     (repeat' split at h1)<;>first
      |(cases h1; done)
      |(cases h1; exact Ŋ.upd _ (.inl rfl)))
  | (rw [Bt] at e; obtain ⟨h', h1, h2⟩ := ż e; cases h2
     unfold Mb at h1
     (repeat' split at h1)<;>first
      |(cases h1; done)
      |(cases h1; exact Ŋ.refl _ _)
      |(cases h1; exact Ŋ.upd _ (.inr (mK ‹lkB S.h _=.row _ _ _ _› (by simp)))))
  | (rw [iX] at e; obtain ⟨q, h1, h2⟩ := ż e
     (repeat' split at h2)<;>first
      |(cases h2; done)
      |(cases h2; exact Ŋ.refl _ _))
  | (rw [np] at e; obtain ⟨h', h1, h2⟩ := ż e; cases h2
     unfold lg at h1
     (repeat' split at h1)<;>first
      |(cases h1; done)
      |(cases h1; exact(Ŋ.frz _).trans (Ŋ.upd _ (.inr (mK (asl ‹lkB S.h _=.map _ _ _›) (by simp))))))
end Go.Am
end

noncomputable section
namespace Go.Am
variable [ô]
section
variable {ρ:Type} {ν ν':Nat→Value} {h h':List Blk} {w w':World} {P:Program}
def Ev.same (hh:∀id,lkB h' id=lkB h id) (hw:w'.heap=w.heap) (h1:w'.os=w.os) (h2:w'.tape=w.tape) (h3:w'.output=w.output) (m:Nat):Ev m ν h w ν h' w' :=
 ⟨h1,h2,h3,by rw[hw]; exact cY _,fun b _ hb=>⟨by rw[hw],fun⟨id,q1,q2⟩=>hb ⟨id,by rwa [hh] at q1,q2⟩⟩,fun id _=>by rw[hh]; exact Blk.next_refl _ _ _⟩
def HR.same (H:HR ν h w) (hh:∀id,lkB h' id=lkB h id) (hw:w'.heap=w.heap) (h1:w'.os=w.os) (h2:w'.tape=w.tape) (h3:w'.output=w.output):HR ν h' w':=by
 refine⟨fun id=>?_,fun i j b q1 q2=>H.inj i j b (by rwa [hh] at q1) (by rwa [hh] at q2),fun b hb=>by rw[hw]; exact H.ghlt b hb,fun id b q1=>H.ghne id b (by rwa [hh] at q1)⟩;rw[hh];exact BR.ev (Ev.same hh hw h1 h2 h3 _) rfl (fun b _ _ _=>by rw[hw]) (H.blk id)
def Sim.same {S:St} {a:Act} (H:Sim ν S a w) (hh:∀id,lkB h' id=lkB S.h id) (hw:w'.heap=w.heap) (h1:w'.os=w.os) (h2:w'.tape=w.tape) (h3:w'.output=w.output):Sim ν {t:=S.t,h:=h'} a w' :=
 ⟨H.defers,H.len,fun i=>(H.tmps i).ev (Ev.same hh hw h1 h2 h3 _),H.heap.same hh hw h1 h2 h3⟩
def W6:∀(h:List Blk) (d:Nat),h.length≤d→lkB h d=.dead
 |[],_,_=>rfl
 |x::xs,0,h=>by simp at h
 |x::xs,d+1,h=>by simpa[lkB] using W6 xs d (by simpa using h)
def aaX:∀(h:List Blk) (n id:Nat),lkB (h++List.replicate n .dead) id=lkB h id
 |[],0,_=>rfl
 |[],n+1,0=>rfl
 |[],n+1,id+1=>by simpa[gD,lkB] using aaX [] n id
 |x::xs,n,0=>rfl
 |x::xs,n,id+1=>by simpa[lkB] using aaX xs n id
abbrev fen:Fence:={Fence.wide with round:=ô.Q}
def af5 (P:Program) (L:Nat) (call:List Nat→Bool→Nat→List AV→List Blk→(AV→List Blk→Option ρ)→Option ρ):Prop :=
 ∀path draw g args h (K:AV→List Blk→Option ρ) r,path.length=L→call path draw g args h K=some r→∀ν w vals,HR ν h w→Ć (VR ν h w) args vals →
  (∃fn c,P.funcs[g]?=some fn∧fn.body=some c) ∧
  CallsIn Fence.wide 0 P g vals.toArray w fun e w'=>∃ν' h' v u,e=.returned u∧VR ν' h' w' v u∧HR ν' h' w'∧Ev h.length ν h w ν' h' w'∧h.length≤h'.length∧(∀j,j<h.length→lkB h j=.dead→lkB h' j=.dead)∧K v h'=some r
def Ll (P:Program) (clone:Nat→Bool):Prop :=
 ∀g,clone g=true→∀fz S nid x v S',Au P g fz S nid x (fun v S=>some (v,S))=some (v,S')→∀ν w u,HR ν S.h w→VR ν S.h w x u→nid<S.h.length→lkB S.h nid=.dead →
  (∃fn c,P.funcs[g]?=some fn∧fn.body=some c) ∧
  CallsIn Fence.wide 0 P g #[u] w fun e w'=>∃ν' u',e=.returned u'∧VR ν' S'.h w' v u'∧HR ν' S'.h w'∧Ev S.h.length ν S.h w ν' S'.h w'∧S.h.length≤S'.h.length∧Ŋ nid S.h S'.h∧S'.t=S.t
def K6 (P:Program) (g:Nat) (fz:Bool) (S:St) (nid:Nat) (x:AV) (K:AV→St→Option ρ):Au P g fz S nid x K=(Au P g fz S nid x fun v S=>some (v,S)).bind fun r=>K r.1 r.2:=by
 unfold Au; (repeat' split)<;>rfl
def Aft (m:Nat) (ν:Nat→Value) (h:List Blk) (w:World) (K:St→Option ρ) (r:ρ) (a':Act) (w':World):Prop :=
 ∃ν' S',Sim ν' S' a' w'∧Ev m ν h w ν' S'.h w'∧h.length≤S'.h.length∧K S'=some r
def Aft.trans {m m':Nat} {K:St→Option ρ} {r:ρ} {a':Act} {ν ν₁:Nat→Value} {h h₁:List Blk} {w w₁ w':World} (e:Ev m ν h w ν₁ h₁ w₁) (hl:h.length≤h₁.length) (hm:m≤m') (ha:Aft m' ν₁ h₁ w₁ K r a' w'):Aft m ν h w K r a' w':=by
 obtain⟨ν',S',h1,h2,h3,h4⟩:=ha;exact⟨ν',S',h1,e.trans h2 hm,dG hl h3,h4⟩
def op_nid {S:St} {o:Op} {nid nid':Nat} {eat:Bool} {clone:Nat→Bool} (hal:Ď clone o=false):opR P S nid eat o=opR P S nid' eat o:=by
 cases o<;>try first|rfl|(cases hal; done)
 rename_i c;obtain⟨f,args,tys⟩:=c
 cases f<;>try rfl
 rename_i b
 cases b<;>first|(cases hal; done)|rfl|(unfold opR opK; dsimp only; (repeat' split)<;>first|rfl|simp_all)
def agq {E : Env ρ} {call : List Nat → Bool → Nat → List AV → List Blk → (AV → List Blk → Option ρ) → Option ρ} {L : Nat} (hcall : af5 E.P L call) (hP : ∀ (f : Nat) (fn : Func), E.P.funcs[f]? = some fn → (fn.name == "runtime.NumGoroutine") = false)
 (hclone:Ll E.P E.clone)
 {fid:Nat} {path:List Nat} {draw:Bool} {S:St} {a:Act} {nid:Nat} {o:Oper} {K:AV→St→Option ρ} {r:ρ} (hp:path.length=L) (H:Sim ν S a w) (hn:Ď E.clone o.op=true→nid<S.h.length∧lkB S.h nid=.dead)
 (e:g9 E call fid path draw S nid o K=some r) {next:Act→World→Prop} {Q:Exit→Act→World→Prop}
 (hk:∀(ν':Nat→Value) (w':World) (u:Value) (v:AV) (S':St),VR ν' S'.h w' v u→HR ν' S'.h w'→Ev S.h.length ν S.h w ν' S'.h w'→S.h.length≤S'.h.length→(∀j,j<S.h.length→j≠nid∨Ď E.clone o.op=false→lkB S.h j=.dead→lkB S'.h j=.dead)→S'.t=S.t→K v S'=some r→next (a.put o.dst u) w') :
 o.wpIn fen 0 E.P a w next Q:=by
 refine⟨fun _ _=>trivial,?_⟩
 have hnd:∀c,o.op≠.defer c:=by
  intro c hc;unfold g9 at e
  split at e<;>try (cases e; done)
  split at e
  ·rename_i hop;rw[hc] at hop; cases hop
  ·rw[hc] at e;cases e
 rw[Oper.semAt_eq _ _ _ hnd]
 have plain:∀v S',opR E.P S nid (abg E draw fid o) o.op=some (v,S')→K v S'=some r→o.uponIn fen 0 E.P a next Q ((execOp a.eval o).run E.P w):=by
  intro v S' h1 h2;obtain⟨ν',w',u,h3,h4,h5,h6,h7,h8⟩:=apQ (clone:=E.clone) H hn h1
  have:=hk ν' w' u v S' h4 h5 h6 (Nat.le_of_eq h7.symm) (fun j _ hj hd=>by
   rcases hj with hj|hal
   ·exact amv h1 j hj hd
   ·rw[op_nid (nid':=j+1) hal] at h1
    exact amv h1 j (by omega) hd) h8 h2
  rcases h3 with h3|⟨h3,rfl⟩
  ·rw[h3]; exact this
  ·rw[h3]; exact this
 unfold g9 at e
 split at e<;>try (cases e; done)
 split at e
 ·rename_i f args tys hop
  split at e<;>try (cases e; done)
  rename_i g first caps hf;have hfv:=ń H f;rw[hf] at hfv;obtain⟨fs,cs,hfe,hfirst,hcaps⟩:=hfv
  split at e
  ·rename_i hcl
   split at e<;>try (cases e; done)
   rename_i x hargs;rw[K6] at e;obtain⟨⟨v,S'⟩,h1,h2⟩:=ż e;simp only[cZ] at hcl;obtain⟨hcl,hlit⟩:=hcl
   have hfg:f=.func g:=by
    cases f<;>try (cases hlit; done)
    simp only[ev] at hf
    injection hf with q1
    injection q1 with q1
    rw[q1]
   subst hfg;obtain⟨hn1,hn2⟩:=hn (by rw[hop]; exact hcl);obtain⟨⟨fn,c,hfn,hbody⟩,hc⟩:=hclone g hcl _ S nid _ v S' h1 ν w _ H.heap (ń H x) hn1 hn2
   have hx:(execOp a.eval o).run E.P w=.ok (.enter g #[a.eval x]) w:=by
    unfold execOp;rw[hop,arr1 hargs];simp only[resolve,Act.eval,Deferred.ofValue,pure_bind,invoke,callFunc,Sem.run_bind,run_program,Result.andThen_ok,hfn,hP g fn hfn,hbody];simp only[Bool.false_eq_true,if_false,Option.isNone_some];show Result.ok (Next.enter g _) w=_;congr 2;apply Array.ext'
    cases x<;>simp[Act.eval]
   rw[hx,Oper.uponIn_enter];refine⟨fun hf=>(by cases hf),hc.mono fun e' w' hw=>?_⟩;obtain⟨ν',u',rfl,g1,g2,g3,g4,g6,g5⟩:=hw;exact hk ν' w' u' v S' g1 g2 g3 g4 (fun j _ hj hd=>g6 j (hj.resolve_right (by rw[hop]; exact fun hf=>by rw[show Ď E.clone (.call ⟨.value (.func g),args,tys⟩)=E.clone g from rfl,hcl] at hf; cases hf)) hd) g5 h2
  ·rename_i hcl
   have hargs:Ć (VR ν S.h w) (first++(args.toList.map (ev S.t)++caps)) (fs.toList++(args.toList.map a.eval++cs.toList)) :=
    (hfirst.mono fun _ _ q=>q.up.up).append ((Ć.of_map fun x _=>ń H x).append (hcaps.mono fun _ _ q=>q.up.up))
   obtain⟨⟨fn,c,hfn,hbody⟩,hc⟩:=hcall path draw g _ _ _ r hp e ν w _ H.heap hargs
   have hx:(execOp a.eval o).run E.P w=.ok (.enter g (fs.toList++(args.toList.map a.eval++cs.toList)).toArray) w:=by
    unfold execOp;rw[hop];simp only[resolve,hfe,Deferred.ofValue,pure_bind,invoke,callFunc,Sem.run_bind,run_program,Result.andThen_ok,hfn,hP g fn hfn,hbody];simp only[Bool.false_eq_true,if_false,Option.isNone_some];show Result.ok (Next.enter g _) w=_;congr 2;apply Array.ext';simp
   rw[hx,Oper.uponIn_enter];refine⟨fun hf=>(by cases hf),hc.mono fun e' w' hw=>?_⟩;obtain⟨ν',h',v,u,rfl,h1,h2,h3,h4,h6,h5⟩:=hw;exact hk ν' w' u v {t:=S.t,h:=h'} h1 h2 h3 h4 (fun j hj _ hd=>h6 j hj hd) rfl h5
 ·rename_i op hne;rw[Yk] at e;obtain⟨⟨v,S'⟩,h1,h2⟩:=ż e;exact plain v S' h1 h2
def EM:∀(t:List AV) (d:Nat),upd t d (lk t d)=t
 |[],_=>rfl
 |_::_,0=>rfl
 |x::t,d+1=>by simp[upd,lk,EM t d]
def aq2 (n nid:Nat) (h:List Blk):Prop:=∀j,nid≤j→j<nid+n→j<h.length∧lkB h j=.dead
def nD {clone:Nat→Bool} {o:Oper} {os:List Oper}:iG clone (o::os)=bif Ď clone o.op then iG clone os+1 else iG clone os:=rfl
def Xj {all:List Oper} {o:Oper} {j:Nat} {want:Bool}:∀{l:List Oper},sr all l=true→o∈l→o.guard=some (j,want)→∃p d,all[j]?=some p∧p.dst=some d
 |[],_,hm,_=>by cases hm
 |x::l,hg,hm,he=>by
  simp only[sr,cZ] at hg;rcases di.1 hm with rfl|hm
  ·have h1:=hg.1;rw[he] at h1;simp only at h1
   split at h1
   ·rename_i p hp;obtain⟨d,hd⟩:=gL.1 h1;exact⟨p,d,hp,hd⟩
   ·cases h1
  ·exact Xj hg.2 hm he
def aj2 {ops:Array Oper} {tmps:Array Value} {j d:Nat} {p:Oper} (hp:ops.toList[j]?=some p) (hd:p.dst=some d) :
 (∀b,tmps.getD d undef=.bool b→yielded ops tmps j=some b)∧(tmps.getD d undef=undef→yielded ops tmps j=none):=by
 have hp':ops[j]?=some p:=by simpa using hp
 constructor
 ·intro b hb;unfold yielded;rw[hp'];simp only[Option.bind_some,hd]
  cases ht:tmps[d]? with
  |none=>simp[dW,ht,undef] at hb
  |some v=>simp[dW,ht] at hb; subst hb; rfl
 ·intro hb;unfold yielded;rw[hp'];simp only[Option.bind_some,hd]
  cases ht:tmps[d]? with
  |none=>rfl
  |some v=>simp[dW,ht] at hb; subst hb; rfl
def pN (E:Env ρ) (call:List Nat→Bool→Nat→List AV→List Blk→(AV→List Blk→Option ρ)→Option ρ) (fid:Nat) (path:List Nat) (draw:Bool) (all:List Oper) (i nid:Nat) (o:Oper) (S:St) (K:St→Option ρ):Option ρ :=
 match o.guard with
 |none=>g9 E call fid (path++[i]) draw S nid o fun v S=>K {t:=ý S.t o.dst v,h:=S.h}
 |some (j,want)=>match lk S.t (pf all j) with
  |.bool b=>match b==want with
   |true=>g9 E call fid (path++[i]) draw S nid o fun v S=>K {t:=ý S.t o.dst v,h:=S.h}
   |false=>K {t:=ý S.t o.dst .und,h:=S.h}
  |.und=>K {t:=ý S.t o.dst .und,h:=S.h}
  |_=>none
def amr {E:Env ρ} {call:List Nat→Bool→Nat→List AV→List Blk→(AV→List Blk→Option ρ)→Option ρ} {fid:Nat} {path:List Nat} {draw:Bool} {all:List Oper} {o:Oper} {os:List Oper} {i nid:Nat} {S:St} {K:St→Option ρ} :
 akn E call fid path draw all (o::os) i nid S K=pN E call fid path draw all i nid o S fun S'=>akn E call fid path draw all os (i+1) (bif Ď E.clone o.op then nid+1 else nid) S' K:=by
 simp only[akn,pN]
 have hself:∀d b,lk S.t d=.bool b→({t:=upd S.t d (.bool b),h:=S.h}:St)=S:=fun d b hb=>by rw[←hb,EM]
 have htself:∀d b,lk S.t d=.bool b→upd S.t d (.bool b)=S.t:=fun d b hb=>by rw[←hb,EM]
 cases o.guard with
 |none=>rfl
 |some g =>
  obtain⟨j,want⟩:=g;simp only
  cases hb:lk S.t (pf all j)<;>try rfl
  rename_i b;have h1:=hself _ b hb;have h2:=htself _ b hb
  cases b<;>cases want<;>simp only[h1,h2]<;>rfl
def Oz {E : Env ρ} {call : List Nat → Bool → Nat → List AV → List Blk → (AV → List Blk → Option ρ) → Option ρ} {L : Nat} (hcall : af5 E.P L call) (hP : ∀ (f : Nat) (fn : Func), E.P.funcs[f]? = some fn → (fn.name == "runtime.NumGoroutine") = false)
 (hclone:Ll E.P E.clone) {fid:Nat} {path:List Nat} {draw:Bool} {ops:Array Oper} (hg:sr ops.toList ops.toList=true)
 {S:St} {a:Act} {nid i:Nat} {o:Oper} {K:St→Option ρ} {r:ρ} (hp:path.length+1=L) (ho:ops[i]?=some o) (H:Sim ν S a w) (hn:Ď E.clone o.op=true→nid<S.h.length∧lkB S.h nid=.dead)
 (e:pN E call fid path draw ops.toList i nid o S K=some r) {next:Act→World→Prop} {Q:Exit→Act→World→Prop}
 (hk:∀(ν':Nat→Value) (w':World) (u:Value) (v:AV) (S':St),VR ν' S'.h w' v u→HR ν' S'.h w'→Ev S.h.length ν S.h w ν' S'.h w'→S.h.length≤S'.h.length→(∀j,j<S.h.length→j≠nid∨Ď E.clone o.op=false→lkB S.h j=.dead→lkB S'.h j=.dead)→S'.t=S.t →
  K {t:=ý S'.t o.dst v,h:=S'.h}=some r→next (a.put o.dst u) w') :
 wpOpIn fen 0 E.P ops Q i next a w:=by
 have run:g9 E call fid (path++[i]) draw S nid o (fun v S=>K {t:=ý S.t o.dst v,h:=S.h})=some r →
  o.wpIn fen 0 E.P a w next Q:=fun h1=>agq hcall hP hclone (by simpa using hp) H hn h1 hk
 -- it is left out
 have skip:K {t:=ý S.t o.dst .und,h:=S.h}=some r→next (a.put o.dst undef) w :=
  fun h1=>hk ν w undef .und S rfl H.heap (Ev.refl _ _ _ _) (cY _) (fun _ _ _ hd=>hd) rfl h1
 have hmem:o∈ops.toList:=by
  have:ops.toList[i]?=some o:=by simpa using ho
  exact dg this
 unfold wpOpIn;rw[ho];simp only[pN] at e
 split at e
 ·rename_i hgd
  have hw:Region.wanted o (yielded ops a.tmps)=true:=by simp[Region.wanted,hgd]
  simp only[hw,if_true];exact run e
 ·rename_i j want hgd;obtain⟨p,d,hp,hd⟩:=Xj hg hmem hgd;obtain⟨hy1,hy2⟩:=aj2 (tmps:=a.tmps) hp hd
  have hslot:pf ops.toList j=d:=by simp[pf,hp,hd]
  rw[hslot] at e;have hv:=H.tmps d
  split at e
  ·rename_i b hb;rw[hb] at hv;have hyb:=hy1 b hv
   split at e
   ·rename_i hbw
    have hw:Region.wanted o (yielded ops a.tmps)=true:=by
     simp only[beq_iff_eq] at hbw;simp[Region.wanted,hgd,hyb,hbw]
    simp only[hw,if_true];exact run e
   ·rename_i hbw
    have hw:Region.wanted o (yielded ops a.tmps)=false:=by
     simp only[beq_eq_false_iff_ne] at hbw;simpa[Region.wanted,hgd,hyb] using hbw
    simp only[hw,dv,if_false];exact⟨fun _ _=>trivial,skip e⟩
  ·rename_i hb;rw[hb] at hv
   have hw:Region.wanted o (yielded ops a.tmps)=false:=by simp[Region.wanted,hgd,hy2 hv]
   simp only[hw,dv,if_false];exact⟨fun _ _=>trivial,skip e⟩
  ·cases e
def amq {E : Env ρ} {call : List Nat → Bool → Nat → List AV → List Blk → (AV → List Blk → Option ρ) → Option ρ} {L : Nat} (hcall : af5 E.P L call) (hP : ∀ (f : Nat) (fn : Func), E.P.funcs[f]? = some fn → (fn.name == "runtime.NumGoroutine") = false)
 (hclone:Ll E.P E.clone) {fid:Nat} {path:List Nat} {draw:Bool} {ops:Array Oper} (hg:sr ops.toList ops.toList=true)
 {S:St} {a:Act} {nid i:Nat} {o:Oper} {os:List Oper} {K:St→Option ρ} {r:ρ} (hp:path.length+1=L) (ho:ops[i]?=some o) (H:Sim ν S a w) (hn:aq2 (iG E.clone (o::os)) nid S.h)
 (e:akn E call fid path draw ops.toList (o::os) i nid S K=some r) {next:Act→World→Prop} {Q:Exit→Act→World→Prop}
 (hk:∀(ν':Nat→Value) (w':World) (u:Value) (v:AV) (S':St),VR ν' S'.h w' v u→HR ν' S'.h w'→Ev S.h.length ν S.h w ν' S'.h w'→S.h.length≤S'.h.length→aq2 (iG E.clone os) (bif Ď E.clone o.op then nid+1 else nid) S'.h→(∀j,j<S.h.length→j<nid→lkB S.h j=.dead→lkB S'.h j=.dead)→S'.t=S.t →
  akn E call fid path draw ops.toList os (i+1) (bif Ď E.clone o.op then nid+1 else nid) {t:=ý S'.t o.dst v,h:=S'.h} K=some r→next (a.put o.dst u) w') :
 wpOpIn fen 0 E.P ops Q i next a w:=by
 have hn0:Ď E.clone o.op=true→nid<S.h.length∧lkB S.h nid=.dead:=fun hal=>hn nid (cY _) (by rw[nD,hal]; simp)
 have hrest:aq2 (iG E.clone os) (bif Ď E.clone o.op then nid+1 else nid) S.h:=fun j h1 h2=>by
  cases hal:Ď E.clone o.op with
  |true=>rw[hal] at h1 h2; exact hn j (by simp at h1; omega) (by rw[nD,hal]; simp at h2 ⊢; omega)
  |false=>rw[hal] at h1 h2; exact hn j (by simpa using h1) (by rw[nD,hal]; simpa using h2)
 rw[amr] at e;refine Oz hcall hP hclone hg hp ho H hn0 e fun ν' w' u v S' g1 g2 g3 g4 g5 g6 g7=>hk ν' w' u v S' g1 g2 g3 g4 (fun j h2 h3=>?_) (fun j hj hlt hd=>g5 j hj (.inl (by omega)) hd) g6 g7;obtain⟨h4,h5⟩:=hrest j h2 h3;refine⟨by omega,g5 j h4 ?_ h5⟩
 cases hal:Ď E.clone o.op with
 |true=>left; rw[hal] at h2; simp at h2; omega
 |false=>exact .inr rfl
end
end Go.Am
end

noncomputable section
namespace Go.Am
variable [ô]
section
variable {ρ:Type} {ν ν':Nat→Value} {h h':List Blk} {w w':World} {P:Program}
def Dd (m:Nat) (h h':List Blk):Prop:=∀j,j<m→lkB h j=.dead→lkB h' j=.dead
def Dd.refl (m:Nat) (h:List Blk):Dd m h h:=fun _ _ hd=>hd
def Dd.trans {m m':Nat} {h h' h'':List Blk} (h1:Dd m h h') (h2:Dd m' h' h'') (hm:m≤m'):Dd m h h'':=fun j hj hd=>h2 j (dF hj hm) (h1 j hj hd)
def alE (m:Nat) (ν:Nat→Value) (h:List Blk) (w:World) (K:Exit→St→Option ρ) (r:ρ) (e:Exit) (a':Act) (w':World):Prop :=
 ∃ν' S',Sim ν' S' a' w'∧Ev m ν h w ν' S'.h w'∧m≤S'.h.length∧Dd m h S'.h∧K e S'=some r
def alE.trans {m m':Nat} {K:Exit→St→Option ρ} {r:ρ} {e:Exit} {a':Act} {ν₁:Nat→Value} {h₁:List Blk} {w₁:World} (ev:Ev m ν h w ν₁ h₁ w₁) (hd:Dd m h h₁) (hm:m≤m') (ha:alE m' ν₁ h₁ w₁ K r e a' w'):alE m ν h w K r e a' w':=by
 obtain⟨ν',S',h1,h2,h3,h4,h5⟩:=ha;exact⟨ν',S',h1,ev.trans h2 hm,dG hm h3,hd.trans h4 hm,h5⟩
def aoY (E:Env ρ) (call:List Nat→Bool→Nat→List AV→List Blk→(AV→List Blk→Option ρ)→Option ρ):Prop :=
 (∀path draw g args h K,call path draw g args h K=none) ∨
 ((∀ f p, E.pure f = some p → ∀ path draw args h K, call path draw f args h K = X3 (draw && !E.fz f) p h args K) ∧
  (∀f,E.pure f=none→E.sort f=true→∀path draw args h K,call path draw f args h K=match args with|[x]=>XS h x K|_=>none) ∧
  (∀f,E.pure f=none→E.sort f=false→E.compact f=true→∀path draw args h K,call path draw f args h K=match args with|[x]=>pn h x K|_=>none))
def NormOk (m:Nat) (N:St→Option St):Prop:=∀(S S':St) (ν:Nat→Value) (a:Act) (w:World),N S=some S'→Sim ν S a w→m≤S.h.length→∃ν',Sim ν' S' a w∧Ev m ν S.h w ν' S'.h w∧m≤S'.h.length∧Dd m S.h S'.h
def ajX (E:Env ρ):Prop:=∀path fid rid m J,E.joins path fid rid m=some J→∃N,NormOk m N∧∀body rest,J body rest=body (fun S=>match N S with|some S'=>rest S'|none=>none)
def il {E:Env ρ} (h:E.joins=fun _ _ _ _=>none):ajX E:=by
 intro path fid rid m J e;rw[h] at e;cases e
structure mo (E:Env ρ) (L:Nat) (call:List Nat→Bool→Nat→List AV→List Blk→(AV→List Blk→Option ρ)→Option ρ):Prop where
 pureEq:aoY E call
 call:af5 E.P L call
 plain : ∀ (f : Nat) (fn : Func), E.P.funcs[f]? = some fn → (fn.name == "runtime.NumGoroutine") = false
 clone:Ll E.P E.clone
 joins:ajX E
def acX {E:Env ρ} {call:List Nat→Bool→Nat→List AV→List Blk→(AV→List Blk→Option ρ)→Option ρ} {L:Nat} (hE:mo E L call) {fid:Nat} {path:List Nat} {draw:Bool} {ops:Array Oper} (hp:path.length+1=L) (hg:sr ops.toList ops.toList=true)
 {K:St→Option ρ} {r:ρ} {Q:Exit→Act→World→Prop} {m:Nat}:∀(os:List Oper) (i nid:Nat) (S:St) (a:Act) (ν:Nat→Value) (w:World),(∀k,os[k]?=ops[i+k]?)→Sim ν S a w→aq2 (iG E.clone os) nid S.h→m≤nid→m≤S.h.length →
  akn E call fid path draw ops.toList os i nid S K=some r →
  (∀ν' S' a' w',Sim ν' S' a' w'→Ev m ν S.h w ν' S'.h w'→m≤S'.h.length→Dd m S.h S'.h→K S'=some r→Q .normal a' w') →
  wpOpsIn fen 0 E.P ops Q (List.range' i os.length) a w
 |[],i,nid,S,a,ν,w,_,H,_,_,hm,e,hQ=>hQ ν S a w H (Ev.refl _ _ _ _) hm (Dd.refl _ _) e
 |o::os,i,nid,S,a,ν,w,ho,H,hn,hmn,hm,e,hQ=>by
  rw[dj,List.range'_succ,wpOpsIn_cons]
  have ho0:ops[i]?=some o:=by have:=ho 0; simpa using this.symm
  refine amq hE.call hE.plain hE.clone hg hp ho0 H hn e fun ν' w' u v S' h1 h2 h3 h4 h5 h8 h6 h7=>?_;have hput:=H.put h3 h2 o.dst h1
  refine acX hE hp hg os (i+1) _ {t:=ý S'.t o.dst v,h:=S'.h} _ ν' w' (fun k=>by have:=ho (k+1); rw[show i+1+k=i+(k+1) by omega]; simpa using this) (by rw[h6]; exact hput) h5 (by cases Ď E.clone o.op<;>simp<;>omega) (by simp; omega) h7
   fun ν'' S'' a'' w'' g1 g2 g3 g4 g5=>hQ ν'' S'' a'' w'' g1 ((h3.mono hm).trans g2 (cY _)) g3 (fun j hj hd=>g4 j hj (h8 j (by omega) (by omega) hd)) g5
def agu {E:Env ρ} {call:List Nat→Bool→Nat→List AV→List Blk→(AV→List Blk→Option ρ)→Option ρ} {L:Nat} (hE:mo E L call) {fid rid:Nat} {path:List Nat} {ops:Array Oper} {S:St} {a:Act} {K:Exit→St→Option ρ} {r:ρ} {m:Nat} (hp:path.length+1=L)
 (e:OJ E call fid path false ops.toList S (K .normal)=some r) (H:Sim ν S a w) (hm:m≤S.h.length):(Code.region rid ops false).wpIn fen 0 E.P (alE m ν S.h w K r) a w:=by
 unfold OJ at e
 split at e<;>try (cases e; done)
 rename_i hg;simp only[Bool.false_and,Bool.false_or,fe] at hg;apply wpIn_region;have hpre:=fun id=>aaX S.h (iG E.clone ops.toList) id;have H1:Sim ν {t:=S.t,h:=S.h++List.replicate (iG E.clone ops.toList) .dead} a w:=H.same hpre rfl rfl rfl rfl;have ev0:Ev m ν S.h w ν (S.h++List.replicate (iG E.clone ops.toList) .dead) w:=Ev.same hpre rfl rfl rfl rfl m
 have:=acX (m:=m) (Q:=alE m ν S.h w K r) hE hp hg ops.toList 0 S.h.length _ a ν w (fun k=>by simp) H1 (fun j h1 h2=>⟨by simp; omega,by simp only[hpre]; exact W6 _ _ h1⟩) hm (by simp; omega) e
  (fun ν' S' a' w' g1 g2 g3 g4 g5=>⟨ν',S',g1,ev0.trans g2 (cY _),g3,fun j hj hd=>g4 j hj (by simp only[hpre]; exact hd),g5⟩)
 rw[List.range_eq_range'];simpa using this
def mE (E:Env ρ) (L:Nat) (call:List Nat→Bool→Nat→List AV→List Blk→(AV→List Blk→Option ρ)→Option ρ):Prop :=
 ∀(fid rid:Nat) (path:List Nat) (ops:Array Oper) (S:St) (a:Act) (K:Exit→St→Option ρ) (r:ρ) (m:Nat) (ν:Nat→Value) (w:World),path.length+1=L →
  OJ E call fid path true ops.toList S (K .normal)=some r→Sim ν S a w→m≤S.h.length→(Code.region rid ops true).wpIn fen 0 E.P (alE m ν S.h w K r) a w
def drawn:Code→Bool
 |.region _ _ d=>d
 |.seq a b=>drawn a||drawn b
 |.cond _ a b=>drawn a||drawn b
 |.block _ b=>drawn b
 |.scope b=>drawn b
 |_=>false
def noGoto (Q:Exit→Act→World→Prop):Exit→Act→World→Prop
 |.goto _,_,_=>False
 |e,a,w=>Q e a w
section
variable {F:Fence} {n:Nat} {P:Program} {Q:Exit→Act→World→Prop} {a:Act} {w:World}
def mF {b:Frame} {k:List Item} {cs:List Frame} {c:Code}:step P (lone (b.atR a (.code (.scope c)::k)) cs w)=.next (lone (b.atR a (.code c::.inScope c::k)) cs w) :=
 step_lone_go (by simp[stepG,stepG.exec,Frame.atR])
def XQ {b:Frame} {k:List Item} {cs:List Frame} {c:Code}:step P (lone (b.atR a (.inScope c::k)) cs w)=.next (lone (b.atR a k) cs w) :=
 step_lone_go (by simp[stepG,stepG.exec,Frame.atR])
def aj3 {c:Code} (h:c.wpIn F n P (noGoto Q) a w):(Code.scope c).wpIn F n P Q a w:=by
 intro b k cs hro hb hr;have h0:(lone (b.atR a (.code (.scope c)::k)) cs w).fenced P F:=fenced_calm hb hr rfl;obtain⟨e,a₁,w₁,hq,harr⟩:=h b (.inScope c::k) cs hro hb hr
 cases e with
 |normal=>exact⟨.normal,a₁,w₁,hq,.head h0 mF (StepsIn.trans harr (.one (fenced_calm hb hr rfl) XQ))⟩
 |exit id =>
  have hx:exitTo id (.inScope c::k)=exitTo id k:=by simp[exitTo]
  exact⟨.exit id,a₁,w₁,hq,fun k' hk=>.head h0 mF (harr.1 k' (by rw[hx]; exact hk)),
   fun hr' hk=>let ⟨k₁,h1,h2⟩:=harr.2 hr' (by rw[hx]; exact hk); ⟨k₁,h1,.head h0 mF h2⟩⟩
 |goto l=>exact hq.elim
 |ret=>exact⟨_,a₁,w₁,hq,.of_steps (.one h0 mF) harr⟩
 |panic ch=>exact⟨_,a₁,w₁,hq,.of_steps (.one h0 mF) harr⟩
 |outgrown=>exact⟨_,a₁,w₁,hq,.of_steps (.one h0 mF) harr⟩
end
def qQ (E:Env ρ) (path:List Nat) (fid bid:Nat) (b:Code):Prop :=
 ∀(m:Nat) (S:St) (K:Exit→St→Option ρ) (r:ρ) (ν:Nat→Value) (a:Act) (w:World),E.loops path fid bid m S K=some r→Sim ν S a w→m≤S.h.length→(Code.loop b).wpIn fen 0 E.P (alE m ν S.h w K r) a w
def KP {E:Env ρ} {call:List Nat→Bool→Nat→List AV→List Blk→(AV→List Blk→Option ρ)→Option ρ} {L:Nat} (hE:mo E L call) {fid:Nat} {path:List Nat} (hp:path.length+2=L) {m:Nat} {r:ρ}:∀(c:Code) (bid:Nat) (S:St) (K:Exit→St→Option ρ) (ν:Nat→Value) (a:Act) (w:World),
 (drawn c=true→mE E L call)→(∀x∈î bid c,qQ E path fid x.1 x.2)→goC E call fid path m bid c S K=some r→Sim ν S a w→m≤S.h.length→c.wpIn fen 0 E.P (alE m ν S.h w K r) a w:=by
 intro c
 induction c with
 |skip=>exact fun bid S K ν a w _ _ e H hm=>wpIn_skip ⟨ν,S,H,Ev.refl _ _ _ _,hm,Dd.refl _ _,e⟩
 |label l=>exact fun bid S K ν a w _ _ e H hm=>wpIn_label ⟨ν,S,H,Ev.refl _ _ _ _,hm,Dd.refl _ _,e⟩
 |exit id=>exact fun bid S K ν a w _ _ e H hm=>wpIn_exit ⟨ν,S,H,Ev.refl _ _ _ _,hm,Dd.refl _ _,e⟩
 |ret=>exact fun bid S K ν a w _ _ e H hm=>wpIn_ret ⟨ν,S,H,Ev.refl _ _ _ _,hm,Dd.refl _ _,e⟩
 |region rid ops draw =>
  intro bid S K ν a w hD _ e H hm;simp only[goC,anp] at e
  cases draw with
  |false=>exact agu hE (by simpa using hp) e H hm
  |true=>exact hD rfl fid rid _ ops S a K r m ν w (by simpa using hp) e H hm
 |seq x y ihx ihy =>
  intro bid S K ν a w hD hL e H hm;simp only[goC] at e
  cases hj:E.joins path fid (Sj y) m with
  |none =>
   rw[hj] at e;simp only at e;refine wpIn_seq (wpIn_mono (ihx bid S _ ν a w (fun h=>hD (by simp[drawn,h])) (fun z hz=>hL z (eF _ hz)) e H hm) fun e' a' w' ha=>?_);obtain⟨ν',S',h1,h2,h3,h4,h5⟩:=ha
   cases e' with
   |normal =>
    exact wpIn_mono (ihy bid S' K ν' a' w' (fun h=>hD (by simp[drawn,h])) (fun z hz=>hL z (eh _ hz)) h5 h1 h3) fun e'' a'' w'' ha=>ha.trans h2 h4 (cY _)
   |exit id=>exact⟨ν',S',h1,h2,h3,h4,h5⟩
   |goto l=>exact⟨ν',S',h1,h2,h3,h4,h5⟩
   |ret=>exact⟨ν',S',h1,h2,h3,h4,h5⟩
   |panic ch=>exact⟨ν',S',h1,h2,h3,h4,h5⟩
   |outgrown=>exact⟨ν',S',h1,h2,h3,h4,h5⟩
  |some J =>
   rw[hj] at e;simp only at e;obtain⟨N,hN,hJ⟩:=hE.joins _ _ _ _ _ hj;rw[hJ] at e;refine wpIn_seq (wpIn_mono (ihx bid S _ ν a w (fun h=>hD (by simp[drawn,h])) (fun z hz=>hL z (eF _ hz)) e H hm) fun e' a' w' ha=>?_);obtain⟨ν',S',h1,h2,h3,h4,h5⟩:=ha
   cases e' with
   |normal =>
    simp only at h5
    split at h5<;>try (cases h5; done)
    rename_i S'' hn;obtain⟨ν'',g1,g2,g3,g4⟩:=hN S' S'' ν' a' w' hn h1 h3;exact wpIn_mono (ihy bid S'' K ν'' a' w' (fun h=>hD (by simp[drawn,h])) (fun z hz=>hL z (eh _ hz)) h5 g1 g3) fun e'' a'' w'' ha=>ha.trans (h2.trans g2 (cY _)) (h4.trans g4 (cY _)) (cY _)
   |exit id=>exact⟨ν',S',h1,h2,h3,h4,h5⟩
   |goto l=>exact⟨ν',S',h1,h2,h3,h4,h5⟩
   |ret=>exact⟨ν',S',h1,h2,h3,h4,h5⟩
   |panic ch=>exact⟨ν',S',h1,h2,h3,h4,h5⟩
   |outgrown=>exact⟨ν',S',h1,h2,h3,h4,h5⟩
 |cond c x y ihx ihy =>
  intro bid S K ν a w hD hL e H hm;simp only[goC] at e
  split at e<;>try (cases e; done)
  rename_i b hb;have hv:=ń H c;rw[hb] at hv;have hv:a.eval c=.bool b:=hv
  split at e
  ·exact wpIn_cond_true hv (ihx bid S K ν a w (fun h=>hD (by simp[drawn,h])) (fun z hz=>hL z (eF _ hz)) e H hm)
  ·exact wpIn_cond_false hv (ihy bid S K ν a w (fun h=>hD (by simp[drawn,h])) (fun z hz=>hL z (eh _ hz)) e H hm)
 |block id b ih =>
  intro bid S K ν a w hD hL e H hm;simp only[goC] at e;refine wpIn_block (wpIn_mono (ih id S _ ν a w (fun h=>hD (by simpa[drawn] using h)) hL e H hm) fun e' a' w' ha=>?_);obtain⟨ν',S',h1,h2,h3,h4,h5⟩:=ha
  cases e' with
  |exit j =>
   simp only[Exit.inBlock];simp only at h5
   split at h5
   ·rename_i hj;rw[if_pos (eq_of_beq hj)];exact⟨ν',S',h1,h2,h3,h4,h5⟩
   ·rename_i hj
    have:¬j=id:=by simpa using hj
    rw[if_neg this];exact⟨ν',S',h1,h2,h3,h4,h5⟩
  |normal=>exact⟨ν',S',h1,h2,h3,h4,h5⟩
  |goto l=>exact⟨ν',S',h1,h2,h3,h4,h5⟩
  |ret=>exact⟨ν',S',h1,h2,h3,h4,h5⟩
  |panic ch=>exact⟨ν',S',h1,h2,h3,h4,h5⟩
  |outgrown=>exact⟨ν',S',h1,h2,h3,h4,h5⟩
 |loop b ih =>
  intro bid S K ν a w hD hL e H hm;simp only[goC] at e;exact hL (bid,b) (by simp[î]) m S K r ν a w e H hm
 |scope b ih =>
  intro bid S K ν a w hD hL e H hm;simp only[goC] at e;refine aj3 (wpIn_mono (ih bid S _ ν a w (fun h=>hD (by simpa[drawn] using h)) hL e H hm) fun e' a' w' ha=>?_);obtain⟨ν',S',h1,h2,h3,h4,h5⟩:=ha
  cases e' with
  |goto l=>cases h5
  |normal=>exact⟨ν',S',h1,h2,h3,h4,h5⟩
  |exit id=>exact⟨ν',S',h1,h2,h3,h4,h5⟩
  |ret=>exact⟨ν',S',h1,h2,h3,h4,h5⟩
  |panic ch=>exact⟨ν',S',h1,h2,h3,h4,h5⟩
  |outgrown=>exact⟨ν',S',h1,h2,h3,h4,h5⟩
 |_=>intro bid S K ν a w hD hL e H hm; cases e
def l7 {E:Env ρ} {call:List Nat→Bool→Nat→List AV→List Blk→(AV→List Blk→Option ρ)→Option ρ} {L:Nat} (hE:mo E L call) (hD:mE E L call) {fid:Nat} {path:List Nat} (hp:path.length+2=L) {m:Nat} {r:ρ} (c:Code) (bid:Nat) (S:St) (K:Exit→St→Option ρ) (ν:Nat→Value) (a:Act) (w:World)
 (hL:∀x∈î bid c,qQ E path fid x.1 x.2) (e:goC E call fid path m bid c S K=some r) (H:Sim ν S a w) (hm:m≤S.h.length):c.wpIn fen 0 E.P (alE m ν S.h w K r) a w :=
 KP hE hp c bid S K ν a w (fun _=>hD) hL e H hm
end
end Go.Am
end

noncomputable section
namespace Go.Am
variable [ô]
section
variable {ρ:Type} {ν ν':Nat→Value} {h h':List Blk} {w w':World} {P:Program}
def aoW:Prop:=∀(T:Tpl) (pin:Nat) (cs vs:List Ty) (S:St) (p:Val (tyL cs)) (v:Val (tyL vs)) (ν:Nat→Value) (a:Act) (w:World),Cb T pin cs vs S=some (p,v)→Sim ν S a w →
 ∃ν',Sim ν' (jp T cs vs p v) a w∧Ev pin ν S.h w ν' (jp T cs vs p v).h w∧pin≤(jp T cs vs p v).h.length∧Dd pin S.h (jp T cs vs p v).h
def Xp:∀(l:List (Exit×Tpl×List Ty)) (e:Exit) (i j:Nat),aqh l e i=some j→∃x,i≤j∧l[j-i]?=some x∧NU x.1 e=true
 |[],_,_,_,h=>by cases h
 |x::l,e,i,j,h=>by
  unfold aqh at h
  split at h
  ·rename_i hs;cases h;exact⟨x,cY _,by simp,hs⟩
  ·obtain⟨y,h1,h2,h3⟩:=Xp l e (i+1) j h;refine⟨y,by omega,?_,h3⟩;rw[show j-i=(j-(i+1))+1 by omega];simpa using h2
def agp {a b:Exit} (h:NU a b=true):a=b:=by
 unfold NU at h
 split at h
 ·rw[eq_of_beq h]
 ·rfl
 ·cases h
def ap1 (hM:aoW) {E:Env ρ} {call:List Nat→Bool→Nat→List AV→List Blk→(AV→List Blk→Option ρ)→Option ρ} {N:Nat} (hE:mo E N call) (hD:mE E N call) {fid bid:Nat} {path:List Nat} (hpath:path.length+2=N) {b:Code}
 (hin:∀x∈î bid b,qQ E path fid x.1 x.2) (L:Æ)
 (bF:Val (tyL L.cs)→Val (tyL L.vs)→(Val (tyL L.vs)→Option ρ)→((i:Nat)→Val (tyL (L.zs i))→Option ρ)→Option ρ)
 (law:∀p v kn kx,goC E call fid path L.pin bid b (jp L.head L.cs L.vs p v) (ab8 L kn kx)=bF p v (kn p) (fun i=>kx i p)) {m:Nat} {S:St} {K:Exit→St→Option ρ} {r:ρ} {ν:Nat→Value} {a:Act} {w:World} (e:agr L bF m S K=some r) (H:Sim ν S a w) (hm:m≤S.h.length):(Code.loop b).wpIn fen 0 E.P (alE m ν S.h w K r) a w:=by
 unfold agr at e
 split at e<;>try (cases e; done)
 rename_i hpin;have hpin:m≤L.pin:=fV hpin
 split at e<;>try (cases e; done)
 rename_i p v hmt;obtain⟨n,hn⟩:=akE e;obtain⟨ν₁,H1,ev1,hp1,dd1⟩:=hM _ _ _ _ _ _ _ ν a w hmt H;apply wpIn_loop_rounds n
 have key:∀(n:Nat) (p:Val (tyL L.cs)) (v:Val (tyL L.vs)) (ν₁:Nat→Value) (a₁:Act) (w₁:World),ao8 (fun v kn=>bF p v kn fun i z=>K (L.xk i) (jp (L.tpl i) L.cs (L.zs i) p z)) n v=some r →
  Sim ν₁ (jp L.head L.cs L.vs p v) a₁ w₁→Ev m ν S.h w ν₁ (jp L.head L.cs L.vs p v).h w₁→L.pin≤(jp L.head L.cs L.vs p v).h.length→Dd m S.h (jp L.head L.cs L.vs p v).h →
  Code.roundsIn fen 0 E.P b (alE m ν S.h w K r) n a₁ w₁:=by
  intro n
  induction n with
  |zero=>intro p v ν₁ a₁ w₁ e; cases e
  |succ n ih =>
   intro p v ν₁ a₁ w₁ e H1 ev1 hp1 dd1;rw[roundsIn_succ];have hl:=law p v (fun p v=>ao8 (fun v kn=>bF p v kn fun i z=>K (L.xk i) (jp (L.tpl i) L.cs (L.zs i) p z)) n v) (fun i p z=>K (L.xk i) (jp (L.tpl i) L.cs (L.zs i) p z))
   have e':goC E call fid path L.pin bid b (jp L.head L.cs L.vs p v) (ab8 L (fun p v=>ao8 (fun v kn=>bF p v kn fun i z=>K (L.xk i) (jp (L.tpl i) L.cs (L.zs i) p z)) n v) (fun i p z=>K (L.xk i) (jp (L.tpl i) L.cs (L.zs i) p z)))=some r:=by
    rw[hl]; exact e
   refine wpIn_mono (l7 hE hD hpath b bid _ _ ν₁ a₁ w₁ hin e' H1 hp1) fun x a₂ w₂ ha=>?_;obtain⟨ν₂,S₂,H2,ev2,hp2,dd2,hk⟩:=ha;have ev12:Ev m ν S.h w ν₂ S₂.h w₂:=ev1.trans ev2 hpin;have dd12:Dd m S.h S₂.h:=dd1.trans dd2 hpin
   have out:∀x,x≠.normal→ab8 L (fun p v=>ao8 (fun v kn=>bF p v kn fun i z=>K (L.xk i) (jp (L.tpl i) L.cs (L.zs i) p z)) n v) (fun i p z=>K (L.xk i) (jp (L.tpl i) L.cs (L.zs i) p z)) x S₂=some r→alE m ν S.h w K r x a₂ w₂:=by
    intro x hx hk;unfold ab8 at hk
    split at hk
    ·exact absurd rfl hx
    ·split at hk<;>try (cases hk; done)
     rename_i i hi
     split at hk<;>try (cases hk; done)
     rename_i p' z hmt;obtain⟨y,_,h1,h2⟩:=Xp _ _ _ _ hi
     have hxk:L.xk i=x:=by
      have:L.exits[i]?=some y:=by simpa using h1
      unfold Æ.xk;rw[this];exact agp h2
     obtain⟨ν₃,H3,ev3,hp3,dd3⟩:=hM _ _ _ _ _ _ _ ν₂ a₂ w₂ hmt H2;have hk:K (L.xk i) (jp (L.tpl i) L.cs (L.zs i) p' z)=some r:=hk;rw[hxk] at hk;exact⟨ν₃,_,H3,ev12.trans ev3 hpin,dG hpin hp3,dd12.trans dd3 hpin,hk⟩
   cases x with
   |normal =>
    simp only[ab8] at hk
    split at hk<;>try (cases hk; done)
    rename_i p' v' hmt;obtain⟨ν₃,H3,ev3,hp3,dd3⟩:=hM _ _ _ _ _ _ _ ν₂ a₂ w₂ hmt H2;exact ih p' v' ν₃ a₂ w₂ hk H3 (ev12.trans ev3 hpin) hp3 (dd12.trans dd3 hpin)
   |exit id=>exact out _ (by simp) hk
   |ret=>exact out _ (by simp) hk
   |goto l=>exact out _ (by simp) hk
   |panic ch=>exact out _ (by simp) hk
   |outgrown=>exact out _ (by simp) hk
 exact key n p v ν₁ a w hn H1 (ev1.mono hpin) hp1 (fun j hj hd=>dd1 j (by omega) hd)
end
end Go.Am
end

noncomputable section
namespace Go.Am
variable [ô]
section
variable {ν:Nat→Value} {h h':List Blk} {w:World}
def afD {t:Ty} {d:DV} {x:Val t} (e:S0 t d=some x):d=⟨t,x⟩:=by
 unfold S0 at e
 split at e<;>try (cases e; done)
 rename_i ht _;obtain⟨ty,val⟩:=d;simp only at ht;subst ht;cases e;rfl
def aj4 (u:Ty) (l:List Ty) (t:Ty) (d:DV) (ds:List DV):aj5 (u::l) t (d::ds)=(match S0 t d with
 |some x=>match aj5 l u ds with
  |some y=>some ((x,y):Val t×Val (tys u l))
  |none=>none
 |none=>none):=rfl
def amA (t:Ty) (x:Val t):akq t [] x=[⟨t,x⟩]:=rfl
def akp (t u:Ty) (l:List Ty) (x:Val t) (y:Val (tys u l)):akq t (u::l) ((x,y):Val t×Val (tys u l))=⟨t,x⟩::akq u l y:=rfl
def apl (l:List Ty):∀(t:Ty) (ds:List DV) (x:Val (tys t l)),aj5 l t ds=some x→akq t l x=ds:=by
 induction l with
 |nil =>
  intro t ds x e
  match ds,e with
  |[],e=>exact absurd (show(none:Option (Val t))=some x from e) (fun h=>by cases h)
  |[d],e =>
   have e:S0 t d=some x:=e;rw[afD e]; exact amA t x
  |_::_::_,e=>exact absurd (show(none:Option (Val t))=some x from e) (fun h=>by cases h)
 |cons u l ih =>
  intro t ds x e
  match ds,e with
  |[],e=>exact absurd (show(none:Option (Val t×Val (tys u l)))=some x from e) (fun h=>by cases h)
  |d::ds,e =>
   rw[aj4] at e
   cases hy:S0 t d with
   |none=>rw[hy] at e; exact absurd (show(none:Option (Val t×Val (tys u l)))=some x from e) (fun h=>by cases h)
   |some y =>
    cases hz:aj5 l u ds with
    |none=>rw[hy,hz] at e; exact absurd (show(none:Option (Val t×Val (tys u l)))=some x from e) (fun h=>by cases h)
    |some z =>
     rw[hy,hz] at e;have e:((y,z):Val t×Val (tys u l))=x:=Option.some.inj e;rw[←e,afD hy,←ih u ds z hz];exact akp t u l y z
def aiu (l:List Ty) (ds:List DV) (x:Val (tyL l)) (e:arO l ds=some x):agB l x=ds:=by
 cases l with
 |nil=>cases ds with
  |nil=>rfl
  |cons=>cases e
 |cons t l=>exact apl l t ds x e
def νb (B:List Bd) (ν:Nat→Value) (i:Nat):Value :=
 match jy B i with
 |some (.at_ id)=>ν id
 |some .new=>.slice none 0 0
 |some .newd=>.agg [Value.slice none 0 0].toArray
 |_=>undef
structure Ext (M M':Mt):Prop where
 bd:∀i id,jy M.bd i=some (.at_ id)→jy M'.bd i=some (.at_ id)
 new:∀i,jy M.bd i=some .new→jy M'.bd i=some .new
 newd:∀i,jy M.bd i=some .newd→jy M'.bd i=some .newd
 cons:M.cons <+: M'.cons
 vars:M.vars <+: M'.vars
 freed:∀i∈M.freed,i∈M'.freed
 len:M'.bd.length=M.bd.length
def Ext.refl (M:Mt):Ext M M:=⟨fun _ _ h=>h,fun _ h=>h,fun _ h=>h,ez,ez,fun _ h=>h,rfl⟩
def Ext.trans {M M' M'':Mt} (h:Ext M M') (k:Ext M' M''):Ext M M'' :=
 ⟨fun i id q=>k.bd i id (h.bd i id q),fun i q=>k.new i (h.new i q),fun i q=>k.newd i (h.newd i q),h.cons.trans k.cons,h.vars.trans k.vars,fun i q=>k.freed i (h.freed i q),k.len.trans h.len⟩
def Ŧ:∀(l:List Bd) (d:Nat) (b:Bd) (i:Nat),jy (Mj l d b) i=if i=d∧d<l.length then some b else jy l i
 |[],d,v,i=>by simp[Mj,jy]
 |x::xs,0,v,0=>by simp[Mj,jy]
 |x::xs,0,v,i+1=>by simp[Mj,jy]
 |x::xs,d+1,v,0=>by simp[Mj,jy]
 |x::xs,d+1,v,i+1=>by simp[Mj,jy,Ŧ xs d v i]
def sq:∀(l:List Bd) (d:Nat) (b:Bd),(Mj l d b).length=l.length
 |[],_,_=>rfl
 |_::_,0,_=>rfl
 |_::xs,d+1,v=>by simp[Mj,sq xs d v]
def zY:∀{l:List Bd} {i:Nat} {b:Bd},jy l i=some b→i<l.length
 |[],_,_,h=>by cases h
 |_::_,0,_,_=>gK _
 |_::_,i+1,_,h=>Nat.succ_lt_succ (zY (by simpa[jy] using h))
def iT {M M':Mt} {i id:Nat} (e:Ti M i id=some M'):Ext M M'∧jy M'.bd i=some (.at_ id)∧M'.cons=M.cons∧M'.vars=M.vars:=by
 unfold Ti at e
 split at e<;>try (cases e; done)
 ·rename_i ho;cases e;have hlt:=zY ho;refine⟨⟨fun j id' q=>?_,fun j q=>?_,fun j q=>?_,ez,ez,fun _ q=>q,sq _ _ _⟩,by simp[Ŧ,hlt],rfl,rfl⟩
  ·simp only[Ŧ]
   by_cases hj:j=i
   ·subst hj; rw[ho] at q; cases q
   ·simp[hj,q]
  ·simp only[Ŧ]
   by_cases hj:j=i
   ·subst hj; rw[ho] at q; cases q
   ·simp[hj,q]
  ·simp only[Ŧ]
   by_cases hj:j=i
   ·subst hj; rw[ho] at q; cases q
   ·simp[hj,q]
 ·rename_i id' ho
  split at e<;>try (cases e; done)
  rename_i hi;cases e;rw[eq_of_beq hi] at ho;exact⟨Ext.refl _,ho,rfl,rfl⟩
def Me {M M':Mt} {i:Nat} (e:ah7 M i=some M'):Ext M M'∧jy M'.bd i=some .new∧M'.cons=M.cons∧M'.vars=M.vars:=by
 unfold ah7 at e
 split at e<;>try (cases e; done)
 rename_i ho;cases e;have hlt:=zY ho;refine⟨⟨fun j id' q=>?_,fun j q=>?_,fun j q=>?_,ez,ez,fun _ q=>q,sq _ _ _⟩,by simp[Ŧ,hlt],rfl,rfl⟩
 ·simp only[Ŧ]
  by_cases hj:j=i
  ·subst hj; rw[ho] at q; cases q
  ·simp[hj,q]
 ·simp only[Ŧ]
  by_cases hj:j=i
  ·subst hj; rw[ho] at q; cases q
  ·simp[hj,q]
 ·simp only[Ŧ]
  by_cases hj:j=i
  ·subst hj; rw[ho] at q; cases q
  ·simp[hj,q]
def Iy {M M':Mt} {i:Nat} (e:abA M i=some M'):Ext M M'∧jy M'.bd i=some .newd∧M'.cons=M.cons∧M'.vars=M.vars:=by
 unfold abA at e
 split at e<;>try (cases e; done)
 rename_i ho;cases e;have hlt:=zY ho;refine⟨⟨fun j id' q=>?_,fun j q=>?_,fun j q=>?_,ez,ez,fun _ q=>q,sq _ _ _⟩,by simp[Ŧ,hlt],rfl,rfl⟩
 ·simp only[Ŧ]
  by_cases hj:j=i
  ·subst hj; rw[ho] at q; cases q
  ·simp[hj,q]
 ·simp only[Ŧ]
  by_cases hj:j=i
  ·subst hj; rw[ho] at q; cases q
  ·simp[hj,q]
 ·simp only[Ŧ]
  by_cases hj:j=i
  ·subst hj; rw[ho] at q; cases q
  ·simp[hj,q]
def kin:Blk→Blk→Prop
 |.row t _ false xs,B=>B=.row t 0 false xs
 |.row t g true xs,B=>B=.row t g true xs
 |.map k v es,B=>B=.map k v es
 |.cells _,B=>∃cs',B=.cells cs'
 |.dead,B=>B=.dead
 |.deep k _ xss,B=>B=.deep k 0 xss
structure Fin (ν:Nat→Value) (h:List Blk) (w:World) (M:Mt) (h':List Blk):Prop where
 at_:∀i id,jy M.bd i=some (.at_ id)→kin (lkB h id) (lkB h' i)
 new:∀i,jy M.bd i=some .new→∃t,lkB h' i=.row t 0 false []
 newd:∀i,jy M.bd i=some .newd→∃k,lkB h' i=.deep k 0 []
 out:∀i,(∀id,jy M.bd i≠some (.at_ id))→jy M.bd i≠some .new→jy M.bd i≠some .newd→lkB h' i=.dead
 freed:∀id∈M.freed,∀i,jy M.bd i≠some (.at_ id)
 inj:∀i j id,jy M.bd i=some (.at_ id)→jy M.bd j=some (.at_ id)→i=j
def Fin.live {M:Mt} (F:Fin ν h w M h') {b:Nat} (hb:aie (νb M.bd ν) h' b):∃i id,jy M.bd i=some (.at_ id)∧(lkB h id).live=true∧Ο (ν id) b:=by
 obtain⟨i,hl,hn⟩:=hb
 cases hB:jy M.bd i with
 |none=>rw[F.out i (by simp[hB]) (by simp[hB]) (by simp[hB])] at hl; cases hl
 |some bd =>
  cases bd with
  |open_=>rw[F.out i (by simp[hB]) (by simp[hB]) (by simp[hB])] at hl; cases hl
  |new=>simp only[νb,hB] at hn; cases hn
  |newd =>
   simp only[νb,hB] at hn;obtain⟨u,hu,hb⟩:=hn;simp at hu;subst hu;cases hb
  |at_ id =>
   refine⟨i,id,hB,?_,by simpa[νb,hB] using hn⟩;have hk:=F.at_ i id hB
   cases hB':lkB h id with
   |dead=>rw[hB'] at hk; rw[show lkB h' i=_ from hk] at hl; cases hl
   |cells=>rfl
   |map=>rfl
   |deep=>rfl
   |row t g fz xs =>
    cases fz with
    |false=>rfl
    |true=>rw[hB'] at hk; rw[show lkB h' i=_ from hk] at hl; cases hl
def Fin.subL {M:Mt} (F:Fin ν h w M h') (b:Nat) (hb:aie (νb M.bd ν) h' b):aie ν h b:=by
 obtain⟨i,id,_,h2,h3⟩:=F.live hb;exact⟨id,h2,h3⟩
def Fin.sub {M:Mt} (F:Fin ν h w M h') (b:Nat) (hb:Av (νb M.bd ν) h' b):Av ν h b:=hb.imp_left (F.subL b)
def ajv (H:HR ν h w) {M:Mt} (F:Fin ν h w M h') {t:Ty} {v:AV} {u:Value} {x:Val t} (hf:∀i∈Xn h v,i∈M.freed) (e:ä t [þ h v]=some x) (hv:VR ν h w v u) :
 VR (νb M.bd ν) h' w (anA ⟨t,x⟩) u:=by
 have main:∀(hag:v.isAgg=false) (htu:v.isTup=false),CR w (Av (νb M.bd ν) h') t x [u]:=by
  intro hag htu;have h1:=hv.one hag htu;refine š e ⟨EP H F.sub h1 fun id b hc hl hb=>?_,trivial⟩;rintro(hlive|hgh)
  rotate_left
  ·exact H.ghne id b hl hb hgh
  obtain⟨i,id',h2,h3,h4⟩:=F.live hlive;have hid:id=id':=H.inj id id' b hl h3 hb h4;subst hid;refine F.freed id (hf id ?_) i h2;rcases hc with⟨g,rfl⟩|⟨g,lo,n,rfl⟩|rfl
  ·obtain⟨_,t',g',fz,xs,hl',_⟩:=h1;rw[hl'] at hl
   cases fz with
   |true=>cases hl
   |false=>simp[Xn,hl']
  ·obtain⟨_,t',g',fz,xs,hl',_⟩:=h1;rw[hl'] at hl
   cases fz with
   |true=>cases hl
   |false=>simp[Xn,hl']
  ·simp[Xn]
 have fin:(t≠.unit∧∀a b,t≠.pair a b)→v.isAgg=false∧v.isTup=false:=fun⟨h1,h2⟩=>by
  constructor
  ·cases v<;>try rfl
   cases t<;>first|(exact absurd rfl h1)|(exact absurd rfl (h2 _ _))|(simp[þ,ä,ŷ] at e)
  ·cases v<;>try rfl
   cases t<;>first|(exact absurd rfl h1)|(exact absurd rfl (h2 _ _))|(simp[þ,ä,ŷ] at e)
 cases t with
 |unit=>trivial
 |pair a b=>trivial
 |bool=>obtain⟨q1,q2⟩:=fin ⟨by simp,by simp⟩; exact L9 (main q1 q2)
 |int k=>obtain⟨q1,q2⟩:=fin ⟨by simp,by simp⟩; exact L9 (main q1 q2)
 |str=>obtain⟨q1,q2⟩:=fin ⟨by simp,by simp⟩; exact L9 (main q1 q2)
 |slice t=>obtain⟨q1,q2⟩:=fin ⟨by simp,by simp⟩; exact L9 (main q1 q2)
 |map k v=>obtain⟨q1,q2⟩:=fin ⟨by simp,by simp⟩; exact L9 (main q1 q2)
 |ptr t=>obtain⟨q1,q2⟩:=fin ⟨by simp,by simp⟩; exact L9 (main q1 q2)
def į {α:Type} {l C:List α} {d:α} (h:(l++[d]) <+: C):C.drop l.length=d::C.drop (l.length+1):=by
 obtain⟨t,rfl⟩:=h;simp[dz]
def pM {B:List Bd} {i id:Nat} (h:jy B i=some (.at_ id)):νb B ν i=ν id:=by simp[νb,h]
def alK {B:List Bd} {i:Nat} (h:jy B i=some .new):νb B ν i=.slice none 0 0:=by simp[νb,h]
def aih {B:List Bd} {i:Nat} (h:jy B i=some .newd):νb B ν i=.agg [Value.slice none 0 0].toArray:=by simp[νb,h]
def ka:∀(ps:List (Nat×Nat)) (vs:List AV) (us:List Value) (M M1:Mt),yp h ps vs M=some M1→Ext M M1∧M1.cons=M.cons∧M1.vars=M.vars ∧
 ∀Mf,Ext M1 Mf→Fin ν h w Mf h'→Ć (VR0 ν h w) vs us→Ć (VR0 (νb Mf.bd ν) h' w) (ps.map fun c=>.box c.1 c.2) us
 |[],[],us,M,M1,e=>by
  cases e;exact⟨Ext.refl _,rfl,rfl,fun Mf _ _ hv=>by cases us with|nil=>trivial|cons=>exact hv.elim⟩
 |[],_::_,_,_,_,e=>by cases e
 |_::_,[],_,_,_,e=>by cases e
 |(i,o)::ps,v::vs,us,M,M1,e=>by
  cases v<;>try (simp[yp] at e; done)
  rename_i id off;simp only[yp] at e
  split at e<;>try (cases e; done)
  rename_i ho
  split at e<;>try (cases e; done)
  rename_i cs hl
  split at e<;>try (cases e; done)
  rename_i M2 hb;obtain⟨e1,b1,c1,v1⟩:=iT hb;obtain⟨e2,c2,v2,_⟩:=ka ps vs us M2 M1 e;refine⟨e1.trans e2,c2.trans c1,v2.trans v1,fun Mf he F hv=>?_⟩
  cases us with
  |nil=>exact hv.elim
  |cons u us =>
   refine⟨?_,(ka ps vs us M2 M1 e).2.2.2 Mf he F hv.2⟩;obtain⟨cs',b,h1,h2,h3⟩:=hv.1;have hat:=he.bd i id (e2.bd i id b1);have hk:=F.at_ i id hat;rw[hl] at hk;obtain⟨cs2,hk⟩:=hk;exact⟨cs2,b,hk,(pM hat).trans h2,by rw[eq_of_beq ho]; exact h3⟩
def Pc (H:HR ν h w) {p:Pat} {v:AV} {M M1:Mt} (e:jk h p v M=some M1):Ext M M1∧∀Mf u,Ext M1 Mf→Fin ν h w Mf h'→VR ν h w v u →
 VR (νb Mf.bd ν) h' w (tq p ⟨Mf.cons.drop M.cons.length,Mf.vars.drop M.vars.length⟩).1 u ∧
  (tq p ⟨Mf.cons.drop M.cons.length,Mf.vars.drop M.vars.length⟩).2=⟨Mf.cons.drop M1.cons.length,Mf.vars.drop M1.vars.length⟩:=by
 cases p with
 |any=>cases e; exact⟨Ext.refl _,fun Mf u _ _ _=>⟨trivial,rfl⟩⟩
 |con t =>
  simp only[jk] at e
  split at e<;>try (cases e; done)
  rename_i x hx;cases e;refine⟨⟨fun _ _ q=>q,fun _ q=>q,fun _ q=>q,eQ _ _,ez,fun _ q=>eh _ q,rfl⟩,fun Mf u he F hv=>?_⟩;have hd:=į he.cons;simp only[tq,hd];exact⟨ajv H F (fun i hi=>he.freed i (eF _ hi)) hx hv,by simp⟩
 |var t =>
  simp only[jk] at e
  split at e<;>try (cases e; done)
  rename_i x hx;cases e;refine⟨⟨fun _ _ q=>q,fun _ q=>q,fun _ q=>q,ez,eQ _ _,fun _ q=>eh _ q,rfl⟩,fun Mf u he F hv=>?_⟩;have hd:=į he.vars;simp only[tq,hd];exact⟨ajv H F (fun i hi=>he.freed i (eF _ hi)) hx hv,by simp⟩
 |own i =>
  simp only[jk] at e
  split at e<;>try (cases e; done)
  ·rename_i id g
   split at e<;>try (cases e; done)
   rename_i t g' xs hl
   split at e<;>try (cases e; done)
   rename_i hg;obtain⟨e1,b1,c1,v1⟩:=iT e;refine⟨e1,fun Mf u he F hv=>⟨?_,by simp only[tq,c1,v1]⟩⟩;have hat:=he.bd i id b1;have hk:=F.at_ i id hat;rw[hl] at hk;obtain⟨ho,t2,g2,fz2,xs2,hl2,_,hq⟩:=hv;rw[hl] at hl2; cases hl2;exact⟨ho,t,0,false,xs,hk,cY _,fun _=>(hq (eq_of_beq hg)).trans (pM hat).symm⟩
  ·obtain⟨e1,b1,c1,v1⟩:=Me e;refine⟨e1,fun Mf u he F hv=>⟨?_,by simp only[tq,c1,v1]⟩⟩;have hnw:=he.new i b1;obtain⟨t,hk⟩:=F.new i hnw;have hu:u=.slice none 0 0:=hv;exact⟨by rw[hu]; rfl,t,0,false,[],hk,cY _,fun _=>hu.trans (alK hnw).symm⟩
 |dp i =>
  simp only[jk] at e
  split at e<;>try (cases e; done)
  ·rename_i id g
   split at e<;>try (cases e; done)
   rename_i k g' xss hl
   split at e<;>try (cases e; done)
   rename_i hg;obtain⟨e1,b1,c1,v1⟩:=iT e;refine⟨e1,fun Mf u he F hv=>⟨?_,by simp only[tq,c1,v1]⟩⟩;have hat:=he.bd i id b1;have hk:=F.at_ i id hat;rw[hl] at hk;obtain⟨ho,k2,g2,xss2,hl2,_,hq⟩:=hv;rw[hl] at hl2; cases hl2;exact⟨ho,k,0,xss,hk,cY _,fun _=>by rw[pM hat]; exact hq (eq_of_beq hg)⟩
  ·obtain⟨e1,b1,c1,v1⟩:=Iy e;refine⟨e1,fun Mf u he F hv=>⟨?_,by simp only[tq,c1,v1]⟩⟩;have hnw:=he.newd i b1;obtain⟨k,hk⟩:=F.newd i hnw;have hu:u=.slice none 0 0:=hv;exact⟨by rw[hu]; rfl,k,0,[],hk,cY _,fun _=>⟨[],by rw[aih hnw,hu]⟩⟩
 |omp i =>
  simp only[jk] at e
  split at e<;>try (cases e; done)
  rename_i id
  split at e<;>try (cases e; done)
  rename_i k v' es hl;obtain⟨e1,b1,c1,v1⟩:=iT e;refine⟨e1,fun Mf u he F hv=>⟨?_,by simp only[tq,c1,v1]⟩⟩;have hat:=he.bd i id b1;have hk:=F.at_ i id hat;rw[hl] at hk;obtain⟨ho,k2,v2,es2,hl2,hq⟩:=hv;exact⟨ho,k,v',es,hk,hq.trans (pM hat).symm⟩
 |box i off =>
  simp only[jk] at e
  split at e<;>try (cases e; done)
  rename_i id off'
  split at e<;>try (cases e; done)
  rename_i hoff
  split at e<;>try (cases e; done)
  rename_i cs hl;obtain⟨e1,b1,c1,v1⟩:=iT e;refine⟨e1,fun Mf u he F hv=>⟨?_,by simp only[tq,c1,v1]⟩⟩;have hat:=he.bd i id b1;have hk:=F.at_ i id hat;rw[hl] at hk;obtain⟨cs2,hk⟩:=hk;obtain⟨cs',b,h1,h2,h3⟩:=hv;exact⟨cs2,b,hk,(pM hat).trans h2,by rw[eq_of_beq hoff]; exact h3⟩
 |nils =>
  simp only[jk] at e
  split at e<;>try (cases e; done)
  cases e;exact⟨Ext.refl _,fun Mf u _ _ hv=>⟨hv,rfl⟩⟩
 |nilp =>
  simp only[jk] at e
  split at e<;>try (cases e; done)
  cases e;exact⟨Ext.refl _,fun Mf u _ _ hv=>⟨hv,rfl⟩⟩
 |nilfn =>
  simp only[jk] at e
  split at e<;>try (cases e; done)
  cases e;exact⟨Ext.refl _,fun Mf u _ _ hv=>⟨hv,rfl⟩⟩
 |fn f caps =>
  simp only[jk] at e
  split at e<;>try (cases e; done)
  rename_i f' vs
  split at e<;>try (cases e; done)
  rename_i hf;obtain⟨e1,c1,v1,_⟩:=ka (ν:=ν) (w:=w) (h':=h') caps vs [] M M1 e;refine⟨e1,fun Mf u he F hv=>⟨?_,by simp only[tq,c1,v1]⟩⟩;obtain⟨fs,cs,rfl,q1,q2⟩:=hv;have:=(ka (ν:=ν) (w:=w) (h':=h') caps vs cs.toList M M1 e).2.2.2 Mf he F q2;exact⟨fs,cs,by rw[eq_of_beq hf],by rw[q1.nil_left]; trivial,this⟩
def rest (Mf M:Mt):It:=⟨Mf.cons.drop M.cons.length,Mf.vars.drop M.vars.length⟩
def Dt {Mf M M1:Mt} (h1:M1.cons=M.cons) (h2:M1.vars=M.vars):rest Mf M=rest Mf M1:=by simp only[rest,h1,h2]
def vv {p:Pat} {v:AV} {M M1:Mt} (e:jk h p v M=some M1):Ext M M1∧∀Mf,Ext M1 Mf→(tq p (rest Mf M)).2=rest Mf M1:=by
 cases p with
 |any=>cases e; exact⟨Ext.refl _,fun Mf _=>rfl⟩
 |con t =>
  simp only[jk] at e
  split at e<;>try (cases e; done)
  rename_i x hx;cases e;refine⟨⟨fun _ _ q=>q,fun _ q=>q,fun _ q=>q,eQ _ _,ez,fun _ q=>eh _ q,rfl⟩,fun Mf he=>?_⟩;have hd:=į he.cons;simp only[rest,tq,hd]; simp
 |var t =>
  simp only[jk] at e
  split at e<;>try (cases e; done)
  rename_i x hx;cases e;refine⟨⟨fun _ _ q=>q,fun _ q=>q,fun _ q=>q,ez,eQ _ _,fun _ q=>eh _ q,rfl⟩,fun Mf he=>?_⟩;have hd:=į he.vars;simp only[rest,tq,hd]; simp
 |own i =>
  simp only[jk] at e
  split at e<;>try (cases e; done)
  ·split at e<;>try (cases e; done)
   split at e<;>try (cases e; done)
   obtain⟨e1,b1,c1,v1⟩:=iT e;exact⟨e1,fun Mf he=>Dt c1 v1⟩
  ·obtain⟨e1,b1,c1,v1⟩:=Me e;exact⟨e1,fun Mf he=>Dt c1 v1⟩
 |dp i =>
  simp only[jk] at e
  split at e<;>try (cases e; done)
  ·split at e<;>try (cases e; done)
   split at e<;>try (cases e; done)
   obtain⟨e1,b1,c1,v1⟩:=iT e;exact⟨e1,fun Mf he=>Dt c1 v1⟩
  ·obtain⟨e1,b1,c1,v1⟩:=Iy e;exact⟨e1,fun Mf he=>Dt c1 v1⟩
 |omp i =>
  simp only[jk] at e
  split at e<;>try (cases e; done)
  split at e<;>try (cases e; done)
  obtain⟨e1,b1,c1,v1⟩:=iT e;exact⟨e1,fun Mf he=>Dt c1 v1⟩
 |box i off =>
  simp only[jk] at e
  split at e<;>try (cases e; done)
  split at e<;>try (cases e; done)
  split at e<;>try (cases e; done)
  obtain⟨e1,b1,c1,v1⟩:=iT e;exact⟨e1,fun Mf he=>Dt c1 v1⟩
 |nils =>
  simp only[jk] at e
  split at e<;>try (cases e; done)
  cases e; exact⟨Ext.refl _,fun Mf _=>rfl⟩
 |nilp =>
  simp only[jk] at e
  split at e<;>try (cases e; done)
  cases e; exact⟨Ext.refl _,fun Mf _=>rfl⟩
 |nilfn =>
  simp only[jk] at e
  split at e<;>try (cases e; done)
  cases e; exact⟨Ext.refl _,fun Mf _=>rfl⟩
 |fn f caps =>
  simp only[jk] at e
  split at e<;>try (cases e; done)
  rename_i f' vs
  split at e<;>try (cases e; done)
  obtain⟨e1,c1,v1,_⟩:=ka (ν:=fun _=>undef) (w:=default) (h':=[]) caps vs [] M M1 e;exact⟨e1,fun Mf he=>Dt c1 v1⟩
def uI (p:Pat) (ps:List Pat) (I:It):KM (p::ps) I=((tq p I).1::(KM ps (tq p I).2).1,(KM ps (tq p I).2).2):=rfl
def DC:∀{ps:List Pat} {vs:List AV} {M M1:Mt},WE h ps vs M=some M1→Ext M M1∧∀Mf,Ext M1 Mf→(KM ps (rest Mf M)).2=rest Mf M1
 |[],vs,M,M1,e=>by cases e; exact⟨Ext.refl _,fun Mf _=>rfl⟩
 |p::ps,vs,M,M1,e=>by
  simp only[WE] at e
  split at e<;>try (cases e; done)
  rename_i M2 h1;obtain⟨e1,t1⟩:=vv h1;obtain⟨e2,t2⟩:=DC e;exact⟨e1.trans e2,fun Mf he=>by rw[uI,t1 Mf (e2.trans he)]; exact t2 Mf he⟩
def ac8 (H:HR ν h w):∀{ps:List Pat} {vs:List AV} {M M1:Mt},WE h ps vs M=some M1→∀Mf,Ext M1 Mf→Fin ν h w Mf h'→∀f:Nat→Value,(∀k,VR ν h w (lk vs k) (f k)) →
 ∀k,VR (νb Mf.bd ν) h' w (lk (KM ps (rest Mf M)).1 k) (f k)
 |[],vs,M,M1,e,Mf,_,_,f,_,k=>trivial
 |p::ps,vs,M,M1,e,Mf,he,F,f,hf,k=>by
  simp only[WE] at e
  split at e<;>try (cases e; done)
  rename_i M2 h1;obtain⟨e1,t1⟩:=vv h1;obtain⟨e2,t2⟩:=DC e;rw[uI,t1 Mf (e2.trans he)]
  cases k with
  |zero=>exact((Pc H h1).2 Mf (f 0) (e2.trans he) F (hf 0)).1
  |succ k =>
   have ht:∀k,lk vs.tail k=lk vs (k+1):=fun k=>by cases vs<;>rfl
   exact ac8 H e Mf he F (fun k=>f (k+1)) (fun k=>by rw[ht]; exact hf (k+1)) k
def pU:∀{ps:List Pat} {vs:List AV} {M M1:Mt},pC h ps vs M=some M1→Ext M M1∧∀Mf,Ext M1 Mf→(KM ps (rest Mf M)).2=rest Mf M1
 |[],[],M,M1,e=>by cases e; exact⟨Ext.refl _,fun Mf _=>rfl⟩
 |[],_::_,M,M1,e=>by cases e
 |_::_,[],M,M1,e=>by cases e
 |p::ps,v::vs,M,M1,e=>by
  simp only[pC] at e
  split at e<;>try (cases e; done)
  rename_i M2 h1;obtain⟨e1,t1⟩:=vv h1;obtain⟨e2,t2⟩:=pU e;exact⟨e1.trans e2,fun Mf he=>by rw[uI,t1 Mf (e2.trans he)]; exact t2 Mf he⟩
def akJ (p:Pat) (I:It):(tq p I).1.isAgg=false∧(tq p I).1.isTup=false:=by
 have henc:∀d:DV,(anA d).isAgg=false∧(anA d).isTup=false:=fun d=>by
  obtain⟨t,x⟩:=d
  cases t<;>exact⟨rfl,rfl⟩
 cases p<;>simp only[tq]<;>try exact⟨rfl,rfl⟩
 ·split<;>first|exact henc _|exact⟨rfl,rfl⟩
 ·split<;>first|exact henc _|exact⟨rfl,rfl⟩
def Fx (H:HR ν h w):∀{ps:List Pat} {vs:List AV} {us:List Value} {M M1:Mt},pC h ps vs M=some M1→∀Mf,Ext M1 Mf→Fin ν h w Mf h'→Ć (VRc ν h w) vs us →
 Ć (VRc (νb Mf.bd ν) h' w) (KM ps (rest Mf M)).1 us
 |[],[],us,M,M1,e,Mf,_,_,hv=>by cases us with|nil=>trivial|cons=>exact hv.elim
 |[],_::_,_,M,M1,e,_,_,_,_=>by cases e
 |_::_,[],_,M,M1,e,_,_,_,_=>by cases e
 |p::ps,v::vs,us,M,M1,e,Mf,he,F,hv=>by
  simp only[pC] at e
  split at e<;>try (cases e; done)
  rename_i M2 h1;obtain⟨e1,t1⟩:=vv h1;obtain⟨e2,t2⟩:=pU e;rw[uI,t1 Mf (e2.trans he)]
  cases us with
  |nil=>exact hv.elim
  |cons u us =>
   have h2:=((Pc H h1).2 Mf u (e2.trans he) F hv.1.1.up).1;have hfl:=akJ p (rest Mf M);exact⟨⟨h2.one hfl.1 hfl.2,hv.1.2⟩,Fx H e Mf he F hv.2⟩
def Bn (M:Mt) (d:DV):Ext M {M with cons:=M.cons++[d]}:=⟨fun _ _ q=>q,fun _ q=>q,fun _ q=>q,eQ _ _,ez,fun _ q=>q,rfl⟩
def If (M:Mt) (d:DV):Ext M {M with vars:=M.vars++[d]}:=⟨fun _ _ q=>q,fun _ q=>q,fun _ q=>q,ez,eQ _ _,fun _ q=>q,rfl⟩
def Pb {p:ja} {i:Nat} {M M1:Mt} (e:kd h p i M=some M1):Ext M M1∧∀Mf,Ext M1 Mf→(uJ p (rest Mf M)).2=rest Mf M1 ∧
 ((∃id,jy M.bd i=some (.at_ id)∧kin (lkB h id) (uJ p (rest Mf M)).1)∨(jy M.bd i=some .new∧∃t,(uJ p (rest Mf M)).1=.row t 0 false [])∨(jy M.bd i=some .newd∧∃k,(uJ p (rest Mf M)).1=.deep k 0 [])):=by
 cases p with
 |dead =>
  simp only[kd] at e
  split at e<;>try (cases e; done)
  rename_i id hb
  split at e<;>try (cases e; done)
  rename_i hl;cases e;exact⟨Ext.refl _,fun Mf _=>⟨rfl,.inl ⟨id,hb,by rw[hl]; rfl⟩⟩⟩
 |cells ps =>
  simp only[kd] at e
  split at e<;>try (cases e; done)
  rename_i id hb
  split at e<;>try (cases e; done)
  rename_i cs hl;obtain⟨e1,t1⟩:=pU e;exact⟨e1,fun Mf he=>⟨t1 Mf he,.inl ⟨id,hb,by rw[hl]; exact⟨_,rfl⟩⟩⟩⟩
 |rowc t =>
  simp only[kd] at e
  split at e<;>try (cases e; done)
  ·rename_i id hb
   split at e<;>try (cases e; done)
   rename_i t' g xs hl
   split at e<;>try (cases e; done)
   cases e;refine⟨Bn _ _,fun Mf he=>?_⟩;have hd:=į he.cons;simp only[rest,uJ,hd];exact⟨by simp,.inl ⟨id,hb,by rw[hl]; rfl⟩⟩
  ·rename_i hb;cases e;refine⟨Bn _ _,fun Mf he=>?_⟩;have hd:=į he.cons;simp only[rest,uJ,hd];exact⟨by simp,.inr (.inl ⟨hb,t,rfl⟩)⟩
 |rowf t g =>
  simp only[kd] at e
  split at e<;>try (cases e; done)
  rename_i id hb
  split at e<;>try (cases e; done)
  rename_i t' g' xs hl
  split at e<;>try (cases e; done)
  split at e<;>try (cases e; done)
  rename_i hg _;subst hg;cases e;refine⟨Bn _ _,fun Mf he=>?_⟩;have hd:=į he.cons;simp only[rest,uJ,hd];exact⟨by simp,.inl ⟨id,hb,by rw[hl]; rfl⟩⟩
 |rowv t =>
  simp only[kd] at e
  split at e<;>try (cases e; done)
  ·rename_i id hb
   split at e<;>try (cases e; done)
   rename_i t' g xs hl
   split at e<;>try (cases e; done)
   cases e;refine⟨If _ _,fun Mf he=>?_⟩;have hd:=į he.vars;simp only[rest,uJ,hd];exact⟨by simp,.inl ⟨id,hb,by rw[hl]; rfl⟩⟩
  ·rename_i hb;cases e;refine⟨If _ _,fun Mf he=>?_⟩;have hd:=į he.vars;simp only[rest,uJ,hd];exact⟨by simp,.inr (.inl ⟨hb,t,rfl⟩)⟩
 |mapc k v =>
  simp only[kd] at e
  split at e<;>try (cases e; done)
  rename_i id hb
  split at e<;>try (cases e; done)
  rename_i k' v' es hl
  split at e<;>try (cases e; done)
  cases e;refine⟨Bn _ _,fun Mf he=>?_⟩;have hd:=į he.cons;simp only[rest,uJ,hd];exact⟨by simp,.inl ⟨id,hb,by rw[hl]; rfl⟩⟩
 |mapv k v =>
  simp only[kd] at e
  split at e<;>try (cases e; done)
  rename_i id hb
  split at e<;>try (cases e; done)
  rename_i k' v' es hl
  split at e<;>try (cases e; done)
  cases e;refine⟨If _ _,fun Mf he=>?_⟩;have hd:=į he.vars;simp only[rest,uJ,hd];exact⟨by simp,.inl ⟨id,hb,by rw[hl]; rfl⟩⟩
 |deepc k =>
  simp only[kd] at e
  split at e<;>try (cases e; done)
  ·rename_i id hb
   split at e<;>try (cases e; done)
   rename_i k' g xss hl
   split at e<;>try (cases e; done)
   cases e;refine⟨Bn _ _,fun Mf he=>?_⟩;have hd:=į he.cons;simp only[rest,uJ,hd];exact⟨by simp,.inl ⟨id,hb,by rw[hl]; rfl⟩⟩
  ·rename_i hb;cases e;refine⟨Bn _ _,fun Mf he=>?_⟩;have hd:=į he.cons;simp only[rest,uJ,hd];exact⟨by simp,.inr (.inr ⟨hb,k,rfl⟩)⟩
 |deepv k =>
  simp only[kd] at e
  split at e<;>try (cases e; done)
  ·rename_i id hb
   split at e<;>try (cases e; done)
   rename_i k' g xss hl
   split at e<;>try (cases e; done)
   cases e;refine⟨If _ _,fun Mf he=>?_⟩;have hd:=į he.vars;simp only[rest,uJ,hd];exact⟨by simp,.inl ⟨id,hb,by rw[hl]; rfl⟩⟩
  ·rename_i hb;cases e;refine⟨If _ _,fun Mf he=>?_⟩;have hd:=į he.vars;simp only[rest,uJ,hd];exact⟨by simp,.inr (.inr ⟨hb,k,rfl⟩)⟩
def amM (H:HR ν h w) {p:ja} {i id:Nat} {M M1:Mt} {cs:List AV} (e:kd h p i M=some M1) (hb:jy M.bd i=some (.at_ id)) (hl:lkB h id=.cells cs) {Mf:Mt} (he:Ext M1 Mf) (F:Fin ν h w Mf h') {us:List Value} (hv:Ć (VRc ν h w) cs us) :
 ∃cs',(uJ p (rest Mf M)).1=.cells cs'∧Ć (VRc (νb Mf.bd ν) h' w) cs' us:=by
 cases p with
 |cells ps =>
  simp only[kd,hb,hl] at e;exact⟨_,rfl,Fx H e Mf he F hv⟩
 |dead=>simp[kd,hb,hl] at e
 |rowc t=>simp[kd,hb,hl] at e
 |rowf t g=>simp[kd,hb,hl] at e
 |rowv t=>simp[kd,hb,hl] at e
 |mapc k v=>simp[kd,hb,hl] at e
 |mapv k v=>simp[kd,hb,hl] at e
 |deepc k=>simp[kd,hb,hl] at e
 |deepv k=>simp[kd,hb,hl] at e
def KN (p:ja) (ps:List ja) (I:It):EB (p::ps) I=((uJ p I).1::(EB ps (uJ p I).2).1,(EB ps (uJ p I).2).2):=rfl
def L6:∀(ps:List ja) (I:It),(EB ps I).1.length=ps.length
 |[],_=>rfl
 |p::ps,I=>by rw[KN]; simp[L6 ps]
def DD:∀{ps:List ja} {i:Nat} {M M1:Mt},WF h ps i M=some M1→Ext M M1∧∀Mf,Ext M1 Mf→∀k,k<ps.length →
 (∃id,jy Mf.bd (i+k)=some (.at_ id)∧kin (lkB h id) (lkB (EB ps (rest Mf M)).1 k))∨(jy Mf.bd (i+k)=some .new∧∃t,lkB (EB ps (rest Mf M)).1 k=.row t 0 false [])∨(jy Mf.bd (i+k)=some .newd∧∃q,lkB (EB ps (rest Mf M)).1 k=.deep q 0 [])
 |[],i,M,M1,e=>by cases e; exact⟨Ext.refl _,fun Mf _ k hk=>by simp at hk⟩
 |p::ps,i,M,M1,e=>by
  simp only[WF] at e
  split at e<;>try (cases e; done)
  rename_i M2 h1;obtain⟨e1,t1⟩:=Pb h1;obtain⟨e2,t2⟩:=DD e;refine⟨e1.trans e2,fun Mf he k hk=>?_⟩;obtain⟨t3,t4⟩:=t1 Mf (e2.trans he);rw[KN,t3]
  cases k with
  |zero =>
   rcases t4 with⟨id,q1,q2⟩|⟨q1,q2⟩|⟨q1,q2⟩
   ·exact .inl ⟨id,(e1.trans (e2.trans he)).bd _ _ q1,q2⟩
   ·exact .inr (.inl ⟨(e1.trans (e2.trans he)).new _ q1,q2⟩)
   ·exact .inr (.inr ⟨(e1.trans (e2.trans he)).newd _ q1,q2⟩)
  |succ k =>
   have:=t2 Mf he k (by simpa using hk);rw[show i+(k+1)=i+1+k by omega];exact this
def ac9 (H:HR ν h w):∀{ps:List ja} {i:Nat} {M M1:Mt},WF h ps i M=some M1→∀Mf,Ext M1 Mf→Fin ν h w Mf h'→∀k id cs us,k<ps.length→jy Mf.bd (i+k)=some (.at_ id)→lkB h id=.cells cs→Ć (VRc ν h w) cs us →
 ∃cs',lkB (EB ps (rest Mf M)).1 k=.cells cs'∧Ć (VRc (νb Mf.bd ν) h' w) cs' us
 |[],i,M,M1,e,Mf,_,_,k,_,_,_,hk,_,_,_=>by simp at hk
 |p::ps,i,M,M1,e,Mf,he,F,k,id,cs,us,hk,hb,hl,hv=>by
  simp only[WF] at e
  split at e<;>try (cases e; done)
  rename_i M2 h1;obtain⟨e1,t1⟩:=Pb h1;obtain⟨e2,t2⟩:=DD e;obtain⟨t3,t4⟩:=t1 Mf (e2.trans he);rw[KN,t3]
  cases k with
  |zero =>
   rcases t4 with⟨id',q1,q2⟩|⟨q1,q2⟩|⟨q1,q2⟩
   ·have:=(e1.trans (e2.trans he)).bd _ _ q1;have hb':jy Mf.bd i=some (.at_ id):=hb;rw[this] at hb';cases hb';exact amM H h1 q1 hl (e2.trans he) F hv
   ·have:=(e1.trans (e2.trans he)).new _ q1;have hb':jy Mf.bd i=some (.at_ id):=hb;rw[this] at hb';cases hb'
   ·have:=(e1.trans (e2.trans he)).newd _ q1;have hb':jy Mf.bd i=some (.at_ id):=hb;rw[this] at hb';cases hb'
  |succ k=>exact ac9 H e Mf he F k id cs us (by simpa using hk) (by rw[show i+1+k=i+(k+1) by omega]; exact hb) hl hv
def HH:∀{l:List Bd} {i id:Nat},jy l i=some (.at_ id)→id∈NC l
 |[],_,_,h=>by cases h
 |x::l,0,id,h=>by
  simp only[jy,Option.some.injEq] at h;subst h; simp[NC]
 |x::l,i+1,id,h=>by
  have:=HH (l:=l) (i:=i) (id:=id) h
  cases x<;>simp[NC,this]
def Ma:∀{l:List Bd} {i j id:Nat},distinct (NC l)=true→jy l i=some (.at_ id)→jy l j=some (.at_ id)→i=j
 |[],_,_,_,_,h,_=>by cases h
 |x::l,0,0,_,_,_,_=>rfl
 |x::l,0,j+1,id,hd,h1,h2=>by
  simp only[jy,Option.some.injEq] at h1;subst h1;simp only[NC,distinct,cZ] at hd;have:=HH (l:=l) (i:=j) (id:=id) h2;simp[this] at hd
 |x::l,i+1,0,id,hd,h1,h2=>by
  simp only[jy,Option.some.injEq] at h2;subst h2;simp only[NC,distinct,cZ] at hd;have:=HH (l:=l) (i:=i) (id:=id) h1;simp[this] at hd
 |x::l,i+1,j+1,id,hd,h1,h2=>by
  have hd':distinct (NC l)=true:=by
   cases x<;>simp only[NC,distinct,cZ] at hd<;>first|exact hd|exact hd.2
  rw[Ma (l:=l) hd' h1 h2]
def aka {pin n i:Nat} (hi:i<pin) (hn:pin≤n):jy (Dl pin n) i=some (.at_ i):=by
 have key:∀(l:List Bd) (k:Nat),jy l k=l[k]?:=by
  intro l
  induction l with
  |nil=>intro k; simp[jy]
  |cons x l ih=>intro k; cases k with
   |zero=>rfl
   |succ k=>simpa[jy] using ih k
 rw[key,Dl,f5,fq (by omega)];simp[hi]
def KQ:∀{pin:Nat},ani h pin=true→∀i,i<pin→(∀t g xs,lkB h i=.row t g false xs→g=0)∧∀k g xss,lkB h i=.deep k g xss→g=0
 |0,_,i,hi=>by omega
 |pin+1,hg,i,hi=>by
  have hrec:ani h pin=true∧(∀t g xs,lkB h pin=.row t (g+1) false xs→False)∧∀k g xss,lkB h pin=.deep k (g+1) xss→False:=by
   simp only[ani] at hg
   split at hg<;>try (cases hg; done)
   rename_i hne1 hne2;exact⟨hg,fun t g xs e=>hne1 _ _ _ e,fun k g xss e=>hne2 _ _ _ e⟩
  rcases gN.1 hi with h1|rfl
  ·exact KQ hrec.1 i h1
  ·refine⟨fun t g xs hl=>?_,fun k g xss hl=>?_⟩
   ·cases g with
    |zero=>rfl
    |succ g=>exact(hrec.2.1 _ _ _ hl).elim
   ·cases g with
    |zero=>rfl
    |succ g=>exact(hrec.2.2 _ _ _ hl).elim
def RX:∀(l:List AV) (n k:Nat),lk (l++List.replicate n .any) k=lk l k
 |[],0,_=>rfl
 |[],n+1,0=>rfl
 |[],n+1,k+1=>by simpa[gD,lk] using RX [] n k
 |x::l,n,0=>rfl
 |x::l,n,k+1=>by simpa[lk] using RX l n k
def L5:∀(ps:List Pat) (I:It),(KM ps I).1.length=ps.length
 |[],_=>rfl
 |p::ps,I=>by rw[uI]; simp[L5 ps]
def Fw:aoW:=by
 intro T pin cs vs S p v ν a w e H;unfold Cb at e
 split at e<;>try (cases e; done)
 rename_i hc;simp only[cZ,decide_eq_true_eq] at hc;obtain⟨c1,c2,c3,c4⟩:=hc
 split at e<;>try (cases e; done)
 rename_i M0 hL
 split at e<;>try (cases e; done)
 rename_i M hH
 split at e<;>try (cases e; done)
 rename_i hd;simp only[cZ,dN] at hd;obtain⟨d1,d2⟩:=hd
 split at e<;>try (cases e; done)
 rename_i p' v' hp hv;cases e;have ep:agB cs p=M.cons:=aiu cs _ _ hp;have ev:agB vs v=M.vars:=aiu vs _ _ hv;obtain⟨eL,tL⟩:=DC hL;obtain⟨eH,tH⟩:=DD hH
 -- the state of the pattern
 have hI0:({cons:=agB cs p,vars:=agB vs v}:It)=rest M {bd:=Dl pin T.heap.length,cons:=[],vars:=[],freed:=[]}:=by
  simp[rest,ep,ev]
 have hinst:jp T cs vs p v={t:=(KM T.slots (rest M {bd:=Dl pin T.heap.length,cons:=[],vars:=[],freed:=[]})).1++List.replicate (T.n-T.slots.length) .any,h:=(EB T.heap (rest M M0)).1}:=by
  unfold jp;rw[hI0];have:=tL M eH;show(St.mk _ _)=_;rw[show(KM T.slots (rest M {bd:=Dl pin T.heap.length,cons:=[],vars:=[],freed:=[]})).2=rest M M0 from this]
 rw[hinst]
 have hblen:M.bd.length=T.heap.length:=by rw[eH.len,eL.len]; simp[Dl]
 have hhlen:(EB T.heap (rest M M0)).1.length=T.heap.length:=L6 _ _
 have F:Fin ν S.h w M (EB T.heap (rest M M0)).1:=by
  refine⟨fun i id hb=>?_,fun i hb=>?_,fun i hb=>?_,fun i h1 h2 h3=>?_,fun id hid i hb=>?_,fun i j id=>Ma d1⟩
  ·have hi:i<T.heap.length:=by rw[←hblen]; exact zY hb
   rcases tH M (Ext.refl _) i hi with⟨id',q1,q2⟩|⟨q1,_⟩|⟨q1,_⟩
   ·rw[du,hb] at q1; cases q1; exact q2
   ·rw[du,hb] at q1; cases q1
   ·rw[du,hb] at q1; cases q1
  ·have hi:i<T.heap.length:=by rw[←hblen]; exact zY hb
   rcases tH M (Ext.refl _) i hi with⟨id',q1,q2⟩|⟨q1,q2⟩|⟨q1,q2⟩
   ·rw[du,hb] at q1; cases q1
   ·exact q2
   ·rw[du,hb] at q1; cases q1
  ·have hi:i<T.heap.length:=by rw[←hblen]; exact zY hb
   rcases tH M (Ext.refl _) i hi with⟨id',q1,q2⟩|⟨q1,q2⟩|⟨q1,q2⟩
   ·rw[du,hb] at q1; cases q1
   ·rw[du,hb] at q1; cases q1
   ·exact q2
  ·rcases dA i T.heap.length with hi|hi
   ·rcases tH M (Ext.refl _) i hi with⟨id',q1,q2⟩|⟨q1,q2⟩|⟨q1,q2⟩
    ·rw[du] at q1; exact absurd q1 (h1 id')
    ·rw[du] at q1; exact absurd q1 h2
    ·rw[du] at q1; exact absurd q1 h3
   ·exact W6 _ _ (by rw[hhlen]; exact hi)
  ·have:=d2 id hid;have hm:=HH hb;simp[hm] at this
 have hHR:HR (νb M.bd ν) (EB T.heap (rest M M0)).1 w:=by
  refine⟨fun i=>?_,fun i j b hi hj hbi hbj=>?_,H.heap.ghlt,fun i b hl hb hg=>?_⟩
  rotate_left 2
  ·obtain⟨id,q1,q2⟩:=F.subL b ⟨i,hl,hb⟩;exact H.heap.ghne id b q1 q2 hg
  ·cases hb:jy M.bd i with
   |none=>rw[F.out i (by simp[hb]) (by simp[hb]) (by simp[hb])]; trivial
   |some x =>
    cases x with
    |open_=>rw[F.out i (by simp[hb]) (by simp[hb]) (by simp[hb])]; trivial
    |newd =>
     obtain⟨k,hk⟩:=F.newd i hb;rw[hk];exact⟨none,0,[],aih hb,cY _,gj _ _,.inl ⟨rfl,rfl⟩,trivial⟩
    |new =>
     obtain⟨t,ht⟩:=F.new i hb;rw[ht];exact⟨none,0,alK hb,cY _,.inl ⟨rfl,rfl⟩⟩
    |at_ id =>
     have hk:=F.at_ i id hb;have hB:=H.heap.blk id
     cases hl:lkB S.h id with
     |dead=>rw[hl] at hk; rw[show lkB _ i=_ from hk]; trivial
     |cells c =>
      rw[hl] at hB;obtain⟨b,arr,e',q1,q2,q3⟩:=hB
      have hi:i<T.heap.length:=by rw[←hblen]; exact zY hb
      obtain⟨cs',q4,q5⟩:=ac9 H.heap hH M (Ext.refl _) F i id c arr.toList hi (by rw[du]; exact hb) hl q3;rw[q4];exact⟨b,arr,e',(pM hb).trans q1,q2,q5⟩
     |row t g fz xs =>
      rw[hl] at hk hB
      cases fz with
      |true =>
       rw[show lkB _ i=_ from hk];show CR w _ (.slice t) xs [_];rw[pM hb];exact CR.mono F.sub hB
      |false =>
       rw[show lkB _ i=_ from hk];obtain⟨base,cap,q1,q2,q3⟩:=hB;refine⟨base,cap,(pM hb).trans q1,q2,?_⟩;rcases q3 with q3|⟨b,off,c,e',q4,q5,q6,q7⟩
       ·exact .inl q3
       ·refine .inr ⟨b,off,c,e',q4,q5,q6,fun j x hx=>?_⟩;obtain⟨us,q8,q9⟩:=q7 j x hx;exact⟨us,CR.mono F.sub q8,q9⟩
     |map k u es =>
      rw[hl] at hk hB;rw[show lkB _ i=_ from hk];obtain⟨b,entries,clock,q1,q2,q3,q4⟩:=hB;refine⟨b,entries,clock,(pM hb).trans q1,q2,q3,fun j x hx=>?_⟩;obtain⟨m,us,q5,q6,q7,q8⟩:=q4 j x hx;exact⟨m,us,q5,CR.mono F.sub q6,CR.mono F.sub q7,q8⟩
     |deep k g xss =>
      rw[hl] at hk hB;rw[show lkB _ i=_ from hk];obtain⟨base,cap,us,q1,q2⟩:=hB;exact⟨base,cap,us,(pM hb).trans q1,q2⟩
  ·have at1:∀i,(lkB (EB T.heap (rest M M0)).1 i).live=true→Ο (νb M.bd ν i) b→∃id,jy M.bd i=some (.at_ id)∧(lkB S.h id).live=true∧Ο (ν id) b:=fun i hi hbi=>by
    cases hb:jy M.bd i with
    |none=>rw[F.out i (by simp[hb]) (by simp[hb]) (by simp[hb])] at hi; cases hi
    |some x =>
     cases x with
     |open_=>rw[F.out i (by simp[hb]) (by simp[hb]) (by simp[hb])] at hi; cases hi
     |new=>simp only[νb,hb] at hbi; cases hbi
     |newd =>
      simp only[νb,hb] at hbi;obtain⟨u,hu,hbi⟩:=hbi;simp at hu;subst hu;cases hbi
     |at_ id =>
      refine⟨id,rfl,?_,by simpa[νb,hb] using hbi⟩;have hk:=F.at_ i id hb
      cases hB':lkB S.h id with
      |dead=>rw[hB'] at hk; rw[show lkB _ i=_ from hk] at hi; cases hi
      |cells=>rfl
      |map=>rfl
      |deep=>rfl
      |row t g fz xs =>
       cases fz with
       |false=>rfl
       |true=>rw[hB'] at hk; rw[show lkB _ i=_ from hk] at hi; cases hi
   obtain⟨id,q1,q2,q3⟩:=at1 i hi hbi;obtain⟨id',q4,q5,q6⟩:=at1 j hj hbj;have:=H.heap.inj id id' b q2 q5 q3 q6;subst this;exact F.inj i j id q1 q4
 have hpin:∀i,i<pin→jy M.bd i=some (.at_ i):=fun i hi=>(eL.trans eH).bd i i (aka hi c1);refine⟨νb M.bd ν,⟨H.defers,?_,fun i=>?_,hHR⟩,⟨rfl,rfl,rfl,cY _,fun b _ hb=>⟨rfl,fun hb'=>hb (F.subL b hb')⟩,fun i hi=>?_⟩,by rw[hhlen]; exact c1,fun i hi hdead=>?_⟩
 ·have:=H.len;simp only[dc,fY,L5];omega
 ·simp only[RX];exact ac8 H.heap hL M eH F (fun k=>a.tmps.getD k undef) (fun k=>H.tmps k) i
 ·have hb:=hpin i hi;have hk:=F.at_ i i hb
  cases hl:lkB S.h i with
  |dead=>trivial
  |cells c=>rw[hl] at hk; exact⟨hk,pM hb⟩
  |row t g fz xs =>
   rw[hl] at hk
   cases fz with
   |true=>exact⟨g,true,xs,hk,cY _,fun _=>⟨pM hb,rfl⟩⟩
   |false =>
    have hg:=(KQ c4 i hi).1 t g xs hl;exact⟨0,false,xs,hk,by omega,fun _=>⟨pM hb,rfl⟩⟩
  |map k u es=>rw[hl] at hk; exact⟨⟨es,hk⟩,pM hb⟩
  |deep k g xss =>
   rw[hl] at hk;have hg:=(KQ c4 i hi).2 k g xss hl;exact⟨0,xss,hk,by omega,fun _=>⟨pM hb,rfl⟩⟩
 ·have hk:=F.at_ i i (hpin i hi);rw[hdead] at hk;exact hk
end
end Go.Am
end

noncomputable section
namespace Go.Am
variable [ô]
section
variable {ρ:Type} {ν ν':Nat→Value} {h h':List Blk} {w w':World} {P:Program}
def lv (w:World) (G:Nat→Prop) (t:Ty) (x:Val t) (v:Value):Prop:=∃us,CR w G t x us∧v=xU t us
def AT (w:World) (G:Nat→Prop):(l:List Ty)→(t:Ty)→Val (tys t l)→List Value→Prop
 |[],t,x,vs=>∃v,vs=[v]∧lv w G t x v
 |u::l,t,x,vs=>∃v vs',vs=v::vs'∧lv w G t (x:Val t×Val (tys u l)).1 v∧AT w G l u (x:Val t×Val (tys u l)).2 vs'
def AL (w:World) (G:Nat→Prop):(l:List Ty)→Val (tyL l)→List Value→Prop
 |[],_,vs=>vs=[]
 |t::l,x,vs=>AT w G l t x vs
def RR (w:World) (G:Nat→Prop):(l:List Ty)→Val (tyL l)→Value→Prop
 |[],_,u=>u=.tuple #[]
 |[t],x,u=>lv w G t x u
 |t::u'::l,x,u=>∃vs,u=.tuple vs∧AT w G (u'::l) t x vs.toList
def kw (P:Program) (f:Nat) (p:Ô):Prop :=
 ∀(G:Nat→Prop) (x:Val (tyL p.ts)) (y:Val (tyL p.rs)),p.F x=some y→∀(w:World) (vals:List Value),(∀b,G b→b<w.heap.size)→AL w G p.ts x vals →
  (∃fn c,P.funcs[f]?=some fn∧fn.body=some c) ∧
  CallsIn Fence.wide 0 P f vals.toArray w fun e w'=>∃u,e=.returned u∧RR w' G p.rs y u∧(∀b,b<w.heap.size→w'.heap[b]?=w.heap[b]?)∧w.heap.size≤w'.heap.size∧w'.os=w.os∧w'.tape=w.tape∧w'.output=w.output
def abm {a:AV} {vs:List AV} (e:Ő a=some vs):ml a=vs:=by
 cases a<;>simp only[Ő,Option.some.injEq,reduceCtorEq] at e<;>exact e
def AC {G:Nat→Prop} {t:Ty} {x:Val t} {a:AV} {v:Value} {vs:List AV} (hag:(Xf a==t.isAgg)=true) (hc:Ő a=some vs) (hv:VR ν h w a v)
 (hs:∀c∈ml a,∀u,VR1 ν h w c u→VRs w G (þ h c) u) (e:ä t (vs.map (þ h))=some x):lv w G t x v:=by
 have h1:=hv.cells hc;have h2:Ć (VRs w G) (vs.map (þ h)) v.cells.toList:=Ć.map_left (aux vs _ h1 fun c hm u hu=>hs c (by rw[abm hc]; exact hm) u hu.1);refine⟨_,š e h2,?_⟩
 cases ha:a.isAgg with
 |true =>
  cases a<;>try cases ha
  obtain⟨us,rfl,_⟩:=hv
  have:t.isAgg=true:=by simpa[Xf] using hag
  simp[xU,this,Value.cells]
 |false =>
  have hn:Xf a=false:=by cases a<;>first|rfl|cases ha
  have htf:t.isAgg=false:=by rw[hn] at hag; simpa using hag
  have htu:a.isTup=false:=by cases a<;>first|rfl|cases hc
  have h3:=(hv.one ha htu).oneCell hc;simp[xU,htf,qM h3]
where
 aux {w:World} {G:Nat→Prop} {ν:Nat→Value} {h:List Blk} (vs:List AV) (us:List Value) (h1:Ć (VRc ν h w) vs us) (hh:∀c∈vs,∀u,VRc ν h w c u→VRs w G (þ h c) u):Ć (fun c b=>VRs w G (þ h c) b) vs us:=by
  induction vs generalizing us with
  |nil=>cases us with
   |nil=>trivial
   |cons=>exact h1.elim
  |cons c vs ih=>cases us with
   |nil=>exact h1.elim
   |cons u us=>exact⟨hh c (by simp) u h1.1,ih us h1.2 fun c hm u hu=>hh c (by simp[hm]) u hu⟩
def abE (H:HR ν h w) {G:Nat→Prop} {t:Ty} {x:Val t} {a:AV} {v:Value} (hv:VR ν h w a v)
 (hs:∀c∈ml a,∀u,VR1 ν h w c u→VRs w G (þ h c) u) (hb:∀id cs,a=.box id 0→lkB h id=.cells cs→(∀b,Ο (ν id) b→¬G b)∧∀c∈cs,∀u,VR1 ν h w c u→VRs w G (þ h c) u) (hd:∀id g,a=.dp id g→(lkB h id).live=true→∀b,Ο (ν id) b→¬G b) (e:apa h t a=some x):lv w G t x v:=by
 cases ht:(match t with|.ptr _=>true|_=>false) with
 |false =>
  by_cases hdp:∃id g,a=.dp id g
  ·obtain⟨id,g,rfl⟩:=hdp
   have e':(match lkB h id with
    |.deep k g' xss=>match g==g' with
     |true=>match decEq (Ty.slice (.slice (.int k))) t with
      |isTrue e=>some (ND (F:=Val) e xss)
      |isFalse _=>none
     |false=>none
    |_=>none)=some x:=by
    cases t<;>first|exact e|cases ht
   split at e'<;>try (cases e'; done)
   rename_i k g' xss hl
   split at e'<;>try (cases e'; done)
   rename_i hg
   split at e'<;>try (cases e'; done)
   rename_i hty _;subst hty;cases e';obtain⟨ho,k2,g2,xss2,hl2,_,hq⟩:=hv;rw[hl] at hl2; cases hl2;have hcr:=ab5 H hl (hq (by simpa using hg)) (hd id g rfl (by rw[hl]; rfl));exact⟨[v],hcr,rfl⟩
  have e':(match Xf a==t.isAgg with|true=>(match Ő (aiB h a) with|some cs=>ä t cs|none=>none)|false=>none)=some x:=by
   have hn:∀id g,a≠.dp id g:=fun id g q=>hdp ⟨id,g,q⟩
   cases t<;>first|(cases ht; done)|(cases a<;>first|exact e|exact absurd rfl (hn _ _))
  split at e'<;>try (cases e'; done)
  rename_i hag
  split at e'<;>try (cases e'; done)
  rename_i cs hcs;obtain⟨vs,h1,rfl⟩:=IQ hcs;exact AC hag h1 hv hs e'
 |true =>
  cases t<;>try cases ht
  rename_i u;simp only[apa] at e
  split at e<;>try (cases e; done)
  ·rename_i id
   split at e<;>try (cases e; done)
   rename_i cs hl;obtain⟨cs',b,h1,h2,h3⟩:=hv.one rfl rfl;have hB:=H.blk id;rw[hl] at hB;obtain⟨b',c,e',h4,h5,h6⟩:=hB;rw[h2] at h4; cases h4;obtain⟨hG,hcs⟩:=hb id cs rfl hl;have hcr:CR w G u x c.toList:=š e (Ć.map_left (AC.aux cs _ h6 fun c hc u hu=>hcs c hc u hu.1));refine⟨[v],⟨b,0,c.toList,by rw[h3],hG b (by rw[h2]; rfl),ē h5,hcr,ļ.of_cells h5⟩,rfl⟩
  ·rename_i t' y
   split at e<;>try (cases e; done)
   rename_i heq _;subst heq;cases e;have h1:=hs _ (by simp[ml]) v (hv.one rfl rfl);obtain⟨b,o,us,h2,h3,h4,h5,h6⟩:=h1;exact⟨[v],⟨b,o,us,by rw[h2]; rfl,h3,h4,h5,h6⟩,rfl⟩
def Tm (H:HR ν h w) {G:Nat→Prop}:∀(l:List Ty) (t:Ty) (x:Val (tys t l)) (as:List AV) (vs:List Value),Ć (VR ν h w) as vs →
 (∀a∈as,∀c∈ml a,∀u,VR1 ν h w c u→VRs w G (þ h c) u)→(∀a∈as,∀id cs,a=.box id 0→lkB h id=.cells cs→(∀b,Ο (ν id) b→¬G b)∧∀c∈cs,∀u,VR1 ν h w c u→VRs w G (þ h c) u)→(∀a∈as,∀id g,a=.dp id g→(lkB h id).live=true→∀b,Ο (ν id) b→¬G b)→abD h l t as=some x→AT w G l t x vs
 |[],t,x,[],vs,_,_,_,_,e=>by cases e
 |[],t,x,[a],vs,hv,hs,hb,hd,e=>by
  obtain⟨v,rfl,h1⟩:=hv.one;exact⟨v,rfl,abE H h1 (hs a (by simp)) (hb a (by simp)) (hd a (by simp)) e⟩
 |[],t,x,_::_::_,vs,_,_,_,_,e=>by cases e
 |u::l,t,x,[],vs,_,_,_,_,e=>by cases e
 |u::l,t,x,a::as,[],hv,_,_,_,e=>hv.elim
 |u::l,t,x,a::as,v::vs,hv,hs,hb,hd,e=>by
  simp only[abD] at e
  split at e<;>try (cases e; done)
  rename_i y hy
  split at e<;>try (cases e; done)
  rename_i z hz;cases e;exact⟨v,vs,rfl,abE H hv.1 (hs a (by simp)) (hb a (by simp)) (hd a (by simp)) hy,Tm H l u z as vs hv.2 (fun a ha=>hs a (by simp[ha])) (fun a ha=>hb a (by simp[ha])) (fun a ha=>hd a (by simp[ha])) hz⟩
def Tn (H:HR ν h w) {G:Nat→Prop} {l:List Ty} {x:Val (tyL l)} {as:List AV} {vs:List Value} (hv:Ć (VR ν h w) as vs)
 (hs:∀a∈as,∀c∈ml a,∀u,VR1 ν h w c u→VRs w G (þ h c) u) (hb:∀a∈as,∀id cs,a=.box id 0→lkB h id=.cells cs→(∀b,Ο (ν id) b→¬G b)∧∀c∈cs,∀u,VR1 ν h w c u→VRs w G (þ h c) u) (hd:∀a∈as,∀id g,a=.dp id g→(lkB h id).live=true→∀b,Ο (ν id) b→¬G b) (e:Iz h l as=some x):AL w G l x vs:=by
 cases l with
 |nil=>cases as with
  |nil=>exact hv.nil_left
  |cons=>cases e
 |cons t l=>exact Tm H l t x as vs hv hs hb hd e
def lv.mono {G G':Nat→Prop} (hm:∀b,G' b→G b) {t:Ty} {x:Val t} {v:Value} (hv:lv w G t x v):lv w G' t x v:=by
 obtain⟨us,h1,h2⟩:=hv;exact⟨us,CR.mono hm h1,h2⟩
def KS {av av':Nat→Prop}:∀{t:Ty} {x:Val t} {us:List Value},(flat t x).all B5=true→CR w av t x us→CR w av' t x us
 |.unit,_,_,_,hc=>hc
 |.bool,_,_,_,hc=>hc
 |.int _,_,_,_,hc=>hc
 |.str,_,_,_,hc=>hc
 |.slice _,_,_,hp,_=>by simp[flat,B5] at hp
 |.map _ _,_,_,hp,_=>by simp[flat,B5] at hp
 |.ptr _,_,_,hp,_=>by simp[flat,B5] at hp
 |.pair a b,x,us,hp,hc=>by
  simp only[flat,List.all_append,cZ] at hp;obtain⟨u1,u2,e,h1,h2⟩:=hc;exact⟨u1,u2,e,KS hp.1 h1,KS hp.2 h2⟩
def anx {t:Ty} {x:Val t} (hp:plain (enc t x)=true):(flat t x).all B5=true:=by
 cases t<;>first|exact hp|(simp only[enc,plain,B5] at hp; simp[flat,B5])|(simp[enc,plain,B5] at hp)
def lv.plain {G G':Nat→Prop} {t:Ty} {x:Val t} {v:Value} (hp:plain (enc t x)=true) (hv:lv w G t x v):lv w G' t x v:=by
 obtain⟨us,h1,h2⟩:=hv;exact⟨us,KS (anx hp) h1,h2⟩
def AT.plain {G G':Nat→Prop}:∀{l:List Ty} {t:Ty} {x:Val (tys t l)} {vs:List Value},(anz l t x).all Go.Am.plain=true→AT w G l t x vs→AT w G' l t x vs
 |[],t,x,vs,hp,⟨v,h1,h2⟩=>⟨v,h1,h2.plain (by simpa[anz] using hp)⟩
 |u::l,t,x,vs,hp,⟨v,vs',h1,h2,h3⟩=>by
  simp only[anz,fZ,cZ] at hp;exact⟨v,vs',h1,h2.plain hp.1,AT.plain hp.2 h3⟩
def acq {v:AV} (hp:v.isTup=false):OL v=Go.Am.plain v:=by cases v<;>first|rfl|cases hp
def KW {t:Ty} {x:Val t}:(enc t x).isTup=false:=by cases t<;>rfl
def RR.plain {G G':Nat→Prop}:∀{l:List Ty} {x:Val (tyL l)} {u:Value},OL (af9 l x)=true→RR w G l x u→RR w G' l x u
 |[],_,_,_,h=>h
 |[t],x,u,hp,h=>lv.plain ((acq (KW (t:=t) (x:=x))).symm.trans hp) h
 |t::u'::l,x,u,hp,⟨vs,h1,h2⟩=>⟨vs,h1,h2.plain hp⟩
def lv.VR {t:Ty} {x:Val t} {v:Value} (hv:lv w (Av ν h) t x v):VR ν h w (enc t x) v:=by
 obtain⟨us,h1,rfl⟩:=hv;exact L9 h1
def AT.VR:∀{l:List Ty} {t:Ty} {x:Val (tys t l)} {vs:List Value},AT w (Av ν h) l t x vs→Ć (VR ν h w) (anz l t x) vs
 |[],t,x,_,⟨v,rfl,h2⟩=>⟨h2.VR,trivial⟩
 |u::l,t,x,_,⟨v,vs',rfl,h2,h3⟩=>⟨h2.VR,AT.VR h3⟩
def SK:∀{l:List Ty} {t:Ty} {x:Val (tys t l)},∀a∈anz l t x,a.isTup=false
 |[],t,x,a,hm=>by simp only[anz,dk] at hm; rw[hm]; exact KW
 |u::l,t,x,a,hm=>by
  simp only[anz,di] at hm;rcases hm with rfl|hm
  ·exact KW
  ·exact SK a hm
def Ć.VR2:∀{as:List AV} {vs:List Value},Ć (VR ν h w) as vs→(∀a∈as,a.isTup=false)→Ć (VR2 ν h w) as vs
 |[],[],_,_=>trivial
 |a::as,v::vs,hv,hn=>⟨by rw[←Lg (hn a (by simp))]; exact hv.1,Ć.VR2 hv.2 fun a ha=>hn a (by simp[ha])⟩
 |[],_::_,hv,_=>hv.elim
 |_::_,[],hv,_=>hv.elim
def RR.VR:∀{l:List Ty} {x:Val (tyL l)} {u:Value},RR w (Av ν h) l x u→VR ν h w (af9 l x) u
 |[],_,_,h=>by cases h; exact⟨#[],rfl,trivial⟩
 |[t],x,u,h=>lv.VR h
 |t::u'::l,x,u,⟨vs,h1,h2⟩=>⟨vs,h1,Ć.VR2 h2.VR SK⟩
def Mh (P:Program) (g:Nat) (ν:Nat→Value) (h:List Blk) (w:World) (vals:List Value) (K:AV→List Blk→Option ρ) (r:ρ):Prop :=
 (∃fn c,P.funcs[g]?=some fn∧fn.body=some c) ∧
 CallsIn Fence.wide 0 P g vals.toArray w fun e w'=>∃ν' h' v u,e=.returned u∧VR ν' h' w' v u∧HR ν' h' w'∧Ev h.length ν h w ν' h' w'∧h.length≤h'.length∧(∀j,j<h.length→lkB h j=.dead→lkB h' j=.dead)∧K v h'=some r
def ajg {c:AV} {u:Value}:∀{as:List AV} {h:List Blk},HR ν h w→c∈as→WB c=true→VR1 ν h w c u→VRs w (Av ν (A6 h as)) (þ h c) u
 |[],_,_,hm,_,_=>by cases hm
 |a::as,h,H,hm,hn,hv=>by
  obtain⟨e1,H1,l1⟩:=aa8 H a;rcases di.1 hm with rfl|hm
  ·exact VRs.mono ((ED as H1).2.2) (afh H hv hn)
  ·have:=ajg (as:=as) H1 hm hn (hv.ev e1)
   rwa [IR] at this
def akk {f:Nat} {p:Ô} (hp:kw P f p) {b:Bool} {args:List AV} {K:AV→List Blk→Option ρ} {r:ρ} (e:X3 b p h args K=some r) (H:HR ν h w) {vals:List Value} (hv:Ć (VR ν h w) args vals):Mh P f ν h w vals K r:=by
 unfold X3 at e
 split at e<;>try (cases e; done)
 rename_i x hx;simp only[Å] at e
 split at e<;>try (cases e; done)
 rename_i y hy
 -- the call, with what may not be touched
 have call:∀(G:Nat→Prop),(∀b,G b→b<w.heap.size)→AL w G p.ts x vals→∀(h':List Blk),HR ν h' w→Ev h.length ν h w ν h' w→h.length≤h'.length→(∀j,j<h.length→lkB h j=.dead→lkB h' j=.dead) →
  (∀w' u,RR w' G p.rs y u→RR w' (Av ν h') p.rs y u)→K (af9 p.rs y) h'=some r→Mh P f ν h w vals K r:=by
  intro G hG hal h' H' ev hl hdead hrr hK;obtain⟨h1,h2⟩:=hp G x y hy w vals hG hal;refine⟨h1,h2.mono fun e w' hw=>?_⟩;obtain⟨u,rfl,g1,g2,g3,g4,g5,g6⟩:=hw;obtain⟨ev',H''⟩:=H'.grow g2 g3 g4 g5 g6 h.length;exact⟨ν,h',_,u,rfl,(hrr w' u g1).VR,H'',ev.trans ev' (cY _),hl,hdead,hK⟩
 split at e
 ·rename_i hpl;exact call (fun _=>False) (fun _ hf=>hf.elim) (Tn H hv (fun a _ c _ u hu=>acd H hu) (fun _ _ _ _ _ _=>⟨fun _ _ hf=>hf,fun c _ u hu=>acd H hu⟩) (fun _ _ _ _ _ _ _ _ hf=>hf) hx) h H (Ev.refl _ _ _ _) (cY _) (fun _ _ hd=>hd) (fun w' u hr=>hr.plain hpl) e
 ·split at e
  ·rename_i hown
   have hown':∀a∈args,ve a=false:=fun a ha=>by have:=dN.1 hown a ha; simpa using this
   refine call (Av ν h) (fun b hb=>H.ltA hb) (Tn H hv (fun a ha c hc u hu=>?_) (fun a ha id cs hid _=>?_) (fun a ha id g hid=>?_) hx) h H (Ev.refl _ _ _ _) (cY _) (fun _ _ hd=>hd) (fun w' u hr=>hr) e
   ·have hc1:abI c=false:=by
     have:=hown' a ha
     cases a<;>first
      |(simp only[ml,dk] at hc; subst hc; exact this)
      |(simp only[ml] at hc; simp only[ve,eo] at this; simpa using this c hc)
    have:þ h c=c:=by cases c<;>first|rfl|cases hc1
    rw[this]; exact hu.data
   ·subst hid; cases hown' _ ha
   ·subst hid; cases hown' _ ha
  ·split at e<;>try (cases e; done)
   rename_i hnr;simp only[fI,fe] at hnr;have hnr':∀a∈args,amE a=true:=dN.1 hnr.2;obtain⟨ev,H',hsub⟩:=ED (args.flatMap ml) H;refine call (Av ν (A6 h (args.flatMap ml))) (fun b hb=>H'.ltA hb) (Tn H hv (fun a ha c hc u hu=>?_) (fun a ha id cs hid _=>?_) (fun a ha id g hid=>?_) hx) _ H' ev (by rw[Ω]; exact cY _) (fun _ _ hd=>Sn _ hd) (fun w' u hr=>hr) e
   ·refine ajg H (dC.2 ⟨a,ha,hc⟩) ?_ hu;have:=hnr' a ha
    have hc1:amD c=true:=by
     cases a<;>first
      |(simp only[ml,dk] at hc; subst hc; exact this)
      |(simp only[ml] at hc; simp only[amE,dN] at this; exact this c hc)
    cases c<;>first|rfl|cases hc1
   ·subst hid; cases hnr' _ ha
   ·subst hid; cases hnr' _ ha
end
end Go.Am
end

noncomputable section
namespace Go.Am
variable [ô]
section
variable {ρ:Type} {ν ν':Nat→Value} {h h':List Blk} {w w':World} {P:Program}
def WA {v v':AV} (e:apU v=some v'):v'=v∧v.isTup=false:=by
 cases v<;>simp only[apU,Option.some.injEq,reduceCtorEq] at e<;>exact⟨e.symm,rfl⟩
def akh {S:St} {a:Act} (H:Sim ν S a w) {rv:ResultVar} {v:AV} (e:ags P S.h S.t rv=some v) :
 ∃u,(match rv with|.tmp t=>(pure (a.tmps.getD t undef):Sem Value)|.cell x t=>do loadVar t (←asAddr (a.tmps.getD x undef))).run P w=.ok u w∧VR2 ν S.h w v u:=by
 cases rv with
 |tmp i =>
  obtain⟨rfl,ht⟩:=WA e;have:=H.tmps i;rw[Lg ht] at this;exact⟨_,rfl,this⟩
 |cell x t =>
  simp only[ags] at e
  split at e<;>try (cases e; done)
  rename_i v' hl;obtain⟨rfl,ht⟩:=WA e;obtain⟨u,h1,h2⟩:=am2 H.heap hl (H.tmps x);rw[Lg ht] at h2;refine⟨u,?_,h2⟩;simp only[Instr.loadAt] at h1
  cases hx:a.tmps.getD x undef with
  |pointer p =>
   rw[hx] at h1
   cases p with
   |none=>simp[Instr.sureAddr] at h1
   |some ad =>
    show(do loadVar t (←asAddr (a.tmps.getD x undef)):Sem Value).run P w=_;rw[hx];simpa[Instr.sureAddr,asAddr] using h1
  |_=>rw[hx] at h1; simp[Instr.sureAddr] at h1
def We {S:St} {a:Act} (H:Sim ν S a w):∀{rs:List ResultVar} {vs:List AV},OI P S.h S.t rs=some vs →
 ∃us:List Value,(rs.mapM (m:=Sem) fun|.tmp t=>pure (a.tmps.getD t undef)|.cell x t=>do loadVar t (←asAddr (a.tmps.getD x undef))).run P w=.ok us w∧Ć (VR2 ν S.h w) vs us
 |[],vs,e=>by cases e; exact⟨[],rfl,trivial⟩
 |rv::rs,vs,e=>by
  simp only[OI] at e
  split at e<;>try (cases e; done)
  rename_i v hv
  split at e<;>try (cases e; done)
  rename_i vs' hvs;cases e;obtain⟨u,h1,h2⟩:=akh H hv;obtain⟨us,h3,h4⟩:=We H hvs;refine⟨u::us,?_,h2,h4⟩;simp only[List.mapM_cons,Sem.run_bind,Sem.run_pure];rw[h1];simp only[Result.andThen_ok];rw[h3];rfl
def VR2.up {v:AV} {u:Value} (hv:VR2 ν h w v u):VR ν h w v u:=by
 cases ht:v.isTup with
 |true =>
  cases v<;>try cases ht
  exact hv.elim
 |false=>rw[Lg ht]; exact hv
def IV {S:St} {a:Act} {fn:Func} {v:AV} (H:Sim ν S a w) (e:pQ P fn S=some v):∃u,(results fn a.tmps).run P w=.ok u w∧VR ν S.h w v u:=by
 unfold pQ at e
 cases hr:OI P S.h S.t fn.results.toList with
 |none=>rw[hr] at e; cases e
 |some vs =>
  obtain⟨us,h1,h2⟩:=We H hr
  have hrun:(results fn a.tmps).run P w=.ok (if h:us.toArray.size=1 then us.toArray[0] else .tuple us.toArray) w:=by
   unfold results;rw[Sem.run_bind,Array.mapM_eq_mapM_toList,Sem.run_map]
   erw [h1]
   rfl
  rw[hr] at e
  rcases vs with _|⟨x,_|⟨y,l⟩⟩<;>rcases us with _|⟨u,_|⟨u',m⟩⟩
  ·cases e; exact⟨_,hrun,⟨#[],by simp,trivial⟩⟩
  ·exact h2.elim
  ·exact h2.elim
  ·exact h2.elim
  ·cases e; exact⟨_,hrun,h2.1.up⟩
  ·exact h2.2.elim
  ·exact h2.elim
  ·exact h2.2.elim
  ·cases e; exact⟨_,hrun,⟨(u::u'::m).toArray,by simp,h2⟩⟩
def Ć.lk {R:AV→Value→Prop} (hany:∀u,R .any u):∀{l:List AV} {m:List Value} (i:Nat),Ć R l m→R (Am.lk l i) (m.getD i undef)
 |[],[],i,_=>hany _
 |_::_,_::_,0,h=>h.1
 |_::_,_::_,i+1,h=>by simpa[Am.lk] using Ć.lk hany i h.2
 |[],_::_,_,h=>h.elim
 |_::_,[],_,h=>h.elim
def Flat:Prop:=ô.D=[]∧ô.Q=none
def HO (h:ô.Q=none):fen=Fence.wide:=by
 unfold fen;rw[h];rfl
def SJ {E:Env ρ} {call:List Nat→Bool→Nat→List AV→List Blk→(AV→List Blk→Option ρ)→Option ρ} {N:Nat} (hE:mo E N call) (hD:mE E N call) {path:List Nat} (hpath:path.length+2=N) {f:Nat} {args:List AV} {K:AV→List Blk→Option ρ} {r:ρ}
 (h0:Flat) (hL:∀fn c,E.P.funcs[f]?=some fn→fn.body=some c→∀x∈î 0 c,qQ E path f x.1 x.2)
 (e:ajp E call path f args h K=some r) {vals:List Value} (H:HR ν h w) (hargs:Ć (VR ν h w) args vals) :
 (∃fn c,E.P.funcs[f]?=some fn∧fn.body=some c) ∧
 CallsIn Fence.wide 0 E.P f vals.toArray w fun e w'=>∃ν' h' v u,e=.returned u∧VR ν' h' w' v u∧HR ν' h' w'∧Ev h.length ν h w ν' h' w'∧h.length≤h'.length∧(∀j,j<h.length→lkB h j=.dead→lkB h' j=.dead)∧K v h'=some r:=by
 unfold ajp at e
 split at e<;>try (cases e; done)
 rename_i fn hfn
 split at e<;>try (cases e; done)
 rename_i c hc;refine⟨⟨fn,c,hfn,hc⟩,?_⟩;refine callsIn_of_wp hfn hc trivial ?_;have hlen:=hargs.length
 have hS:Sim ν {t:=args++List.replicate (fn.ntmps-args.length) .any,h:=h} {tmps:=vals.toArray++Array.replicate (fn.ntmps-vals.toArray.size) undef,defers:=[]} w:=by
  refine⟨h0.1.symm,by simp[hlen],fun i=>?_,H⟩;simp only[RX];rcases dA i args.length with hi|hi
  ·have:=Ć.lk (R:=VR ν h w) (fun _=>trivial) i hargs
   have hv:i<vals.length:=by omega
   have h2:(vals.toArray++Array.replicate (fn.ntmps-vals.toArray.size) undef).getD i undef=vals.getD i undef:=by
    simp[dW,fc,hv]
   rw[h2]; exact this
  ·rw[am4 _ _ hi]; trivial
 have hgo:=l7 hE hD hpath c 0 _ _ ν _ w (hL fn c hfn hc) e hS (cY _);rw[HO h0.2] at hgo;refine wpIn_mono hgo fun x a' w' ha=>?_;obtain⟨ν',S',h1,h2,h3,h4,h5⟩:=ha
 have fin:∀v,pQ E.P fn S'=some v→K v S'.h=some r→a'.defers=[]∧∃u,(results fn a'.tmps).run E.P w'=.ok u w'∧∃ν' h' v u',Ending.returned u=.returned u'∧VR ν' h' w' v u'∧HR ν' h' w'∧Ev h.length ν h w ν' h' w'∧h.length≤h'.length∧(∀j,j<h.length→lkB h j=.dead→lkB h' j=.dead)∧K v h'=some r:=by
  intro v hv hk;obtain⟨u,q1,q2⟩:=IV h1 hv;exact⟨h1.defers.trans h0.1,u,q1,ν',S'.h,v,u,rfl,q2,h1.heap,h2,h3,h4,hk⟩
 cases x with
 |normal =>
  simp only at h5
  split at h5<;>try (cases h5; done)
  exact fin _ ‹_› h5
 |ret =>
  simp only at h5
  split at h5<;>try (cases h5; done)
  exact fin _ ‹_› h5
 |exit id=>cases h5
 |goto l=>cases h5
 |panic ch=>cases h5
 |outgrown=>cases h5
structure NL (E:Env ρ):Prop where
 pure:∀f p,E.pure f=some p→kw E.P f p
 sort:∀f,E.sort f=true→∀(h:List Blk) (x:AV) (K:AV→List Blk→Option ρ) (r:ρ),XS h x K=some r→∀ν w u,HR ν h w→VR ν h w x u→Mh E.P f ν h w [u] K r
 compact:∀f,E.compact f=true→∀(h:List Blk) (x:AV) (K:AV→List Blk→Option ρ) (r:ρ),pn h x K=some r→∀ν w u,HR ν h w→VR ν h w x u→Mh E.P f ν h w [u] K r
 plain : ∀ (f : Nat) (fn : Func), E.P.funcs[f]? = some fn → (fn.name == "runtime.NumGoroutine") = false
 clone:Ll E.P E.clone
 joins:ajX E
omit [ô] in
def qN {E:Env ρ} (n:Nat):(∀f p,E.pure f=some p→∀path draw args h K,ks E (n+1) path draw f args h K=X3 (draw&&!E.fz f) p h args K) ∧
 (∀f,E.pure f=none→E.sort f=true→∀path draw args h K,ks E (n+1) path draw f args h K=match args with|[x]=>XS h x K|_=>none) ∧
 (∀f,E.pure f=none→E.sort f=false→E.compact f=true→∀path draw args h K,ks E (n+1) path draw f args h K=match args with|[x]=>pn h x K|_=>none) :=
 ⟨fun f p hf path draw args h K=>by simp only[ks,hf],fun f hf hs path draw args h K=>by simp only[ks,hf,hs]; rfl,fun f hf hs hc path draw args h K=>by simp only[ks,hf,hs,hc]; rfl⟩
def ng {E:Env ρ} (h0:Flat∨∀f,E.inl f=false) (hlib:NL E) (hdraw:∀L call,mo E L call→mE E L call)
 (hloops:∀n,n≤10→mo E (22-2*n) (ks E n)→∀(path:List Nat) (f:Nat) (fn:Func) (c:Code),path.length+2=22-2*n→E.P.funcs[f]?=some fn→fn.body=some c→∀x∈î 0 c,qQ E path f x.1 x.2) :
 ∀n,n≤10→af5 E.P (22-2*n) (ks E n):=by
 intro n
 induction n with
 |zero=>intro _ path draw g args h K r _ e; cases e
 |succ n ih =>
  intro hn path draw g args h K r hp e ν w vals H hargs
  have hE:mo E (22-2*n) (ks E n):=⟨by
   cases n with
   |zero=>exact .inl fun _ _ _ _ _ _=>rfl
   |succ n=>exact .inr (qN n),ih (by omega),hlib.plain,hlib.clone,hlib.joins⟩
  simp only[ks] at e
  split at e
  ·rename_i gm hg;exact akk (hlib.pure g gm hg) e H hargs
  ·split at e
   ·rename_i hs
    split at e<;>try (cases e; done)
    rename_i x;obtain⟨u,rfl,hu⟩:=hargs.one;exact hlib.sort g hs h x K r e ν w u H hu
   ·split at e
    ·rename_i hc
     split at e<;>try (cases e; done)
     rename_i x;obtain⟨u,rfl,hu⟩:=hargs.one;exact hlib.compact g hc h x K r e ν w u H hu
    ·split at e<;>try (cases e; done)
     rename_i hinl
     split at e<;>try (cases e; done)
     have hpath:path.length+2=22-2*n:=by omega
     exact SJ hE (hdraw _ _ hE) hpath (h0.resolve_right fun hf=>by rw[hf g] at hinl; cases hinl) (fun fn c h1 h2=>hloops n (by omega) hE path g fn c hpath h1 h2) e H hargs
end
end Go.Am
end

noncomputable section
namespace Go.Am
variable [ô]
section
variable {ρ:Type} {P:Program} {h h2:List Blk} {t t2:List AV}
def ol (h h2:List Blk) (v:AV):Prop:=∀id∈refs2 h v,lkB h2 id=lkB h id
def ol.one {v:AV} (hs:ol h h2 v):∀id∈refs1 v,lkB h2 id=lkB h id:=fun id hi=>hs id (by simp only[refs2,dh]; exact .inl hi)
def ol.refs {v:AV} (hs:ol h h2 v):refs2 h2 v=refs2 h v:=by
 simp only[refs2]
 have:∀(l:List Nat),(∀id∈l,lkB h2 id=lkB h id)→(l.flatMap fun id=>(SZ (lkB h2 id)).flatMap ĭ)=l.flatMap fun id=>(SZ (lkB h id)).flatMap ĭ:=by
  intro l
  induction l with
  |nil=>intro _; rfl
  |cons x l ih=>intro hl; simp only[dM]; rw[hl x (by simp),ih fun id hi=>hl id (by simp[hi])]
 rw[this _ hs.one]
def pw {v:AV} (hs:∀id∈ĭ v,lkB h2 id=lkB h id):þ h2 v=þ h v:=by
 cases v<;>first
  |rfl
  |(simp only[þ]; rw[hs _ (by simp[ĭ])])
def OD {v:AV} (hs:∀id∈refs1 v,lkB h2 id=lkB h id):aiB h2 v=aiB h v:=by
 have one:(∀id∈ĭ v,lkB h2 id=lkB h id)→þ h2 v=þ h v:=pw
 cases v with
 |agg cs =>
  simp only[aiB,AV.agg.injEq];exact fp fun c hc=>pw fun id hi=>hs id (dC.2 ⟨c,hc,hi⟩)
 |fn f a b=>exact one fun _ hi=>by cases hi
 |_=>exact one hs
def akF {ty:TypeId} {a:AV} (hs:∀id∈refs1 a,lkB h2 id=lkB h id) (K:AV→Option ρ):VW P h2 ty a K=VW P h ty a K:=by
 cases a<;>first
  |rfl
  |(simp only[VW]; rw[hs _ (by simp[refs1,ĭ])])
def agm {o:Nat} {a:AV} (hs:∀id∈refs1 a,lkB h2 id=lkB h id) (K:AV→Option ρ):B3 h2 a o K=B3 h a o K:=by
 cases a<;>first
  |rfl
  |(simp only[B3]; rw[hs _ (by simp[refs1,ĭ])])
def ahz {sz:Nat} {a i:AV} (hs:∀id∈refs1 a,lkB h2 id=lkB h id) (K:AV→Option ρ):HE sz h2 a i K=HE sz h a i K:=by
 cases i<;>try rfl
 cases a<;>first
  |rfl
  |(simp only[HE]; rw[hs _ (by simp[refs1,ĭ])])
def am8 {d:Option TypeDesc} {a:AV} (hs:∀id∈refs1 a,lkB h2 id=lkB h id) (K:AV→Option ρ):ap6 d h2 a K=ap6 d h a K:=by
 unfold ap6
 split<;>cases a<;>first
  |rfl
  |(simp only[]; rw[hs _ (by simp[refs1,ĭ])])
def ae1 {ty:TypeId} {m i:AV} {ok:Bool} (hs:∀id∈refs1 m,lkB h2 id=lkB h id) (K:AV→Option ρ):oD P h2 ty m i ok K=oD P h ty m i ok K:=by
 unfold oD
 have:þ h2 m=þ h m:=pw fun id hi=>hs id (by cases m<;>first|exact hi|simp[ĭ] at hi)
 rw[this]
def Lq {σ:Type} {sz:Nat} {a:AV} {lo hi:Option AV} (K:AV→List Blk→Option σ):qV sz h a lo hi false K=(qV sz h a lo hi false fun v _=>some v).bind fun v=>K v h:=by
 unfold qV;dsimp only
 (repeat' split)<;>rfl
def agj {sz:Nat} {a:AV} {lo hi:Option AV} (hs:∀id∈refs1 a,lkB h2 id=lkB h id):∃φ:Option AV,(∀{σ:Type} (K:AV→List Blk→Option σ),qV sz h a lo hi false K=φ.bind fun v=>K v h)∧∀{σ:Type} (K:AV→List Blk→Option σ),qV sz h2 a lo hi false K=φ.bind fun v=>K v h2:=by
 refine⟨qV sz h a lo hi false fun v _=>some v,fun K=>?_,fun K=>?_⟩
 ·exact Lq K
 ·rw[Lq K];congr 1
  cases a<;>first
   |rfl
   |(simp only[qV]; rw[hs _ (by simp[refs1,ĭ])])
def ap (nid:Nat) (ef:Option Blk) (h:List Blk):List Blk:=match ef with|none=>h|some B=>ć h nid B
def pbind {α σ σ2:Type} {R:Option σ→Option σ2→Prop} (h0:R none none) {x:Option α} {K:α→Option σ} {K2:α→Option σ2} (h:∀a,R (K a) (K2 a)):R (x.bind K) (x.bind K2):=by
 cases x with
 |none=>exact h0
 |some a=>exact h a
def pb2 {α σ σ2:Type} {R:Option σ→Option σ2→Prop} (h0:R none none) {x:Option α} {K:α→Option σ} {K2:α→Option σ2} {z:Option σ} {z2:Option σ2} (h1:z=x.bind K) (h2:z2=x.bind K2) (h:∀a,R (K a) (K2 a)):R z z2:=by
 subst h1 h2; exact pbind h0 h
def Pd {l:List Operand} (hx:∀x∈l,ev t2 x=ev t x):l.map (ev t2)=l.map (ev t):=fp hx
def amO {l:List (Nat×Operand)} (hx:∀x∈l.map (·.2),ev t2 x=ev t x):(l.map fun p=>(p.1,ev t2 p.2))=l.map fun p=>(p.1,ev t p.2):=fp fun p hp=>by rw[hx p.2 (dP.2 ⟨p,hp,rfl⟩)]
def ank {v:AV} (hv:ve v=false):frz h v=h:=by
 have one:∀c,abI c=false→xJ h c=h:=fun c hc=>by cases c<;>first|rfl|cases hc
 have this1:=one v
 cases v with
 |agg cs =>
  simp only[ve,eo] at hv;simp only[frz];clear this1
  induction cs with
  |nil=>rfl
  |cons c cs ih=>simp only[A6]; rw[one c (by simpa using hv c (by simp))]; exact ih fun x hx=>hv x (by simp[hx])
 |_=>exact this1 hv
def Xm:∀{ps:List (Nat×AV)},(∀p∈ps,ve p.2=false)→frzA h ps=h
 |[],_=>rfl
 |p::ps,hp=>by
  obtain⟨i,v⟩:=p;simp only[frzA];rw[ank (hp (i,v) (by simp))];exact Xm fun q hq=>hp q (by simp[hq])
def Wd {ty:Ty}:∀{ps:List (Nat×AV)} {n:Nat},(∀p∈ps,∀id∈refs1 p.2,lkB h2 id=lkB h id)→TI h2 ty n ps=TI h ty n ps
 |[],_,_=>rfl
 |(i,v)::ps,n,hp=>by
  simp only[TI];rw[OD (hp (i,v) (by simp)),Wd fun q hq=>hp q (by simp[hq])]
def ari {σ σ2:Type} {R:Option σ→Option σ2→Prop} {E:Env ρ} {o:Op} {nid:Nat} {K:AV→St→Option σ} {K2:AV→St→Option σ2} (h0:R none none) (hcl:cls E o≤1) (hcall:Xe o=false)
 (hx:∀x∈o.operands.toList,ev t2 x=ev t x) (hs:cls E o=1→∀x∈o.operands.toList,∀id∈refs1 (ev t x),lkB h2 id=lkB h id)
 (hb:∀ty n ps,o=.buildSlice ty n ps→ps.toList.all (fun p=>!ve (ev t p.2))=true)
 (hK:∀v ef,(ef.isSome=true→Ď E.clone o=true)→R (K v {t:=t,h:=ap nid ef h}) (K2 v {t:=t2,h:=ap nid ef h2})) :
 R (opK P {t:=t,h:=h} nid false o K) (opK P {t:=t2,h:=h2} nid false o K2):=by
 have hn:∀v,R (K v {t:=t,h:=h}) (K2 v {t:=t2,h:=h2}):=fun v=>hK v none (by simp);have ha:Ď E.clone o=true→∀v B,R (K v {t:=t,h:=ć h nid B}) (K2 v {t:=t2,h:=ć h2 nid B}):=fun al v B=>hK v (some B) fun _=>al
 cases o with
 |move x =>
  have e:=hx x (by simp[Op.operands]);simp only[opK,e]; exact hn _
 |assign x =>
  have e:=hx x (by simp[Op.operands]);simp only[opK,e]; exact hn _
 |pick c a b =>
  have e1:=hx c (by simp[Op.operands]);have e2:=hx a (by simp[Op.operands]);have e3:=hx b (by simp[Op.operands]);simp only[opK,e1,e2,e3]
  (repeat' split)<;>first|exact h0|exact hn _
 |box _ x =>
  have e:=hx x (by simp[Op.operands]);simp only[opK,e]
  (repeat' split)<;>first|exact h0|exact ha rfl _ _
 |alloc e =>
  simp only[opK]
  (repeat' split)<;>first|exact h0|exact ha rfl _ _
 |build ty ps =>
  have e:=amO (l:=ps.toList) (t:=t) (t2:=t2) fun x hm=>hx x (by simpa[Op.operands] using hm);simp only[opK,e]
  (repeat' split)<;>first|exact h0|exact hn _
 |buildSlice ty n ps =>
  have e:=amO (l:=ps.toList) (t:=t) (t2:=t2) fun x hm=>hx x (by simpa[Op.operands] using hm);have hown:=hb ty n ps rfl
  have hf:∀h:List Blk,frzA h (ps.toList.map fun p=>(p.1,ev t p.2))=h:=fun h=>Xm fun p hp=>by
   obtain⟨q,hq,rfl⟩:=dP.1 hp;simpa using dN.1 hown q hq
  have hr:∀ty n,TI h2 ty n (ps.toList.map fun p=>(p.1,ev t p.2))=TI h ty n (ps.toList.map fun p=>(p.1,ev t p.2)):=fun ty n=>Wd fun p hp=>by
   obtain⟨q,hq,rfl⟩:=dP.1 hp;exact hs rfl q.2 (by simpa[Op.operands] using⟨q.1,by simpa using hq⟩)
  simp only[opK,e,hf,hr]
  (repeat' split)<;>first|exact h0|exact ha rfl _ _
 |load ty a =>
  have e:=hx a (by simp[Op.operands]);have hsa:=hs rfl a (by simp[Op.operands]);simp only[opK,e];rw[akF hsa];exact pb2 h0 (uH ..) (uH ..) fun v=>hn v
 |nilCheck x =>
  have e:=hx x (by simp[Op.operands]);have hsa:=hs rfl x (by simp[Op.operands]);simp only[opK,e]
  cases hv:ev t x with
  |optr id g i off =>
   have:=hsa id (by rw[hv]; simp[refs1,ĭ]);simp only[this]
   (repeat' split)<;>first|exact h0|exact hn _
  |_=>first|exact h0|exact hn _
 |binOp op ty x y yt =>
  have e1:=hx x (by simp[Op.operands]);have e2:=hx y (by simp[Op.operands]);simp only[opK,e1,e2];exact pb2 h0 (BA ..) (BA ..) fun v=>hn v
 |unOp op ty x =>
  have e:=hx x (by simp[Op.operands]);simp only[opK,e]
  (repeat' split)<;>first|exact h0|exact hn _|exact pb2 h0 (EK ..) (EK ..) fun v=>hn v
 |convert src dst x =>
  have e:=hx x (by simp[Op.operands]);simp only[opK,e]
  (repeat' split)<;>first|exact h0|exact hn _
 |makeFunc fn first captured =>
  have e1:=Pd (l:=first.toList) (t:=t) (t2:=t2) fun x hm=>hx x (by simp[Op.operands]; exact .inl (by simpa using hm));have e2:=Pd (l:=captured.toList) (t:=t) (t2:=t2) fun x hm=>hx x (by simp[Op.operands]; exact .inr (by simpa using hm));simp only[opK,e1,e2]
  (repeat' split)<;>first|exact h0|exact hn _
 |makeMap ty r =>
  simp only[opK]
  (repeat' split)<;>first|exact h0|exact ha rfl _ _
 |makeSlice ty l c =>
  have e:=hx l (by simp[Op.operands]);simp only[opK,e]
  (repeat' split)<;>first|exact h0|exact ha rfl _ _
 |slice ty x lo hi mx =>
  have e:=hx x (by simp[Op.operands]);have hsa:=hs rfl x (by simp[Op.operands])
  have e1:lo.map (ev t2)=lo.map (ev t):=by
   cases lo with
   |none=>rfl
   |some l=>simp[hx l (by simp[Op.operands])]
  have e2:hi.map (ev t2)=hi.map (ev t):=by
   cases hi with
   |none=>rfl
   |some l=>simp[hx l (by simp[Op.operands])]
  simp only[opK,e,e1,e2]
  (repeat' split)<;>first
   |exact h0
   | (obtain ⟨φ, q1, q2⟩ := agj hsa
      rw[q1,q2]
      exact pbind h0 fun v=>hn v)
 |fieldAddr ty x f =>
  have e:=hx x (by simp[Op.operands]);have hsa:=hs rfl x (by simp[Op.operands]);simp only[opK,e]
  (repeat' split)<;>first
   |exact h0
   |(rw[agm hsa]; exact pb2 h0 (pz ..) (pz ..) fun v=>hn v)
 |field ty x f =>
  have e:=hx x (by simp[Op.operands]);simp only[opK,e]
  (repeat' split)<;>first|exact h0|exact hn _
 |indexAddr ty x i =>
  have e1:=hx x (by simp[Op.operands]);have e2:=hx i (by simp[Op.operands]);have hsa:=hs rfl x (by simp[Op.operands]);simp only[opK,e1,e2]
  (repeat' split)<;>first
   |exact h0
   |exact hn _
   |exact pb2 h0 (iX ..) (iX ..) fun v=>hn _
   |(rw[ahz hsa]; exact pb2 h0 (pF ..) (pF ..) fun v=>hn v)
 |index ty x i =>
  have e1:=hx x (by simp[Op.operands]);have e2:=hx i (by simp[Op.operands]);simp only[opK,e1,e2]
  (repeat' split)<;>first|exact h0|exact hn _|exact pb2 h0 (iX ..) (iX ..) fun v=>by(repeat' split)<;>first|exact h0|exact hn _
 |lookup ty m i ok =>
  have e1:=hx m (by simp[Op.operands]);have e2:=hx i (by simp[Op.operands]);have hsa:=hs rfl m (by simp[Op.operands]);simp only[opK,e1,e2];rw[ae1 hsa];exact pb2 h0 (m7 ..) (m7 ..) fun v=>hn v
 |extract x i =>
  have e:=hx x (by simp[Op.operands]);simp only[opK,e]
  (repeat' split)<;>first|exact h0|exact hn _
 |call c =>
  obtain⟨callee,args,tys⟩:=c
  cases callee with
  |builtin b =>
   have e:=Pd (l:=args.toList) (t:=t) (t2:=t2) fun x hm=>hx x (by simpa[Op.operands,Call.operands] using hm);have hsa:cls E (.call ⟨.builtin b,args,tys⟩)=1→∀x∈args.toList,∀id∈refs1 (ev t x),lkB h2 id=lkB h id:=fun h1 x hm=>hs h1 x (by simpa[Op.operands,Call.operands] using hm);generalize hl:args.toList=l at e hsa;generalize hm:tys.toList=m
   cases b with
   |append=>simp[cls] at hcl
   |clear=>simp[cls] at hcl
   |len =>
    rcases l with _|⟨x,_|⟨y,l⟩⟩<;>rcases m with _|⟨ty,m⟩<;>simp only[opK,hl,hm]<;>try exact h0
    have e1:ev t2 x=ev t x:=by simpa using e
    rw[e1,am8 (hsa rfl x (by simp))];exact pb2 h0 (A3 ..) (A3 ..) fun v=>hn v
   |cap =>
    rcases l with _|⟨x,_|⟨y,l⟩⟩<;>rcases m with _|⟨ty,m⟩<;>simp only[opK,hl,hm]<;>try exact h0
    have e1:ev t2 x=ev t x:=by simpa using e
    rw[e1]
    (repeat' split)<;>first|exact h0|exact hn _
   |min =>
    rcases l with _|⟨x,l⟩<;>simp only[opK,hl,hm]<;>try exact h0
    simp only[eV,List.cons.injEq] at e;rw[e.1,e.2];exact pb2 h0 (iH _ _ _ _) (iH _ _ _ _) fun v=>hn v
   |max =>
    rcases l with _|⟨x,l⟩<;>simp only[opK,hl,hm]<;>try exact h0
    simp only[eV,List.cons.injEq] at e;rw[e.1,e.2];exact pb2 h0 (iH _ _ _ _) (iH _ _ _ _) fun v=>hn v
   |_=>simp only[opK]; (repeat' split)<;>first|exact h0|contradiction
  |value f=>cases hcall
  |invoke r m=>exact h0
 |store=>simp[cls] at hcl
 |mapUpdate=>simp[cls] at hcl
 |_=>exact h0
def aps (ups:List (Nat×Blk)) (h:List Blk):List Blk:=ups.foldl (fun h p=>ć h p.1 p.2) h
def aoA {id:Nat} {B:Blk}:aps [(id,B)] h=ć h id B:=rfl
def BB {u v:List (Nat×Blk)}:aps (u++v) h=aps v (aps u h):=by simp[aps]
def KJ:∀(ups:List (Nat×Blk)) (h:List Blk),(aps ups h).length=h.length
 |[],_=>rfl
 |p::ups,h=>by show(aps ups (ć h p.1 p.2)).length=_; rw[KJ ups,Û]
def XJ {id:Nat}:∀{ups:List (Nat×Blk)} {h:List Blk},(∀p∈ups,p.1≠id)→lkB (aps ups h) id=lkB h id
 |[],_,_=>rfl
 |p::ups,h,hn=>by
  show lkB (aps ups (ć h p.1 p.2)) id=_;rw[XJ fun q hq=>hn q (by simp[hq]),ó _ (Ne.symm (hn p (by simp)))]
def IA {id:Nat}:∀{ups:List (Nat×Blk)} {h h2:List Blk},h2.length=h.length→lkB h2 id=lkB h id→lkB (aps ups h2) id=lkB (aps ups h) id
 |[],_,_,_,he=>he
 |p::ups,h,h2,hl,he=>IA (ups:=ups) (h:=ć h p.1 p.2) (h2:=ć h2 p.1 p.2) (by simp[Û,hl]) (by simp only[N8,hl,he])
def aji {v:AV} (hs:∀id∈ĭ v,lkB h2 id=lkB h id):∃ups,xJ h v=aps ups h∧xJ h2 v=aps ups h2∧∀p∈ups,p.1∈ĭ v:=by
 have no:xJ h v=h→xJ h2 v=h2→∃ups,xJ h v=aps ups h∧xJ h2 v=aps ups h2∧∀p∈ups,p.1∈ĭ v:=fun h1 h2'=>⟨[],h1,h2',by simp⟩
 cases v with
 |own id g =>
  have e:=hs id (by simp[ĭ])
  cases hl:lkB h id with
  |row t g fz xs =>
   rw[hl] at e;exact⟨[(id,.row t g true xs)],by simp only[xJ,hl]; rfl,by simp only[xJ,e]; rfl,by simp[ĭ]⟩
  |_=>rw[hl] at e; exact no (by simp only[xJ,hl]) (by simp only[xJ,e])
 |sub id g lo n =>
  have e:=hs id (by simp[ĭ])
  cases hl:lkB h id with
  |row t g fz xs =>
   rw[hl] at e;exact⟨[(id,.row t g true xs)],by simp only[xJ,hl]; rfl,by simp only[xJ,e]; rfl,by simp[ĭ]⟩
  |_=>rw[hl] at e; exact no (by simp only[xJ,hl]) (by simp only[xJ,e])
 |_=>exact no rfl rfl
def aa7:∀{cs:List AV} {h h2:List Blk},h2.length=h.length→(∀c∈cs,∀id∈ĭ c,lkB h2 id=lkB h id)→∃ups,A6 h cs=aps ups h∧A6 h2 cs=aps ups h2∧∀p∈ups,∃c∈cs,p.1∈ĭ c
 |[],_,_,_,_=>⟨[],rfl,rfl,by simp⟩
 |c::cs,h,h2,hl,hs=>by
  obtain⟨u,h1,h2',h3⟩:=aji (hs c (by simp));obtain⟨v,h4,h5,h6⟩:=aa7 (cs:=cs) (h:=xJ h c) (h2:=xJ h2 c) (by rw[wI,wI,hl]) (fun d hd id hi=>by rw[h1,h2']; exact IA hl (hs d (by simp[hd]) id hi));refine⟨u++v,by simp only[A6]; rw[h4,h1,BB],by simp only[A6]; rw[h5,h2',BB],fun p hp=>?_⟩;rcases dh.1 hp with hp|hp
  ·exact⟨c,by simp,h3 p hp⟩
  ·obtain⟨d,hd,hi⟩:=h6 p hp;exact⟨d,by simp[hd],hi⟩
def anm {v:AV} (hl:h2.length=h.length) (hs:∀id∈refs1 v,lkB h2 id=lkB h id):∃ups,frz h v=aps ups h∧frz h2 v=aps ups h2∧∀p∈ups,p.1∈refs1 v:=by
 have one:(∀id∈ĭ v,lkB h2 id=lkB h id)→∃ups,xJ h v=aps ups h∧xJ h2 v=aps ups h2∧∀p∈ups,p.1∈ĭ v:=aji
 cases v with
 |agg cs =>
  obtain⟨u,h1,h2',h3⟩:=aa7 (cs:=cs) hl fun c hc id hi=>hs id (dC.2 ⟨c,hc,hi⟩);exact⟨u,h1,h2',fun p hp=>dC.2 (h3 p hp)⟩
 |fn f a b =>
  obtain⟨u,h1,h2',h3⟩:=one fun _ hi=>by cases hi
  exact⟨u,h1,h2',fun p hp=>by cases h3 p hp⟩
 |_=>exact one hs
def Lp {ty:Ty} {x:AV} (hs:∀id∈refs1 x,lkB h2 id=lkB h id):ä (.slice ty) [þ h2 x]=ä (.slice ty) [þ h x]:=by
 have:þ h2 x=þ h x:=pw fun id hi=>hs id (by cases x<;>first|exact hi|simp[ĭ] at hi)
 rw[this]
def ak7 {v:AV} {vs:List AV} (hc:Ő v=some vs):∀c∈vs,∀id∈ĭ c,id∈refs1 v:=by
 intro c hm id hi
 cases v<;>simp only[Ő,Option.some.injEq,reduceCtorEq] at hc<;>subst hc
 all_goals first
  |(simp only[dk] at hm; subst hm; exact hi)
  |(simp only[dk] at hm; subst hm; cases hi; done)
  |exact dC.2 ⟨c,hm,hi⟩
def ab7 {σ σ2:Type} {R:Option σ→Option σ2→Prop} {ty:TypeId} {a v:AV} {K:List Blk→Option σ} {K2:List Blk→Option σ2} (h0:R none none) (hlen:h2.length=h.length)
 (s1:∀id∈refs1 a,lkB h2 id=lkB h id) (s2:∀id∈refs1 v,lkB h2 id=lkB h id) (hK:∀ups,(∀p∈ups,p.1∈refs1 a∨p.1∈refs1 v)→R (K (aps ups h)) (K2 (aps ups h2))):R (xa P h ty a v K) (xa P h2 ty a v K2):=by
 unfold xa
 split<;>try exact h0
 rename_i vs hvs
 split<;>try exact h0
 split<;>try exact h0
 ·rename_i id off;have e3:=s1 id (by simp[refs1,ĭ]);rw[e3]
  (repeat' split)<;>first
   |exact h0
   |exact hK [(id,_)] fun p hp=>.inl (by simp only[dk] at hp; subst hp; simp[refs1,ĭ])
 ·rename_i id g i off;have e3:=s1 id (by simp[refs1,ĭ]);obtain⟨u,f1,f2,f3⟩:=anm (v:=v) hlen s2
  have e4:lkB (frz h2 v) id=lkB (frz h v) id:=by rw[f1,f2]; exact IA hlen e3
  have e5:vs.map (þ h2)=vs.map (þ h):=fp fun c hc=>pw fun id hi=>s2 id (ak7 hvs c hc id hi);rw[e4,e5]
  (repeat' split)<;>first
   |exact h0
   | (rw [f1, f2]
      refine hK (u++[(id,_)]) (fun p hp=>?_) |> fun q=>(by simpa only[BB,aoA] using q)
      rcases dh.1 hp with hp|hp
      ·exact .inr (f3 p hp)
      ·exact .inl (by simp only[dk] at hp; subst hp; simp[refs1,ĭ]))
 ·rename_i id g i j;have e3:=s1 id (by simp[refs1,ĭ]);rw[e3]
  (repeat' split)<;>first
   |exact h0
   |exact hK [(id,_)] fun p hp=>.inl (by simp only[dk] at hp; subst hp; simp[refs1,ĭ])
def ar9 {σ σ2:Type} {R:Option σ→Option σ2→Prop} {E:Env ρ} {o:Op} {nid:Nat} {eat:Bool} {K:AV→St→Option σ} {K2:AV→St→Option σ2} (h0:R none none) (hcl:cls E o=2) (hcall:Xe o=false) (hlen:h2.length=h.length)
 (hx:∀x∈o.operands.toList,ev t2 x=ev t x) (hs:∀x∈o.operands.toList,∀id∈refs1 (ev t x),lkB h2 id=lkB h id)
 (hK:∀v ups,(∀p∈ups,(p.1=nid∧Ď E.clone o=true)∨∃x∈o.operands.toList,p.1∈refs1 (ev t x))→R (K v {t:=t,h:=aps ups h}) (K2 v {t:=t2,h:=aps ups h2})) :
 R (opK P {t:=t,h:=h} nid eat o K) (opK P {t:=t2,h:=h2} nid eat o K2):=by
 cases o with
 |store ty a v =>
  have e1:=hx a (by simp[Op.operands]);have e2:=hx v (by simp[Op.operands]);have s1:=hs a (by simp[Op.operands]);have s2:=hs v (by simp[Op.operands]);have ma:∀{id:Nat},id∈refs1 (ev t a)→∃x∈(Op.store ty a v).operands.toList,id∈refs1 (ev t x):=fun hi=>⟨a,by simp[Op.operands],hi⟩;have mv:∀{id:Nat},id∈refs1 (ev t v)→∃x∈(Op.store ty a v).operands.toList,id∈refs1 (ev t x):=fun hi=>⟨v,by simp[Op.operands],hi⟩;simp only[opK,e1,e2]
  cases eat with
  |false =>
   simp only;exact ab7 h0 hlen s1 s2 fun ups hu=>hK _ ups fun p hp=>.inr ((hu p hp).elim ma mv)
  |true =>
   simp only
   cases hv:ev t v with
   |sub id g lo n =>
    rw[hv] at s2 mv;have e3:=s2 id (by simp[refs1,ĭ]);simp only[e3]
    split<;>try exact h0
    split<;>try exact h0
    refine ab7 h0 (by simp[Û,hlen]) (fun j hj=>?_) (fun j hj=>?_) fun ups hu=>hK _ ((id,_)::ups) fun p hp=>.inr ?_
    ·exact IA (ups:=[(id,_)]) hlen (s1 j hj)
    ·simp only[refs1,ĭ,dk] at hj;subst hj;exact IA (ups:=[(_,_)]) hlen e3
    ·rcases di.1 hp with rfl|hp
     ·exact mv (by simp[refs1,ĭ])
     ·rcases hu p hp with hu|hu
      ·exact ma hu
      ·exact mv (by simpa[refs1,ĭ] using hu)
   |_=>exact h0
 |mapUpdate ty m i x =>
  have e1:=hx m (by simp[Op.operands]);have e2:=hx i (by simp[Op.operands]);have e3:=hx x (by simp[Op.operands]);have s1:=hs m (by simp[Op.operands]);have s3:=hs x (by simp[Op.operands]);obtain⟨u,f1,f2,f3⟩:=anm (v:=ev t x) hlen s3;simp only[opK,e1,e2,e3];unfold lg;rw[OD s3]
  split<;>try exact h0
  split<;>try exact h0
  rename_i id hm;rw[hm] at s1;rw[s1 id (by simp[refs1,ĭ])]
  (repeat' split)<;>first
   |exact h0
   | (rw [f1, f2]
      refine hK _ (u++[(id,_)]) (fun p hp=>?_) |> fun q=>(by simpa only[BB,aoA] using q)
      rcases dh.1 hp with hp|hp
      ·exact .inr ⟨x,by simp[Op.operands],f3 p hp⟩
      ·exact .inr ⟨m,by simp[Op.operands],by simp only[dk] at hp; subst hp; rw[hm]; simp[refs1,ĭ]⟩)
 |call c =>
  obtain⟨callee,args,tys⟩:=c
  cases callee with
  |builtin b =>
   have e:=Pd (l:=args.toList) (t:=t) (t2:=t2) fun x hm=>hx x (by simpa[Op.operands,Call.operands] using hm);have hsa:∀x∈args.toList,∀id∈refs1 (ev t x),lkB h2 id=lkB h id:=fun x hm=>hs x (by simpa[Op.operands,Call.operands] using hm)
   have hmem:∀x∈args.toList,x∈(Op.call ⟨.builtin b,args,tys⟩).operands.toList:=fun x hm=>by simpa[Op.operands,Call.operands] using hm
   generalize hl:args.toList=l at e hsa hmem;generalize hm:tys.toList=m
   cases b with
   |append =>
    rcases l with _|⟨x,_|⟨y,_|⟨z,l⟩⟩⟩<;>rcases m with _|⟨ty,_|⟨ty',_|⟨ty'',m⟩⟩⟩<;>simp only[opK,hl,hm]<;>try exact h0
    simp only[eV,List.cons.injEq,fA,and_true] at e;rw[e.1,e.2];have sx:=hsa x (by simp);have sy:=hsa y (by simp);have hnew:∀v B,R (K v {t:=t,h:=ć h nid B}) (K2 v {t:=t2,h:=ć h2 nid B}):=fun v B=>hK v [(nid,B)] fun p hp=>.inl ⟨by simp only[dk] at hp; subst hp; rfl,rfl⟩
    (repeat' split)<;>first
     |exact h0
     | (unfold AD
        simp only[Lp sy]
        split<;>try exact h0
        split<;>try exact h0
        split<;>try exact h0
        split<;>try exact h0
        split<;>try exact h0
        ·split<;>first|exact h0|exact hnew _ _
        ·rename_i id g hv;rw[hv] at sx;rw[sx id (by simp[refs1,ĭ])]
         (repeat' split)<;>first
          |exact h0
          |exact hK _ [(id,_)] fun p hp=>.inr ⟨x,hmem x (by simp),by simp only[dk] at hp; subst hp; rw[hv]; simp[refs1,ĭ]⟩)
     | (rename_i id2 g2 hdp
        rw[hdp] at sy;have my:∃q∈(Op.call ⟨.builtin .append,args,tys⟩).operands.toList,id2∈refs1 (ev t q):=⟨y,hmem y (by simp),by rw[hdp]; simp[refs1,ĭ]⟩;unfold afx;rw[sy id2 (by simp[refs1,ĭ])]
        split<;>try exact h0
        split<;>try exact h0
        split<;>try exact h0
        split<;>try exact h0
        split<;>try exact h0
        ·split<;>first
          |exact h0
          |exact hK _ [(id2,_),(nid,_)] fun p hp=>by
             simp only[di,gc,or_false] at hp;rcases hp with rfl|rfl
             ·exact .inr my
             ·exact .inl ⟨rfl,rfl⟩
        ·rename_i id g hv;rw[hv] at sx;have mx:∃q∈(Op.call ⟨.builtin .append,args,tys⟩).operands.toList,id∈refs1 (ev t q):=⟨x,hmem x (by simp),by rw[hv]; simp[refs1,ĭ]⟩;rw[sx id (by simp[refs1,ĭ])]
         (repeat' split)<;>first
          |exact h0
          |exact hK _ [(id2,_),(id,_)] fun p hp=>by
             simp only[di,gc,or_false] at hp;rcases hp with rfl|rfl
             ·exact .inr my
             ·exact .inr mx)
     | (unfold Lm
        (repeat' split)<;>first|exact h0|exact hnew _ _)
   |clear =>
    rcases l with _|⟨x,_|⟨y,l⟩⟩<;>rcases m with _|⟨ty,_|⟨ty',m⟩⟩<;>simp only[opK,hl,hm]<;>try exact h0
    simp only[eV,List.cons.injEq,fA,and_true] at e;rw[e];have sx:=hsa x (by simp)
    split<;>try exact h0
    unfold Mb
    split<;>try exact h0
    ·exact hK _ [] (by simp)
    ·rename_i id g lo n _ hv _;rw[hv] at sx;rw[sx id (by simp[refs1,ĭ])]
     (repeat' split)<;>first
      |exact h0
      |exact hK _ [(id,_)] fun p hp=>.inr ⟨x,hmem x (by simp),by simp only[dk] at hp; subst hp; rw[hv]; simp[refs1,ĭ]⟩
   |_=>simp[cls] at hcl
  |value f=>cases hcall
  |invoke r m=>simp[cls] at hcl
 |_=>simp[cls] at hcl
end
end Go.Am
end
