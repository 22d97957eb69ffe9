/- lemmas -/
import Derived.Test.YtdmegkgjpgcfgaaGreatAmE
set_option linter.all false
set_option linter.unusedSectionVars false
set_option linter.unusedVariables false
set_option linter.unusedSimpArgs false
noncomputable section
variable {ρ:Type}
set_option maxRecDepth 100000
namespace Go.Proofs.ZzM
open Go Go.Am
abbrev tI:Ty:=.int .i64
abbrev Ã:Ty:=(.pair tI tI)
abbrev ŕ:Ty:=(.pair tI Ã)
abbrev œ:Ty:=(.pair tI (.slice tI))
abbrev Ė:Ty:=(.pair Ã Ã)
abbrev Cl:Ty:=(.pair Ã tI)
abbrev iJ:Ty:=(.pair tI Cl)
abbrev ab2:Ty:=(.pair Ė tI)
abbrev Ì:Ty:=(.pair tI (.slice ŕ))
abbrev Ck:Ty:=(.pair (.slice ŕ) (.slice Ã))
abbrev Õ:Ty:=(.pair tI (.pair tI (.pair tI (.pair Ã Cl))))
abbrev â:Ty:=(.pair tI (.pair tI (.pair (.slice tI) (.pair (.slice tI) (.pair tI ŕ)))))
abbrev Ê:Ty:=(.pair Ã (.pair (.slice Õ) (.pair (.slice Ã) (.pair (.slice iJ) (.pair (.slice â) (.slice Ã))))))
abbrev Â:Ty:=(.pair Ê (.slice œ))
abbrev ahl:Ty:=(.pair Ê (.pair (.slice Ã) (.pair Ì (.slice Ã))))
def yX (l:List Int):Option (List Int):=ç (î l.length) (some l)
def IF:Nat→List Int→List (List Int)
  |0,_=>[[]]
  |n+1,l=>if l.length=0 then[[]] else(List.range l.length).flatMap fun i=>(IF n (l.take i++l.drop (i+1))).map (l.getD i 0::·)
def jK:List (Int×List Int)→List (List (List Int))
  |[]=>[[]]
  |m::r=>(IF m.2.length m.2).flatMap fun x=>(jK r).map (x::·)
def yY (l:List Int):Option (List (List Int)):=ç (decide (l.length≤9)) (some (IF l.length l))
def mC (l:List (Int×List Int)):Option (List (List (List Int))):=ç (decide (l.length≤9)&&l.all fun m=>decide (m.2.length≤9)) (some (jK l))
abbrev aa:Ty:=(.slice tI)
abbrev ab:Ty:=(.slice Ã)
abbrev ac:Ty:=(.pair tI (.pair tI (.pair (.slice Õ) (.pair ab (.pair (.slice iJ) (.pair (.slice â) (.pair ab (.slice œ))))))))
abbrev ae:Ty:=(.slice â)
abbrev af:Ty:=(.slice (.slice aa))
abbrev ag:Ty:=(.slice Õ)
abbrev ah:Ty:=(.slice iJ)
abbrev ai:Ty:=(.slice œ)
abbrev aj:Ty:=(.slice aa)
abbrev ak:Ty:=(.slice ŕ)
abbrev am:Ty:=(.map tI Õ)
abbrev ao:Ty:=(.map tI .bool)
abbrev aq:Ty:=(.slice .bool)
abbrev ar:Ty:=(.ptr Â)
abbrev au:Ty:=(.pair tI (.pair af ac))
abbrev aw:Ty:=(.pair aa tI)
abbrev ax:Ty:=(.pair tI (.pair tI (.pair ag (.pair ab (.pair ah (.pair ae (.pair ab (.pair ai ac))))))))
abbrev ay:Ty:=(.pair tI (.pair tI (.pair tI (.pair tI (.pair tI ŕ)))))
abbrev az:Ty:=(.pair tI af)
abbrev aB:Ty:=(.pair tI ac)
abbrev aD:Ty:=(.ptr ahl)
abbrev aE:Ty:=(.pair tI (.pair tI (.pair ag (.pair ab (.pair ah (.pair ae ab))))))
abbrev aF:Ty:=(.pair aa (.pair tI (.pair tI (.pair tI (.pair ag (.pair ab (.pair ah (.pair ae (.pair ab (.pair tI (.pair aa (.map tI tI))))))))))))
abbrev aG:Ty:=(.ptr aj)
abbrev aH:Ty:=(.pair .bool tI)
abbrev aI:Ty:=(.pair Â aj)
abbrev aJ:Ty:=(.pair tI (.pair tI (.pair tI (.pair ag (.pair ab (.pair ah (.pair ae (.pair ab ay))))))))
abbrev aK:Ty:=(.pair Ê Ã)
abbrev aL:Ty:=(.pair tI Ì)
abbrev aM:Ty:=(.pair aq aa)
abbrev aO:Ty:=(.pair aa (.pair aq (.pair aa aa)))
abbrev aP:Ty:=(.pair tI (.pair tI (.pair tI (.pair tI (.pair tI au)))))
abbrev aQ:Ty:=(.pair tI œ)
abbrev aR:Ty:=(.map tI Ã)
abbrev aS:Ty:=(.pair aa (.pair tI (.pair tI aw)))
abbrev aT:Ty:=(.pair tI ae)
abbrev aU:Ty:=(.pair Ì aa)
abbrev aV:Ty:=(.pair aa œ)
abbrev aW:Ty:=(.map tI tI)
abbrev aX:Ty:=(.pair Ê â)
abbrev aY:Ty:=(.pair Ì Ã)
abbrev aZ:Ty:=(.pair Â Ã)
abbrev ba:Ty:=(.pair tI ab)
abbrev bc:Ty:=(.pair Â (.pair aj Ã))
abbrev bf:Ty:=(.pair tI aj)
abbrev bg:Ty:=(.pair ab tI)
abbrev bh:Ty:=(.pair aa (.pair ai aa))
abbrev bi:Ty:=(.pair tI (.pair tI aB))
abbrev bj:Ty:=(.pair (.int .u64) (.int .u64))
abbrev bm:Ty:=(.pair Ê (.pair am tI))
abbrev bn:Ty:=(.pair tI (.pair tI (.pair ak Ì)))
def Ο (d:Val aj) (e:Int) (b:Int) (a:Int) (f:Int→Int→Option ρ) (g:Int→Option ρ):Option ρ :=
  ifb (ilt a e) (đ d a fun h=>ck (b+(Ú h)) fun c=>ifb (ilt c 0) (none) (ck (a+(1:Int)) fun i=>f c i)) (g b)
def Ğ (d:Val aj) (e:Int) (a:Int) (b:Val aa) (f:Int→Val aa→Option ρ) (g:Val aa→Option ρ):Option ρ :=
  ifb (ilt a e) (đ d a fun c=>ç (î ((List.length b)+(List.length c))) (ck (a+(1:Int)) fun h=>f h (b++c))) (g b)
def kZ (a:Val aj) (k:Val aa→Option ρ):Option ρ :=
  Ë (fun(c:Val Ã) g=>Ο a (Ú a) c.1 c.2 (fun h i=>g (h,i)) (fun d=>ifb (ilt d 0) (none) (ck (d-(0:Int)) fun b=>ifb (igt b 0) (ç ((ilt 0 b)&&(î (Int.toNat b))) (ç (ile 0 (ñ (List.replicate (Int.toNat b) (0:Int)))) (Ë (fun(e:Val œ) j=>Ğ a (Ú a) e.1 e.2 (fun l m=>j (l,m)) (fun n=>k n)) ((0:Int),(List.take 0 (List.replicate (Int.toNat b) (0:Int))))))) (Ë (fun(f:Val œ) o=>Ğ a (Ú a) f.1 f.2 (fun p q=>o (p,q)) (fun r=>k r)) ((0:Int),[]))))) ((0:Int),(0:Int))
def ĥ (a:Val aj):Option ((Val aa)):=kZ a some
def pu (al:Val aj) (rec:Val aa→Option ((Val aj))) (a:Int) (b:Val aj) (y:Val aa) (c:Val aj→Option ρ):Option ρ :=
  ç (î ((List.length ([a]))+(List.length y))) (yg al (b++[(([a])++y)]) (c (b++[(([a])++y)])))
def pv (al:Val aj) (rec:Val aa→Option ((Val aj))) (e:Val aa) (f:Int) (b:Val aa) (a:Int) (d:Val aj) (g:Int→Val aj→Option ρ) (h:Val aj→Option ρ):Option ρ :=
  ifb (ilt a f) (đ e a fun i=>ç ((ile 0 a)&&(ile a (ñ b))) (ck (a+(1:Int)) fun c=>ç ((ile 0 c)&&(ile c (ñ b))) (Ä (ĥ ([(List.take (Int.toNat a) b),(List.drop (Int.toNat c) b)])) fun j=>Ä (rec j) fun k=>ym (fun(l:Val aj) (m:Val aa) n=>pu al rec i l m (fun o=>n o)) k (d) (fun p=>ck (a+(1:Int)) fun q=>g q p)))) (h d)
def xn (al:Val aj) (rec:Val aa→Option ((Val aj))) (mm:Val aa) (k:((Val aj))×((Val aa))→Option ρ):Option ρ :=
  ifb (ieq (Ú mm) 0) (yg al (([])++[[]]) (k ((([])++[[]]),mm))) (Ë (fun(a:Val bf) b=>pv al rec mm (Ú mm) mm a.1 a.2 (fun c d=>b (c,d)) (fun e=>k (e,mm))) ((0:Int),[]))
def mi (al:Val af) (rec:Val ai→Option ((Val af))) (a:Val aa) (b:Val af) (y:Val aj) (c:Val af→Option ρ):Option ρ :=
  ç (î ((List.length ([a]))+(List.length y))) (yg al (b++[(([a])++y)]) (c (b++[(([a])++y)])))
def mj (al:Val af) (rec:Val ai→Option ((Val af))) (a:Val ai) (b:Val af) (y:Val aa) (c:Val af→Option ρ):Option ρ :=
  ç (ile 1 (ñ a)) (Ä (rec (List.drop 1 a)) fun d=>ym (fun(e:Val af) (f:Val aj) g=>mi al rec y e f (fun h=>g h)) d (b) (fun i=>c i))
def sc (al:Val af) (rec:Val ai→Option ((Val af))) (mm:Val ai) (k:((Val af))×((Val ai))→Option ρ):Option ρ :=
  ifb (ieq (Ú mm) 0) (yg al (([])++[[]]) (k ((([])++[[]]),mm))) (đ mm (0:Int) fun a=>Ä (yY a.2) fun b=>ym (fun(c:Val af) (d:Val aa) e=>mj al rec mm c d (fun f=>e f)) b ([]) (fun g=>k (g,mm)))
def iu (al:Val aa) (rec:Val aa→Option ((Val aa))) (d:Val aa) (e:Int) (a:Int) (b:Val aa) (f:Int→Val aa→Option ρ) (g:Val aa→Option ρ):Option ρ :=
  ifb (ilt a e) (đ d a fun c=>yg al (b++[c]) (ck (a+(1:Int)) fun h=>f h (b++[c]))) (g b)
def jy (al:Val aa) (rec:Val aa→Option ((Val aa))) (mm:Val aa) (k:((Val aa))×((Val aa))→Option ρ):Option ρ :=
  Ë (fun(a:Val œ) b=>iu al rec mm (Ú mm) a.1 a.2 (fun c d=>b (c,d)) (fun e=>k (e,mm))) ((0:Int),[])
def ι (b:Val aa) (c:Int) (d:Int) (a:Int) (e:Int→Option ρ) (f:Int→Option ρ) (g:Unit→Option ρ):Option ρ :=
  ifb (ilt a d) (đ b a fun h=>ifb (ieq c h) (f a) (ck (a+(1:Int)) fun i=>e i)) (g ())
def mn (a:Val aa) (b:Int) (k:Int→Option ρ):Option ρ :=
  Ë (fun(c:Int) d=>ι a b (Ú a) c (fun e=>d e) (fun f=>k f) (fun _=>k (-1:Int))) (0:Int)
def gZ (a:Val aa) (b:Int):Option (Int):=mn a b some
def jz (a:Val aa) (b:Int) (k:Bool→Option ρ):Option ρ :=
  Ä (gZ a b) fun c=>k (ige c 0)
def á (a:Val aa) (b:Int):Option (Bool):=jz a b some
def vx (f:Val ae) (g:Int) (d:Int) (a:Int) (b:Val aa) (e:Int→Val aa→Option ρ) (h:Val aa→Option ρ):Option ρ :=
  ifb (ilt a g) (đ f a fun c=>Ä (á c.2.2.1 d) fun i=>Ä (á c.2.2.2.1 d) fun j=>ifb (!(i==j)) (ç (î ((List.length b)+(List.length ([c.2.1])))) (ck (a+(1:Int)) fun k=>e k (b++([c.2.1])))) (ck (a+(1:Int)) fun l=>e l b)) (h b)
def vw (e:Val ab) (f:Int) (g:Int) (a:Int) (b:Val aa) (d:Int→Val aa→Option ρ) (h:Val aa→Option ρ):Option ρ :=
  ifb (ilt a f) (đ e a fun c=>ifb (ieq c.1 g) (ç (î ((List.length b)+(List.length ([c.2])))) (ck (a+(1:Int)) fun i=>d i (b++([c.2])))) (ck (a+(1:Int)) fun j=>d j b)) (h b)
def Rx (a:Val Ê) (b:Val Õ) (k:Val aa→Option ρ):Option ρ :=
  Ë (fun(d:Val œ) f=>vx a.2.2.2.2.1 (Ú a.2.2.2.2.1) b.1 d.1 d.2 (fun g h=>f (g,h)) (fun i=>Ë (fun(e:Val œ) j=>vw a.2.2.2.2.2 (Ú a.2.2.2.2.2) b.1 e.1 e.2 (fun l m=>j (l,m)) (fun c=>ç (î (List.length c)) (ç (î (List.length (wM c))) (k (zp (wM c)))))) ((0:Int),i))) ((0:Int),[b.2.1])
def oN (a:Val Ê) (b:Val Õ):Option ((Val aa)):=Rx a b some
def ro (e:Val aa) (f:Int) (c:Int) (a:Int) (b:Val ab) (g:Int→Val ab→Option ρ) (h:Val ab→Option ρ):Option ρ :=
  ifb (ilt a f) (đ e a fun d=>ç (î ((List.length b)+(List.length ([(c,d)])))) (ck (a+(1:Int)) fun i=>g i (b++([(c,d)])))) (h b)
def rq (f:Val ag) (g:Int) (h:Int) (i:Int) (j:Val ag) (k:Val ab) (l:Val ah) (m:Val ae) (n:Val ab) (a:Int) (b:Val ab) (o:Int→Val ab→Option ρ) (p:Val ab→Option ρ):Option ρ :=
  ifb (ilt a g) (đ f a fun c=>Ä (oN ((h,i),j,k,l,m,n) c) fun d=>Ë (fun(e:Val ba) q=>ro d (Ú d) c.1 e.1 e.2 (fun r s=>q (r,s)) (fun t=>ck (a+(1:Int)) fun u=>o u t)) ((0:Int),b)) (p b)
def K8 (a:Val Ê) (k:Val ab→Option ρ):Option ρ :=
  Ë (fun(b:Val ba) c=>rq a.2.1 (Ú a.2.1) a.1.1 a.1.2 a.2.1 a.2.2.1 a.2.2.2.1 a.2.2.2.2.1 a.2.2.2.2.2 b.1 b.2 (fun d e=>c (d,e)) (fun f=>k f)) ((0:Int),[])
def pX (a:Val Ê):Option ((Val ab)):=K8 a some
def F0 (a:Val Ã) (b:Int) (c:Int) (k:Bool→Option ρ):Option ρ :=
  ifb (ile b a.1) (ifb (ile a.1 a.2) (k (ile a.2 c)) (k false)) (k false)
def Ι (a:Val Ã) (b:Int) (c:Int):Option (Bool):=F0 a b c some
def FR (a:Int) (b:Int) (c:Int) (k:Bool→Option ρ):Option ρ :=
  ifb (ile b a) (k (ile a c)) (k false)
def ĕ (a:Int) (b:Int) (c:Int):Option (Bool):=FR a b c some
def Le (a:Int) (k:Bool→Option ρ):Option ρ :=
  Ä (ĕ a (0:Int) (20000:Int)) fun b=>k b
def lr (a:Int):Option (Bool):=Le a some
def Q6 (a:Int) (k:Int→Option ρ):Option ρ :=
  ifb (ilt a 0) (k (IntKind.wrap .u64 (0-(IntKind.wrap .u64 a)))) (k (IntKind.wrap .u64 a))
def rO (a:Int):Option (Int):=Q6 a some
def yR (b:Int) (a:Int) (c:Int→Int→Option ρ) (d:Int→Option ρ):Option ρ :=
  ifb (ine a 0) (ifb (Ca a 0) (none) (c a (Int.tmod b a))) (d b)
def Xr (b:Int) (c:Int) (k:Int→Option ρ):Option ρ :=
  Ë (fun(a:Val bj) d=>yR a.1 a.2 (fun e f=>d (e,f)) (fun g=>k g)) (b,c)
def LY (a:Int) (b:Int):Option (Int):=Xr a b some
def KV (a:Val Ã) (k:Bool→Option ρ):Option ρ :=
  ifb (ige a.2 1) (ifb (ile a.2 2147483647) (Ä (rO a.1) fun b=>ifb (ile b 2147483647) (Ä (rO a.1) fun c=>Ä (rO a.2) fun d=>Ä (LY c d) fun e=>k (ieq e 1)) (k false)) (k false)) (k false)
def ue (a:Val Ã):Option (Bool):=KV a some
def BQ (a:Val Õ) (k:Bool→Option ρ):Option ρ :=
  Ä (ue a.2.2.2.2.1) fun b=>ifb b (Ä (ĕ a.2.2.2.2.1.1 (-1000:Int) (1000:Int)) fun c=>ifb c (Ä (ĕ a.1 (1:Int) (1099511627776:Int)) fun d=>ifb d (Ä (lr a.2.1) fun e=>ifb e (Ä (ĕ a.2.2.1 (1:Int) (1125899906842624:Int)) fun f=>ifb f (Ä (Ι a.2.2.2.1 (-1073741824:Int) (1073741824:Int)) fun g=>ifb g (ifb (ile a.2.2.2.2.1.2 100) (Ä (ĕ a.2.2.2.2.2 (0:Int) (1048576:Int)) fun h=>k h) (k false)) (k false)) (k false)) (k false)) (k false)) (Ä (ĕ a.1 (1:Int) (1099511627776:Int)) fun i=>ifb i (Ä (lr a.2.1) fun j=>ifb j (Ä (ĕ a.2.2.1 (1:Int) (1125899906842624:Int)) fun l=>ifb l (Ä (Ι a.2.2.2.1 (-1073741824:Int) (1073741824:Int)) fun m=>ifb m (k false) (k false)) (k false)) (k false)) (k false))) (Ä (ĕ a.1 (1:Int) (1099511627776:Int)) fun n=>ifb n (Ä (lr a.2.1) fun o=>ifb o (Ä (ĕ a.2.2.1 (1:Int) (1125899906842624:Int)) fun p=>ifb p (Ä (Ι a.2.2.2.1 (-1073741824:Int) (1073741824:Int)) fun q=>ifb q (k false) (k false)) (k false)) (k false)) (k false))
def vL (a:Val Õ):Option (Bool):=BQ a some
def iN (e:Val ag) (f:Int) (g:Val ag) (a:Int) (b:Int→Option ρ) (c:Int→Option ρ) (h:Unit→Option ρ):Option ρ :=
  ifb (ilt a f) (đ e a fun d=>Ä (vL d) fun i=>ifb (!i) (c (1:Int)) (ifb (igt a 0) (ck (a-(1:Int)) fun j=>đ g j fun k=>ifb (ile d.1 k.1) (c (6:Int)) (ck (a+(1:Int)) fun l=>b l)) (ck (a+(1:Int)) fun m=>b m))) (h ())
def pP (a:Val Ê) (k:Int→Option ρ):Option ρ :=
  Ë (fun(b:Int) c=>iN a.2.1 (Ú a.2.1) a.2.1 b (fun d=>c d) (fun e=>k e) (fun _=>k (0:Int))) (0:Int)
def Ż (a:Val Ê):Option (Int):=pP a some
def mO (d:Val ag) (e:Int) (a:Int) (b:Val am) (f:Int→Val am→Option ρ) (g:Val am→Option ρ):Option ρ :=
  ifb (ilt a e) (đ d a fun c=>ck (a+(1:Int)) fun h=>f h (JB (k:=tI) (v:=Õ) c.1 c b)) (g b)
def BN (a:Val Ê) (k:Val am→Option ρ):Option ρ :=
  Ë (fun(b:(Val (.pair tI am))) c=>mO a.2.1 (Ú a.2.1) b.1 b.2 (fun d e=>c (d,e)) (fun f=>k f)) ((0:Int),[])
def ļ (a:Val Ê):Option ((Val am)):=BN a some
def sk (a:Val am) (b:Int) (c:Int) (k:Int→Option ρ):Option ρ :=
  MF (k:=tI) (v:=Õ) b a (fun d=>ifb (ilt c d.2.1) (k (4:Int)) (k (0:Int))) (k (5:Int))
def iF (a:Val am) (b:Int) (c:Int):Option (Int):=sk a b c some
def BP (b:Int) (a:Int) (c:(Val (.ptr am))) (k:Int→Option ρ):Option ρ :=
  Ä (lr a) fun d=>ifb (!d) (k (1:Int)) (Ä (iF c b a) fun e=>k e)
def Ľ (a:Int) (b:Int) (c:(Val (.ptr am))):Option (Int):=BP a b c some
def jX (d:Val ah) (e:Int) (f:Int) (g:Int) (h:Int) (a:Int) (b:Int→Option ρ) (i:Int→Option ρ) (j:Unit→Option ρ):Option ρ :=
  ifb (ilt a e) (đ d a fun c=>ifb (ieq c.1 f) (ifb (ile c.2.1.1 h) (ifb (ile g c.2.1.2) (i a) (ck (a+(1:Int)) fun k=>b k)) (ck (a+(1:Int)) fun l=>b l)) (ck (a+(1:Int)) fun m=>b m)) (j ())
def Θ (d:Val ab) (e:Int) (f:Int) (g:Int) (h:Int) (a:Int) (b:Int→Option ρ) (i:Int→Option ρ) (j:Unit→Option ρ):Option ρ :=
  ifb (ilt a e) (đ d a fun c=>ifb (ieq c.1 f) (Ä (ĕ c.2 g h) fun k=>ifb k (i a) (ck (a+(1:Int)) fun l=>b l)) (ck (a+(1:Int)) fun m=>b m)) (j ())
def vy (b:Val Ê) (e:Val am) (c:Int) (k:Int→Option ρ):Option ρ :=
  đ b.2.2.2.1 c fun a=>Ä (Ι a.2.1 (0:Int) (20000:Int)) fun f=>ifb (!f) (k (1:Int)) (Ä (ĕ a.2.2 (0:Int) (1048576:Int)) fun g=>ifb (!g) (k (1:Int)) (Ä (iF e a.1 a.2.1.1) fun d=>ifb (ine d 0) (k d) (ç ((ile 0 c)&&(ile c (ñ b.2.2.2.1))) (Ë (fun(h:Int) i=>jX (List.take (Int.toNat c) b.2.2.2.1) (Ú (List.take (Int.toNat c) b.2.2.2.1)) a.1 a.2.1.1 a.2.1.2 h (fun j=>i j) (fun l=>ifb (ige l 0) (k (9:Int)) (Ë (fun(m:Int) n=>Θ b.2.2.1 (Ú b.2.2.1) a.1 a.2.1.1 a.2.1.2 m (fun o=>n o) (fun p=>ifb (ige p 0) (k (9:Int)) (k (0:Int))) (fun _=>k (0:Int))) (0:Int))) (fun _=>Ë (fun(q:Int) r=>Θ b.2.2.1 (Ú b.2.2.1) a.1 a.2.1.1 a.2.1.2 q (fun s=>r s) (fun t=>ifb (ige t 0) (k (9:Int)) (k (0:Int))) (fun _=>k (0:Int))) (0:Int))) (0:Int)))))
def Υ (a:Val Ê) (b:Val am) (c:Int):Option (Int):=vy a b c some
def vv (c:Int) (d:Val aa) (b:Val aa) (a:Int) (e:Int→Option ρ) (f:Int→Option ρ) (g:Unit→Option ρ):Option ρ :=
  ifb (ilt a c) (ç ((ile 0 a)&&(ilt a (ñ b))) (ł b (Int.toNat a) fun h=>Ä (á d h) fun i=>ifb i (f a) (ck (a+(1:Int)) fun j=>e j))) (g ())
def kd (f:Val aa) (b:Int) (c:Int) (a:Val aa) (d:Int→Int→Val aa→Option ρ) (g:Val œ→Option ρ):Option ρ :=
  ifb (ilt c (Ú a)) (ç ((ile 0 c)&&(ilt c (ñ a))) (ł a (Int.toNat c) fun e=>Ä (á f e) fun h=>ifb (!h) (ç ((ile 0 b)&&(ilt b (ñ a))) (ł a (Int.toNat b) fun l=>ck (b+(1:Int)) fun i=>ck (c+(1:Int)) fun j=>d i j (List.set a (Int.toNat b) e))) (ck (c+(1:Int)) fun k=>d b k a))) (g (b,a))
def Ro (b:Val aa) (e:Val aa) (k:Val aa→Option ρ):Option ρ :=
  ç (î (List.length b)) (Ë (fun(f:Int) g=>vv (Ú b) e b f (fun h=>g h) (fun c=>ifb (ieq c (-1:Int)) (k b) (ck (c+(1:Int)) fun i=>Ë (fun(d:Val aQ) j=>kd e d.1 d.2.1 d.2.2 (fun l m n=>j (l,m,n)) (fun a=>ç ((ile 0 a.1)&&(ile a.1 (ñ a.2))) (ç ((ile 0 a.1)&&(ile a.1 (ñ (List.take (Int.toNat a.1) a.2++List.replicate (List.length a.2-(Int.toNat a.1)) (0:Int)++List.drop ((Int.toNat a.1)+(List.length a.2-(Int.toNat a.1))) a.2)))) (k (List.take (Int.toNat a.1) (List.drop 0 (List.take (Int.toNat a.1) a.2++List.replicate (List.length a.2-(Int.toNat a.1)) (0:Int)++List.drop ((Int.toNat a.1)+(List.length a.2-(Int.toNat a.1))) a.2))))))) (c,i,b))) (fun _=>k b)) (0:Int))
def Τ (a:Val aa) (b:Val aa):Option ((Val aa)):=Ro a b some
def oG (e:Val aa) (f:Val aa) (g:Int) (a:Int) (b:Int→Option ρ) (c:Bool→Option ρ) (h:Unit→Option ρ):Option ρ :=
  ifb (ilt a g) (đ f a fun d=>Ä (ĕ d (1:Int) (1099511627776:Int)) fun i=>ifb (!i) (c false) (ifb (igt a 0) (ck (a-(1:Int)) fun j=>đ e j fun k=>ifb (ile d k) (c false) (ck (a+(1:Int)) fun l=>b l)) (ck (a+(1:Int)) fun m=>b m))) (h ())
def FZ (a:Val aa) (k:Bool→Option ρ):Option ρ :=
  Ë (fun(b:Int) c=>oG a a (Ú a) b (fun d=>c d) (fun e=>k e) (fun _=>k (ile (Ú a) 6))) (0:Int)
def mG (a:Val aa):Option (Bool):=FZ a some
def vz (d:Val ah) (e:Int) (f:Int) (g:Int) (a:Int) (c:Int→Option ρ) (h:Int→Option ρ) (i:Unit→Option ρ):Option ρ :=
  ifb (ilt a e) (đ d a fun b=>ifb (ieq b.1 f) (Ä (ĕ g b.2.1.1 b.2.1.2) fun j=>ifb j (h a) (ck (a+(1:Int)) fun k=>c k)) (ck (a+(1:Int)) fun l=>c l)) (i ())
def Ry (a:Val Ê) (c:Int) (d:Int) (k:(Val (.pair iJ .bool))→Option ρ):Option ρ :=
  Ë (fun(e:Int) f=>vz a.2.2.2.1 (Ú a.2.2.2.1) c d e (fun g=>f g) (fun b=>ifb (ilt b 0) (k (((0:Int),((0:Int),(0:Int)),(0:Int)),false)) (đ a.2.2.2.1 b fun h=>k (h,true))) (fun _=>k (((0:Int),((0:Int),(0:Int)),(0:Int)),false))) (0:Int)
def vM (a:Val Ê) (b:Int) (c:Int):Option ((Val (.pair iJ .bool))):=Ry a b c some
def iw (b:Val ae) (c:Int) (d:Int) (a:Int) (e:Int→Option ρ) (f:Int→Option ρ) (g:Unit→Option ρ):Option ρ :=
  ifb (ilt a c) (đ b a fun h=>ifb (ieq h.1 d) (f a) (ck (a+(1:Int)) fun i=>e i)) (g ())
def iv (c:Val am) (b:Int) (d:Val aa) (e:Int) (f:Int) (a:Int) (g:Int→Option ρ) (h:Int→Option ρ) (i:Unit→Option ρ):Option ρ :=
  ifb (ilt a e) (đ d a fun j=>Ä (iF c j f) fun k=>ifb (ieq k b) (h b) (ck (a+(1:Int)) fun l=>g l)) (i ())
def ō (d:Val am) (b:Val aa) (e:Int) (f:Int) (c:Val aa) (a:Int) (g:Int→Option ρ) (h:Int→Option ρ) (i:Unit→Option ρ):Option ρ :=
  ifb (ilt a e) (ç ((ile 0 a)&&(ilt a (ñ c))) (ł c (Int.toNat a) fun j=>Ë (fun(k:Int) l=>iv d j b (Ú b) f k (fun m=>l m) (fun n=>h n) (fun _=>ck (a+(1:Int)) fun o=>g o)) (0:Int))) (i ())
def Ō (b:Val aa) (c:Int) (d:Int) (e:Int) (f:Val ag) (g:Val ab) (h:Val ah) (i:Val ae) (j:Val ab) (k:Int) (a:Int) (l:Int→Option ρ) (m:Int→Option ρ) (n:Unit→Option ρ):Option ρ :=
  ifb (ilt a c) (đ b a fun o=>Ä (vM ((d,e),f,g,h,i,j) o k) fun p=>ifb p.2 (m (9:Int)) (ck (a+(1:Int)) fun q=>l q)) (n ())
def og (b:Val Ê) (f:Val am) (c:Int) (k:Int→Option ρ):Option ρ :=
  đ b.2.2.2.2.1 c fun a=>Ä (ĕ a.1 (1:Int) (1099511627776:Int)) fun l=>ifb (!l) (k (1:Int)) (Ä (lr a.2.1) fun m=>ifb (!m) (k (1:Int)) (Ä (ĕ a.2.2.2.2.1 (-1125899906842624:Int) (1125899906842624:Int)) fun n=>ifb (!n) (k (1:Int)) (Ä (ĕ a.2.2.2.2.2.1 (0:Int) (1073741824:Int)) fun o=>ifb (!o) (k (1:Int)) (Ä (Ι a.2.2.2.2.2.2 (-10000:Int) (10000:Int)) fun p=>ifb (!p) (k (1:Int)) (Ä (mG a.2.2.1) fun q=>ifb (!q) (k (1:Int)) (Ä (mG a.2.2.2.1) fun r=>ifb (!r) (k (1:Int)) (ç ((ile 0 c)&&(ile c (ñ b.2.2.2.2.1))) (Ë (fun(s:Int) t=>iw (List.take (Int.toNat c) b.2.2.2.2.1) (Ú (List.take (Int.toNat c) b.2.2.2.2.1)) a.1 s (fun u=>t u) (fun v=>ifb (ige v 0) (k (6:Int)) (Ä (ĥ ([a.2.2.1,a.2.2.2.1])) fun d=>Ë (fun(w:Int) x=>ō f d (Ú ([(5:Int),(4:Int)])) a.2.1 ([(5:Int),(4:Int)]) w (fun y=>x y) (fun z=>k z) (fun _=>Ë (fun(A:Int) B=>Ō d (Ú d) b.1.1 b.1.2 b.2.1 b.2.2.1 b.2.2.2.1 b.2.2.2.2.1 b.2.2.2.2.2 a.2.1 A (fun C=>B C) (fun D=>k D) (fun _=>Ä (Τ a.2.2.1 a.2.2.2.1) fun g=>Ä (Τ a.2.2.2.1 a.2.2.1) fun h=>ifb (igt (Ú g) 1) (k (1:Int)) (ifb (igt (Ú h) 1) (k (1:Int)) (ck ((Ú g)+(Ú h)) fun E=>ifb (ieq E 0) (k (1:Int)) (k (0:Int)))))) (0:Int))) (0:Int))) (fun _=>Ä (ĥ ([a.2.2.1,a.2.2.2.1])) fun e=>Ë (fun(F:Int) G=>ō f e (Ú ([(5:Int),(4:Int)])) a.2.1 ([(5:Int),(4:Int)]) F (fun H=>G H) (fun I=>k I) (fun _=>Ë (fun(J:Int) K=>Ō e (Ú e) b.1.1 b.1.2 b.2.1 b.2.2.1 b.2.2.2.1 b.2.2.2.2.1 b.2.2.2.2.2 a.2.1 J (fun L=>K L) (fun M=>k M) (fun _=>Ä (Τ a.2.2.1 a.2.2.2.1) fun i=>Ä (Τ a.2.2.2.1 a.2.2.1) fun j=>ifb (igt (Ú i) 1) (k (1:Int)) (ifb (igt (Ú j) 1) (k (1:Int)) (ck ((Ú i)+(Ú j)) fun N=>ifb (ieq N 0) (k (1:Int)) (k (0:Int)))))) (0:Int))) (0:Int))) (0:Int)))))))))
def ņ (a:Val Ê) (b:Val am) (c:Int):Option (Int):=og a b c some
def nO (b:Val Ê) (s:Val am):Option (List Int) :=
  Ä (JH (fun u=>Ľ u.1 u.2 s) (b.2.2.1:List (Int×Int))) fun a=>Ä (JH (fun i=>Υ b s i) (wI (b.2.2.2.1:List (Val iJ)).length)) fun c =>
    Ä (JH (fun i=>ņ b s i) (wI (b.2.2.2.2.1:List (Val â)).length)) fun d=>Ä (JH (fun u=>Ľ u.1 u.2 s) (b.2.2.2.2.2:List (Int×Int))) fun e=>some (a++(c++(d++e)))
def Lm (a:Val Ê) (k:Int→Option ρ):Option ρ :=
  Ä (Ι a.1 (0:Int) (1000000:Int)) fun d=>ifb (!d) (k (1:Int)) (ifb (igt (Ú a.2.1) 12) (k (2:Int)) (ifb (igt (Ú a.2.2.1) 40) (k (2:Int)) (ifb (igt (Ú a.2.2.2.1) 12) (k (2:Int)) (ifb (igt (Ú a.2.2.2.2.1) 40) (k (2:Int)) (ifb (igt (Ú a.2.2.2.2.2) 10) (k (2:Int)) (Ä (Ż a) fun b=>ifb (ine b 0) (k b) (Ä (ļ a) fun e=>Tn (nO a e) (fun f=>k f) (Ä (pX a) fun c=>ifb (igt (Ú c) 59) (k (2:Int)) (ck ((2:Int)*(Ú a.2.1)) fun g=>ck ((Ú c)-(Ú a.2.1)) fun h=>ck ((2:Int)*h) fun i=>ck (g+i) fun j=>ck ((2:Int)*(Ú a.2.2.2.2.1)) fun l=>ck (j+l) fun m=>ifb (igt m 300) (k (2:Int)) (k (0:Int)))))))))))
def ż (a:Val Ê):Option (Int):=Lm a some
def Eo (a:List Int):Option (Int×Int×Int×Int×Int):=some (a.getD 0 0,a.getD 1 0,a.getD 2 0,a.getD 3 0,a.getD 4 0)
def ox (b:Val ae) (a:Int) (e:Int→Option ρ) (c:Bool→Option ρ) (d:Unit→Option ρ):Option ρ :=
  ifb (ilt a (Ú b)) (ifb (ilt a 60) (đ b a fun f=>ifb (igt (Ú f.2.2.1) 9) (c false) (đ b a fun g=>ifb (igt (Ú g.2.2.2.1) 9) (c false) (ck (a+(1:Int)) fun h=>e h))) (d ())) (d ())
def kJ (b:Val ai) (a:Int) (d:Int→Option ρ) (e:Bool→Option ρ) (c:Unit→Option ρ):Option ρ :=
  ifb (ilt a (Ú b)) (ifb (ilt a 8) (đ b a fun f=>ifb (igt (Ú f.2) 9) (e false) (ck (a+(1:Int)) fun g=>d g)) (c ())) (c ())
def Fm (a:Val Â) (k:Bool→Option ρ):Option ρ :=
  Ë (fun(b:Int) c=>ox a.1.2.2.2.2.1 b (fun d=>c d) (fun e=>k e) (fun _=>Ë (fun(f:Int) g=>kJ a.2 f (fun h=>g h) (fun i=>k i) (fun _=>ifb (ile (Ú a.1.2.1) 6) (ifb (ile (Ú a.1.2.2.1) 20) (ifb (ile (Ú a.1.2.2.2.1) 6) (ifb (ile (Ú a.1.2.2.2.2.1) 8) (ifb (ile (Ú a.1.2.2.2.2.2) 6) (k (ile (Ú a.2) 6)) (k false)) (k false)) (k false)) (k false)) (k false))) (0:Int))) (0:Int)
def zc (a:Val Â):Option (Bool):=Fm a some
def rA (b:Val aa) (c:Int) (a:Int) (d:Int→Option ρ) (e:Int→Option ρ) (f:Unit→Option ρ):Option ρ :=
  ifb (ilt a c) (đ b a fun g=>Ä (lr g) fun h=>ifb (!h) (e a) (ck (a+(1:Int)) fun i=>d i)) (f ())
def Li (a:Val Ê) (b:Int) (c:Val aa) (k:Int→Option ρ):Option ρ :=
  Ä (ż a) fun d=>ifb (ine d 0) (k d) (Ë (fun(e:Int) f=>rA c (Ú c) e (fun g=>f g) (fun h=>ifb (ige h 0) (k (1:Int)) (Ä (ļ a) fun i=>MF (k:=tI) (v:=Õ) b i (fun l=>k (0:Int)) (k (5:Int)))) (fun _=>Ä (ļ a) fun j=>MF (k:=tI) (v:=Õ) b j (fun m=>k (0:Int)) (k (5:Int)))) (0:Int))
def EA (a:Val Ê) (b:Int) (c:Val aa):Option (Int):=Li a b c some
def RH (a:Val Ê) (b:Int) (c:Int) (k:Val aH→Option ρ):Option ρ :=
  Ä (EA a b ([c])) fun d=>ifb (ine d 0) (k (false,d)) (Ä (vM a b c) fun e=>k (e.2,(0:Int)))
def zk (a:Val Ê) (b:Int) (c:Int):Option ((Val aH)):=RH a b c some
def m9 (b:Val aa) (a:Int) (c:Int→Option ρ) (d:Int→Option ρ) (e:Unit→Option ρ):Option ρ :=
  ifb (ilt a (Ú b)) (đ b a fun f=>ck (a-(1:Int)) fun g=>đ b g fun h=>ifb (ile f h) (d (1:Int)) (ck (a+(1:Int)) fun i=>c i)) (e ())
def m8 (d:Val ag) (e:Int) (a:Int) (b:Val aW) (f:Int→Val aW→Option ρ) (g:Val aW→Option ρ):Option ρ :=
  ifb (ilt a e) (đ d a fun c=>ck (a+(1:Int)) fun h=>f h (JB (k:=tI) (v:=tI) c.1 c.2.1 b)) (g b)
def mZ (b:Val aa) (c:Int) (d:Val aW) (a:Int) (e:Int→Option ρ) (f:Int→Option ρ) (g:Unit→Option ρ):Option ρ :=
  ifb (ilt a c) (đ b a fun h=>MF (k:=tI) (v:=tI) h d (fun j=>ck (a+(1:Int)) fun i=>e i) (f a)) (g ())
def kr (e:Val aa) (f:Int) (b:Int) (g:Val aW) (a:Int) (c:Int→Option ρ) (d:Int→Option ρ) (h:Unit→Option ρ):Option ρ :=
  ifb (ilt a f) (đ e a fun i=>MF (k:=tI) (v:=tI) i g (fun j=>ifb (ilt b j) (d a) (ck (a+(1:Int)) fun l=>c l)) (ifb (ilt b 0) (d a) (ck (a+(1:Int)) fun m=>c m))) (h ())
def Ń (l:Val aa) (m:Int) (b:Int) (c:Int) (d:Val ag) (e:Val ab) (f:Val ah) (g:Val ae) (h:Val ab) (i:Int) (a:Int) (n:Int→Option ρ) (j:Int→Option ρ) (o:Unit→Option ρ):Option ρ :=
  ifb (ilt a m) (đ l a fun k=>Ä (zk ((b,c),d,e,f,g,h) k i) fun p=>ck (i+(1:Int)) fun q=>Ä (zk ((b,c),d,e,f,g,h) k q) fun r=>ifb p.1 (j a) (ifb r.1 (j a) (ck (a+(1:Int)) fun s=>n s))) (o ())
def J6 (a:Val Ê) (d:Val ai) (c:Int) (k:Int→Option ρ):Option ρ :=
  đ d c fun b=>ifb (ilt b.1 0) (k (1:Int)) (ifb (ige b.1 20000) (k (1:Int)) (ifb (ilt (Ú b.2) 2) (k (1:Int)) (ifb (igt (Ú b.2) 5) (k (1:Int)) (Ë (fun(g:Int) h=>m9 b.2 g (fun i=>h i) (fun j=>k j) (fun _=>Ë (fun(f:(Val (.pair tI aW))) l=>m8 a.2.1 (Ú a.2.1) f.1 f.2 (fun m n=>l (m,n)) (fun e=>Ë (fun(o:Int) p=>mZ b.2 (Ú b.2) e o (fun q=>p q) (fun r=>ifb (ige r 0) (k (5:Int)) (Ë (fun(s:Int) t=>kr b.2 (Ú b.2) b.1 e s (fun u=>t u) (fun v=>ifb (ige v 0) (k (4:Int)) (ifb (igt c 0) (ck (c-(1:Int)) fun w=>đ d w fun x=>ifb (ile b.1 x.1) (k (6:Int)) (Ë (fun(y:Int) z=>Ń b.2 (Ú b.2) a.1.1 a.1.2 a.2.1 a.2.2.1 a.2.2.2.1 a.2.2.2.2.1 a.2.2.2.2.2 b.1 y (fun A=>z A) (fun B=>ifb (ige B 0) (k (9:Int)) (k (0:Int))) (fun _=>k (0:Int))) (0:Int))) (Ë (fun(C:Int) D=>Ń b.2 (Ú b.2) a.1.1 a.1.2 a.2.1 a.2.2.1 a.2.2.2.1 a.2.2.2.2.1 a.2.2.2.2.2 b.1 C (fun E=>D E) (fun F=>ifb (ige F 0) (k (9:Int)) (k (0:Int))) (fun _=>k (0:Int))) (0:Int)))) (fun _=>ifb (igt c 0) (ck (c-(1:Int)) fun G=>đ d G fun H=>ifb (ile b.1 H.1) (k (6:Int)) (Ë (fun(I:Int) J=>Ń b.2 (Ú b.2) a.1.1 a.1.2 a.2.1 a.2.2.1 a.2.2.2.1 a.2.2.2.2.1 a.2.2.2.2.2 b.1 I (fun K=>J K) (fun L=>ifb (ige L 0) (k (9:Int)) (k (0:Int))) (fun _=>k (0:Int))) (0:Int))) (Ë (fun(M:Int) N=>Ń b.2 (Ú b.2) a.1.1 a.1.2 a.2.1 a.2.2.1 a.2.2.2.1 a.2.2.2.2.1 a.2.2.2.2.2 b.1 M (fun O=>N O) (fun P=>ifb (ige P 0) (k (9:Int)) (k (0:Int))) (fun _=>k (0:Int))) (0:Int)))) (0:Int))) (fun _=>Ë (fun(Q:Int) R=>kr b.2 (Ú b.2) b.1 e Q (fun S=>R S) (fun T=>ifb (ige T 0) (k (4:Int)) (ifb (igt c 0) (ck (c-(1:Int)) fun U=>đ d U fun V=>ifb (ile b.1 V.1) (k (6:Int)) (Ë (fun(W:Int) X=>Ń b.2 (Ú b.2) a.1.1 a.1.2 a.2.1 a.2.2.1 a.2.2.2.1 a.2.2.2.2.1 a.2.2.2.2.2 b.1 W (fun Y=>X Y) (fun Z=>ifb (ige Z 0) (k (9:Int)) (k (0:Int))) (fun _=>k (0:Int))) (0:Int))) (Ë (fun(cw:Int) cz=>Ń b.2 (Ú b.2) a.1.1 a.1.2 a.2.1 a.2.2.1 a.2.2.2.1 a.2.2.2.2.1 a.2.2.2.2.2 b.1 cw (fun dc=>cz dc) (fun df=>ifb (ige df 0) (k (9:Int)) (k (0:Int))) (fun _=>k (0:Int))) (0:Int)))) (fun _=>ifb (igt c 0) (ck (c-(1:Int)) fun dg=>đ d dg fun dh=>ifb (ile b.1 dh.1) (k (6:Int)) (Ë (fun(di:Int) dj=>Ń b.2 (Ú b.2) a.1.1 a.1.2 a.2.1 a.2.2.1 a.2.2.2.1 a.2.2.2.2.1 a.2.2.2.2.2 b.1 di (fun dk=>dj dk) (fun dl=>ifb (ige dl 0) (k (9:Int)) (k (0:Int))) (fun _=>k (0:Int))) (0:Int))) (Ë (fun(dm:Int) dt=>Ń b.2 (Ú b.2) a.1.1 a.1.2 a.2.1 a.2.2.1 a.2.2.2.1 a.2.2.2.2.1 a.2.2.2.2.2 b.1 dm (fun du=>dt du) (fun dv=>ifb (ige dv 0) (k (9:Int)) (k (0:Int))) (fun _=>k (0:Int))) (0:Int)))) (0:Int))) (0:Int))) ((0:Int),[]))) (1:Int)))))
def Er (a:Val Ê) (b:Val ai) (c:Int):Option (Int):=J6 a b c some
def nc (c:Int) (b:Int) (a:Int) (d:Int→Int→Option ρ) (e:Int→Option ρ):Option ρ :=
  ifb (ilt a c) (ck (a+(1:Int)) fun f=>ck (b*f) fun g=>ck (a+(1:Int)) fun h=>d g h) (e b)
def qY (e:Val ai) (f:Int) (g:Int) (h:Int) (i:Val ag) (j:Val ab) (k:Val ah) (l:Val ae) (m:Val ab) (n:Val ai) (b:Int) (a:Int) (o:Int→Int→Option ρ) (p:Int→Option ρ) (q:Int→Option ρ):Option ρ :=
  ifb (ilt a f) (đ e a fun r=>Ä (Er ((g,h),i,j,k,l,m) n a) fun c=>ifb (ine c 0) (p c) (Ë (fun(d:Val Ã) s=>nc (Ú r.2) d.1 d.2 (fun t u=>s (t,u)) (fun v=>ck (a+(1:Int)) fun w=>o v w)) (b,(0:Int)))) (q b)
def Kn (a:Val Â) (k:Int→Option ρ):Option ρ :=
  Ä (ż a.1) fun b=>ifb (ine b 0) (k b) (ifb (igt (Ú a.2) 4) (k (2:Int)) (Ë (fun(c:Val Ã) d=>qY a.2 (Ú a.2) a.1.1.1 a.1.1.2 a.1.2.1 a.1.2.2.1 a.1.2.2.2.1 a.1.2.2.2.2.1 a.1.2.2.2.2.2 a.2 c.1 c.2 (fun e f=>d (e,f)) (fun g=>k g) (fun h=>ifb (igt h 150) (k (2:Int)) (k (0:Int)))) ((1:Int),(0:Int))))
def gY (a:Val Â):Option (Int):=Kn a some
def Ĥ (c:Val ab) (d:Int) (e:Int) (f:Int) (a:Int) (g:Int→Option ρ) (h:Int→Option ρ) (i:Unit→Option ρ):Option ρ :=
  ifb (ilt a d) (đ c a fun b=>ifb ((Ca e b.1)&&((Ca f b.2)&&true)) (h a) (ck (a+(1:Int)) fun j=>g j)) (i ())
def Ÿ (a:Val ab) (b:Val Ã) (k:Int→Option ρ):Option ρ :=
  Ë (fun(c:Int) d=>Ĥ a (Ú a) b.1 b.2 c (fun e=>d e) (fun f=>k f) (fun _=>k (-1:Int))) (0:Int)
def ð (a:Val ab) (b:Val Ã):Option (Int):=Ÿ a b some
def yb (b:Val aD) (a:Val aa) (c:Int) (k:Int→Option ρ):Option ρ :=
  ifb (ieq (Ú a) 0) (k (0:Int)) (đ a (0:Int) fun d=>Ä (ð b.2.1 (d,c)) fun e=>ck (e+(1:Int)) fun f=>k f)
def ku (a:Val aD) (b:Val aa) (c:Int):Option (Int):=yb a b c some
def vu (f:Int) (g:Int) (h:Val ah) (i:Int) (j:Int) (b:Int) (a:Int) (d:Int→Int→Option ρ) (k:Int→Option ρ):Option ρ :=
  ifb (ilt a i) (đ h a fun c=>ck (g-(1:Int)) fun l=>ck ((ZA c.2.1.2 l)-(XS c.2.1.1 f)) fun m=>ck (m+1) fun e=>ifb (ieq c.1 j) (ifb (igt e 0) (ck (e*c.2.2) fun n=>ck (b+n) fun o=>ck (a+(1:Int)) fun p=>d o p) (ck (a+(1:Int)) fun q=>d b q)) (ck (a+(1:Int)) fun r=>d b r)) (k b)
def vt (e:Int) (f:Int) (g:Val ab) (h:Int) (i:Int) (a:Int) (b:Val aa) (d:Int→Val aa→Option ρ) (j:Val aa→Option ρ):Option ρ :=
  ifb (ilt a h) (đ g a fun c=>ifb (ieq c.1 i) (ck (f-(1:Int)) fun k=>Ä (ĕ c.2 e k) fun l=>ifb l (ç (î ((List.length b)+(List.length ([c.2])))) (ck (a+(1:Int)) fun m=>d m (b++([c.2])))) (ck (a+(1:Int)) fun n=>d n b)) (ck (a+(1:Int)) fun o=>d o b)) (j b)
def Rm (a:Val Ê) (b:Val Õ) (d:Int) (e:Int) (k:Int→Option ρ):Option ρ :=
  Ë (fun(f:Val Ã) h=>vu d e a.2.2.2.1 (Ú a.2.2.2.1) b.1 f.1 f.2 (fun i j=>h (i,j)) (fun l=>Ë (fun(g:Val œ) m=>vt d e a.2.2.1 (Ú a.2.2.1) b.1 g.1 g.2 (fun n o=>m (n,o)) (fun c=>ç (î (List.length c)) (ç (î (List.length (wM c))) (ck ((Ú (zp (wM c)))*b.2.2.2.2.2) fun p=>ck (l+p) fun q=>k q)))) ((0:Int),[]))) ((0:Int),(0:Int))
def zj (a:Val Ê) (b:Val Õ) (c:Int) (d:Int):Option (Int):=Rm a b c d some
def oe (b:Val am) (a:Val aa) (k:Val Ã→Option ρ):Option ρ :=
  ifb (ieq (Ú a) 0) (k ((0:Int),(1:Int))) (đ a (0:Int) fun c=>MF (k:=tI) (v:=Õ) c b (fun d=>k d.2.2.2.2.1) (k ((0:Int),(0:Int))))
def iC (a:Val am) (b:Val aa):Option (Val Ã):=oe a b some
def rk (b:Val ab) (c:Int) (a:Int) (d:Int→Option ρ) (e:Int→Option ρ) (f:Unit→Option ρ):Option ρ :=
  ifb (ilt a c) (đ b a fun g=>Ä (ue g) fun h=>ifb (!h) (e (1:Int)) (ck (a+(1:Int)) fun i=>d i)) (f ())
def KO (a:Val ab) (k:Int→Option ρ):Option ρ :=
  Ë (fun(b:Int) c=>rk a (Ú a) b (fun d=>c d) (fun e=>k e) (fun _=>k (0:Int))) (0:Int)
def jJ (a:Val ab):Option (Int):=KO a some
def BJ (d:Int) (e:Int) (k:Val Cl→Option ρ):Option ρ :=
  Ä (rO d) fun b=>Ä (rO e) fun c=>Ä (LY b c) fun a=>ifb (Ca a 0) (none) (ifb (Ca a 0) (none) (ifb (igt (IntKind.wrap .u64 (Int.tdiv b a)) 2147483647) (k (((0:Int),(0:Int)),(3:Int))) (ifb (igt (IntKind.wrap .u64 (Int.tdiv c a)) 2147483647) (k (((0:Int),(0:Int)),(3:Int))) (ifb (!((ilt d 0)==(ilt e 0))) (ck (0-(IntKind.wrap .i64 (IntKind.wrap .u64 (Int.tdiv b a)))) fun f=>k ((f,(IntKind.wrap .i64 (IntKind.wrap .u64 (Int.tdiv c a)))),(0:Int))) (k (((IntKind.wrap .i64 (IntKind.wrap .u64 (Int.tdiv b a))),(IntKind.wrap .i64 (IntKind.wrap .u64 (Int.tdiv c a)))),(0:Int)))))))
def pW (a:Int) (b:Int):Option (Val Cl):=BJ a b some
def Xx (a:Val Ã) (b:Val Ã) (k:Val Cl→Option ρ):Option ρ :=
  Ä (jJ ([a,b])) fun c=>ifb (ine c 0) (k (((0:Int),(0:Int)),c)) (ck (a.1*b.2) fun e=>ck (b.1*a.2) fun f=>ck (e-f) fun g=>ck (a.2*b.2) fun h=>Ä (pW g h) fun d=>k (d.1,d.2))
def Sa (a:Val Ã) (b:Val Ã):Option (Val Cl):=Xx a b some
def vl (a:Val Ã) (b:Val Ã) (k:Val Ã→Option ρ):Option ρ :=
  Ä (Sa a b) fun c=>k c.1
def vK (a:Val Ã) (b:Val Ã):Option (Val Ã):=vl a b some
def Xu (a:Val Ã) (b:Val Ã) (k:Int→Option ρ):Option ρ :=
  ck (a.1*b.2) fun c=>ck (b.1*a.2) fun d=>ifb ((Ca a.1 b.1)&&((Ca a.2 b.2)&&true)) (k (0:Int)) (ifb (ilt c d) (k (-1:Int)) (ifb (igt c d) (k (1:Int)) (k (0:Int))))
def LZ (a:Val Ã) (b:Val Ã):Option (Int):=Xu a b some
def sj (a:Val Ė) (k:Bool→Option ρ):Option ρ :=
  Ä (jJ ([a.1,a.2])) fun b=>ifb (ieq b 0) (Ä (LZ a.1 a.2) fun c=>k (ile c 0)) (k false)
def sv (a:Val Ė):Option (Bool):=sj a some
def XA (a:Val Ã) (b:Val Ã) (k:Val Cl→Option ρ):Option ρ :=
  Ä (jJ ([a,b])) fun c=>ifb (ine c 0) (k (((0:Int),(0:Int)),c)) (ck (a.1*b.1) fun e=>ck (a.2*b.2) fun f=>Ä (pW e f) fun d=>k (d.1,d.2))
def L2 (a:Val Ã) (b:Val Ã):Option (Val Cl):=XA a b some
def KW (c:Val Ė) (d:Val Ã) (k:Val ab2→Option ρ):Option ρ :=
  Ä (sv c) fun e=>ifb (!e) (k ((((0:Int),(0:Int)),(0:Int),(0:Int)),(1:Int))) (Ä (ue d) fun f=>ifb (!f) (k ((((0:Int),(0:Int)),(0:Int),(0:Int)),(1:Int))) (Ä (L2 d c.1) fun a=>ifb (ine a.2 0) (k ((((0:Int),(0:Int)),(0:Int),(0:Int)),a.2)) (Ä (L2 d c.2) fun b=>ifb (ine b.2 0) (k ((((0:Int),(0:Int)),(0:Int),(0:Int)),b.2)) (Ä (LZ a.1 b.1) fun g=>ifb (igt g 0) (k ((b.1,a.1),(0:Int))) (k ((a.1,b.1),(0:Int)))))))
def L1 (a:Val Ė) (b:Val Ã):Option (Val ab2):=KW a b some
def vk (b:Val Ã) (a:Val Ã) (k:Val Ė→Option ρ):Option ρ :=
  Ä (L1 ((a.1,(1:Int)),a.2,(1:Int)) b) fun c=>k c.1
def oM (a:Val Ã) (b:Val Ã):Option (Val Ė):=vk a b some
def F3 (c:Val Ê) (a:Val â) (k:Val Ė→Option ρ):Option ρ :=
  Ä (ļ c) fun b=>Ä (Τ a.2.2.1 a.2.2.2.1) fun d=>Ä (iC b d) fun e=>Ä (Τ a.2.2.2.1 a.2.2.1) fun f=>Ä (iC b f) fun g=>Ä (vK e g) fun h=>Ä (oM h a.2.2.2.2.2.2) fun i=>k i
def ug (a:Val Ê) (b:Val â):Option (Val Ė):=F3 a b some
def Lg (a:Val Ê) (b:Val â) (k:Val Ã→Option ρ):Option ρ :=
  ck ((Ú b.2.2.1)-(1:Int)) fun c=>ck ((Ú b.2.2.2.1)-(1:Int)) fun d=>ck ((XS (0:Int) c)*a.1.1) fun e=>ck ((XS (0:Int) d)*a.1.2) fun f=>ck (e-f) fun g=>ck ((XS (0:Int) c)*a.1.2) fun h=>ck ((XS (0:Int) d)*a.1.1) fun i=>ck (h-i) fun j=>k (g,j)
def yq (a:Val Ê) (b:Val â):Option (Val Ã):=Lg a b some
def KT (b:Int) (a:Int) (k:Int→Option ρ):Option ρ :=
  ifb (Ca a 0) (none) (ck (Int.tdiv b a) fun c=>ifb (Ca a 0) (none) (ifb (ilt (Int.tmod b a) 0) (ck (c-1) fun d=>k d) (k c)))
def yp (a:Int) (b:Int):Option (Int):=KT a b some
def Rg (a:Val Ã) (k:Val Ã→Option ρ):Option ρ :=
  Ä (jJ ([a])) fun b=>ifb (ine b 0) (k ((0:Int),b)) (ck (0-a.1) fun c=>Ä (yp c a.2) fun d=>ck (0-d) fun e=>k (e,(0:Int)))
def IY (a:Val Ã):Option (Val Ã):=Rg a some
def KY (a:Val Ã) (k:Val Ã→Option ρ):Option ρ :=
  Ä (jJ ([a])) fun b=>ifb (ine b 0) (k ((0:Int),b)) (Ä (yp a.1 a.2) fun c=>k (c,(0:Int)))
def Ey (a:Val Ã):Option (Val Ã):=KY a some
def Ri (b:Val Ê) (a:Val â) (k:Val Ã→Option ρ):Option ρ :=
  Ä (ug b a) fun c=>Ä (yq b a) fun d=>Ä (Ey c.2) fun e=>Ä (IY c.1) fun f=>ck (a.2.2.2.2.1-a.2.2.2.2.2.1) fun g=>ck (g-d.2) fun h=>ck (h-e.1) fun i=>ck (a.2.2.2.2.1+a.2.2.2.2.2.1) fun j=>ck (j-d.1) fun l=>ck (l-f.1) fun m=>k (i,m)
def zi (a:Val Ê) (b:Val â):Option (Val Ã):=Ri a b some
def vq (b:Int) (e:Val aa) (h:Int) (j:Int) (k:Int) (l:Val ag) (m:Val ab) (n:Val ah) (o:Val ae) (p:Val ab) (q:Int) (r:Int) (s:Int) (t:Int) (u:Int) (v:Int) (w:Int) (x:Int) (a:Int) (f:Val ak) (g:Val ab) (y:Int→Val ak→Val ab→Option ρ) (z:Val Ck→Option ρ):Option ρ :=
  ifb (ilt a (Ú e)) (ck (h+a) fun A=>ck (A-1) fun c=>ck (h+a) fun d=>ck (a-(1:Int)) fun B=>đ e B fun C=>đ e a fun D=>Ä (zj ((j,k),l,m,n,o,p) (q,r,s,(t,u),(v,w),x) C D) fun E=>ck (0-E) fun F=>ck (0-F) fun i=>ç (î ((List.length f)+(List.length ([(c,d,(0:Int)),(d,c,i)])))) (ç (î ((List.length g)+(List.length ([((2:Int),b),((2:Int),b)])))) (ck (a+(1:Int)) fun G=>y G (f++([(c,d,(0:Int)),(d,c,i)])) (g++([((2:Int),b),((2:Int),b)]))))) (z (f,g))
def vr (q:Val ag) (r:Int) (f:Int) (g:Int) (h:Val ag) (i:Val ab) (j:Val ah) (k:Val ae) (l:Val ab) (s:Val ab) (t:Int) (b:Int) (d:Val ak) (e:Val ab) (u:Int→Val ak→Val ab→Option ρ) (v:Val Ck→Option ρ):Option ρ :=
  ifb (ilt b r) (đ q b fun a=>Ä (oN ((f,g),h,i,j,k,l) a) fun w=>Ä (ku (((f,g),h,i,j,k,l),s,(t,d),e) ([a.1]) a.2.1) fun c=>ck (a.2.2.1+a.2.2.2.1.1) fun x=>ck (a.2.2.1+a.2.2.2.1.2) fun n=>ck (0-x) fun o=>ç (î ((List.length d)+(List.length ([((0:Int),c,n),(c,(0:Int),o)])))) (ç (î ((List.length e)+(List.length ([((1:Int),b),((1:Int),b)])))) (Ë (fun(m:(Val (.pair tI Ck))) y=>vq b w c f g h i j k l a.1 a.2.1 a.2.2.1 a.2.2.2.1.1 a.2.2.2.1.2 a.2.2.2.2.1.1 a.2.2.2.2.1.2 a.2.2.2.2.2 m.1 m.2.1 m.2.2 (fun z A B=>y (z,A,B)) (fun p=>ck (b+(1:Int)) fun C=>u C p.1 p.2)) ((1:Int),(d++([((0:Int),c,n),(c,(0:Int),o)])),(e++([((1:Int),b),((1:Int),b)])))))) (v (d,e))
def vp (r:Val ae) (s:Int) (g:Int) (h:Int) (i:Val ag) (j:Val ab) (k:Val ah) (l:Val ae) (m:Val ab) (o:Val ab) (p:Int) (a:Int) (c:Val ak) (d:Val ab) (t:Int→Val ak→Val ab→Option ρ) (u:Val Ck→Option ρ):Option ρ :=
  ifb (ilt a s) (đ r a fun b=>Ä (Τ b.2.2.2.1 b.2.2.1) fun v=>Ä (ku (((g,h),i,j,k,l,m),o,(p,c),d) v b.2.1) fun e=>Ä (Τ b.2.2.1 b.2.2.2.1) fun w=>Ä (ku (((g,h),i,j,k,l,m),o,(p,c),d) w b.2.1) fun f=>Ä (zi ((g,h),i,j,k,l,m) b) fun n=>ck (0-n.1) fun q=>ç (î ((List.length c)+(List.length ([(e,f,n.2),(f,e,q)])))) (ç (î ((List.length d)+(List.length ([((3:Int),a),((3:Int),a)])))) (ck (a+(1:Int)) fun x=>t x (c++([(e,f,n.2),(f,e,q)])) (d++([((3:Int),a),((3:Int),a)]))))) (u (c,d))
def Rl (a:Val Ê) (k:Val aD→Option ρ):Option ρ :=
  Ä (pX a) fun b=>ck ((Ú b)+(1:Int)) fun c=>Ë (fun(d:(Val (.pair tI Ck))) h=>vr a.2.1 (Ú a.2.1) a.1.1 a.1.2 a.2.1 a.2.2.1 a.2.2.2.1 a.2.2.2.2.1 a.2.2.2.2.2 b c d.1 d.2.1 d.2.2 (fun i j l=>h (i,j,l)) (fun f=>Ë (fun(e:(Val (.pair tI Ck))) m=>vp a.2.2.2.2.1 (Ú a.2.2.2.2.1) a.1.1 a.1.2 a.2.1 a.2.2.1 a.2.2.2.1 a.2.2.2.2.1 a.2.2.2.2.2 b c e.1 e.2.1 e.2.2 (fun n o p=>m (n,o,p)) (fun g=>k (a,b,(c,g.1),g.2))) ((0:Int),f.1,f.2))) ((0:Int),[],[])
def Ez (a:Val Ê):Option ((Val aD)):=Rl a some
def F7 (a:Val Ê) (k:(Val (.pair Ì bg))→Option ρ):Option ρ :=
  Ä (ż a) fun b=>ifb (ine b 0) (k (((0:Int),[]),[],b)) (Ä (Ez a) fun c=>k (c.2.2.1,c.2.2.2,(0:Int)))
def g9 (a:Val Ê):Option ((Val (.pair Ì bg))):=F7 a some
def yM (f:Val aj) (g:Int) (d:Val ai) (b:Int) (a:Int) (c:Int→Int→Option ρ) (h:Int→Option ρ):Option ρ :=
  ifb (ige a 0) (đ f a fun i=>Ä (gZ i b) fun e=>ifb (ige e 0) (đ d a fun j=>ifb (ilt j.1 g) (đ d a fun k=>đ k.2 e fun l=>ck (a-(1:Int)) fun m=>c l m) (ck (a-(1:Int)) fun n=>c b n)) (ck (a-(1:Int)) fun o=>c b o)) (h b)
def WZ (a:Val Â) (c:Val aj) (d:Int) (e:Int) (k:Int→Option ρ):Option ρ :=
  ck ((Ú a.2)-(1:Int)) fun f=>Ë (fun(b:Val Ã) g=>yM c e a.2 b.1 b.2 (fun h i=>g (h,i)) (fun j=>k j)) (d,f)
def su (a:Val Â) (b:Val aj) (c:Int) (d:Int):Option (Int):=WZ a b c d some
def iM (d:Int) (e:Val ar) (f:Val aG) (g:Val aa) (h:Int) (a:Int) (b:Val aa) (i:Int→Val aa→Option ρ) (j:Val aa→Option ρ):Option ρ :=
  ifb (ilt a h) (đ g a fun k=>Ä (su e f k d) fun c=>ç (î ((List.length b)+(List.length ([c])))) (ck (a+(1:Int)) fun l=>i l (b++([c])))) (j b)
def pr (a:Val aa) (d:Int) (e:Val ar) (f:Val aG) (k:Val aa→Option ρ):Option ρ :=
  Ë (fun(b:Val œ) g=>iM d e f a (Ú a) b.1 b.2 (fun h i=>g (h,i)) (fun c=>ç (î (List.length c)) (k (wM c)))) ((0:Int),[])
def i6 (a:Val aa) (b:Int) (c:Val ar) (d:Val aG):Option ((Val aa)):=pr a b c d some
def jT (e:Val ar) (f:Val aG) (g:Val ab) (h:Int) (b:Int) (c:Val ab) (i:Int→Val ab→Option ρ) (j:Val ab→Option ρ):Option ρ :=
  ifb (ilt b h) (đ g b fun a=>Ä (su e f a.1 a.2) fun d=>ç (î ((List.length c)+(List.length ([(d,a.2)])))) (ck (b+(1:Int)) fun k=>i k (c++([(d,a.2)])))) (j c)
def jS (e:Val ar) (f:Val aG) (g:Val ah) (h:Int) (b:Int) (c:Val ah) (i:Int→Val ah→Option ρ) (j:Val ah→Option ρ):Option ρ :=
  ifb (ilt b h) (đ g b fun a=>Ä (su e f a.1 a.2.1.1) fun d=>ç (î ((List.length c)+(List.length ([(d,a.2)])))) (ck (b+(1:Int)) fun k=>i k (c++([(d,a.2)])))) (j c)
def jR (d:Val ar) (e:Val aG) (h:Val ae) (i:Int) (b:Int) (c:Val ae) (j:Int→Val ae→Option ρ) (k:Val ae→Option ρ):Option ρ :=
  ifb (ilt b i) (đ h b fun a=>Ä (i6 a.2.2.1 a.2.1 d e) fun f=>Ä (i6 a.2.2.2.1 a.2.1 d e) fun g=>ç (î ((List.length c)+(List.length ([(a.1,a.2.1,f,g,a.2.2.2.2)])))) (ck (b+(1:Int)) fun l=>j l (c++([(a.1,a.2.1,f,g,a.2.2.2.2)])))) (k c)
def jQ (e:Val ar) (f:Val aG) (g:Val ab) (h:Int) (b:Int) (c:Val ab) (i:Int→Val ab→Option ρ) (j:Val ab→Option ρ):Option ρ :=
  ifb (ilt b h) (đ g b fun a=>Ä (su e f a.1 a.2) fun d=>ç (î ((List.length c)+(List.length ([(d,a.2)])))) (ck (b+(1:Int)) fun k=>i k (c++([(d,a.2)])))) (j c)
def uJ (a:Val Â) (b:Val aj) (k:Val Ê→Option ρ):Option ρ :=
  ç (î (List.length a.1.2.1)) (Ë (fun(c:Val ba) g=>jT a b a.1.2.2.1 (Ú a.1.2.2.1) c.1 c.2 (fun h i=>g (h,i)) (fun j=>Ë (fun(d:(Val (.pair tI ah))) l=>jS a b a.1.2.2.2.1 (Ú a.1.2.2.2.1) d.1 d.2 (fun m n=>l (m,n)) (fun o=>Ë (fun(e:Val aT) p=>jR a b a.1.2.2.2.2.1 (Ú a.1.2.2.2.2.1) e.1 e.2 (fun q r=>p (q,r)) (fun s=>Ë (fun(f:Val ba) t=>jQ a b a.1.2.2.2.2.2 (Ú a.1.2.2.2.2.2) f.1 f.2 (fun u v=>t (u,v)) (fun w=>k (a.1.1,a.1.2.1,j,o,s,w))) ((0:Int),[]))) ((0:Int),[]))) ((0:Int),[]))) ((0:Int),[]))
def Ū (a:Val Â) (b:Val aj):Option (Val Ê):=uJ a b some
def QM (b:Val Ì) (a:Int) (k:Bool→Option ρ):Option ρ :=
  ifb (ige a 0) (k (ilt a b.1)) (k false)
def zh (a:Val Ì) (b:Int):Option (Bool):=QM a b some
def rj (f:Val ak) (g:Int) (d:Int) (e:Val ak) (a:Int) (h:Int→Option ρ) (c:Val Ã→Option ρ) (i:Unit→Option ρ):Option ρ :=
  ifb (ilt a g) (đ f a fun b=>Ä (zh (d,e) b.1) fun j=>ifb (!j) (c ((1:Int),a)) (Ä (zh (d,e) b.2.1) fun k=>ifb (!k) (c ((1:Int),a)) (ifb (ieq b.1 b.2.1) (c ((1:Int),a)) (ifb (ilt b.2.2 (-4503599627370496:Int)) (c ((1:Int),a)) (ifb (igt b.2.2 4503599627370496) (c ((1:Int),a)) (ck (a+(1:Int)) fun l=>h l)))))) (i ())
def KK (a:Val Ì) (k:Val Ã→Option ρ):Option ρ :=
  ifb (ilt a.1 1) (k ((1:Int),(-1:Int))) (ifb (igt a.1 60) (k ((1:Int),(-1:Int))) (ifb (igt (Ú a.2) 300) (k ((2:Int),(-1:Int))) (Ë (fun(c:Int) d=>rj a.2 (Ú a.2) a.1 a.2 c (fun e=>d e) (fun b=>k (b.1,b.2)) (fun _=>k ((0:Int),(-1:Int)))) (0:Int))))
def nS (a:Val Ì):Option (Val Ã):=KK a some
def gX (c:Val ak) (d:Int) (b:Int) (a:Int) (e:Int→Int→Option ρ) (f:Int→Option ρ):Option ρ :=
  ifb (ilt a d) (đ c a fun g=>ck (b+(ZA g.2.2 (0:Int))) fun h=>ck (a+(1:Int)) fun i=>e h i) (f b)
def Ř (f:Int) (d:Val aa) (a:Int) (b:Val aq) (c:Val aa) (e:Int→Val aq→Val aa→Option ρ) (g:Val aM→Option ρ):Option ρ :=
  ifb (ilt a f) (ç ((ile 0 a)&&(ilt a (ñ d))) (ł d (Int.toNat a) fun h=>ifb (ine h 1152921504606846976) (ç (î ((List.length c)+(List.length ([a])))) (ç ((ile 0 a)&&(ilt a (ñ b))) (ł b (Int.toNat a) fun k=>ck (a+(1:Int)) fun i=>e i (List.set b (Int.toNat a) true) (c++([a]))))) (ck (a+(1:Int)) fun j=>e j b c))) (g (b,c))
def iX (m:Val ao) (j:Int) (d:Int) (n:Val ak) (o:Int) (f:Int) (b:Val aa) (c:Val aq) (e:Val aa) (g:Int→Val aa→Val aq→Val aa→Option ρ) (l:(Val (.pair .bool (.pair aa aM)))→Option ρ) (p:(Val (.pair aa aM))→Option ρ):Option ρ :=
  ifb (ilt f o) (đ n f fun a=>ifb (ine a.1 d) (ck (f+(1:Int)) fun q=>g q b c e) (MF (k:=tI) (v:=.bool) f m (fun r=>ifb r (ck (f+(1:Int)) fun s=>g s b c e) (ç ((ile 0 d)&&(ilt d (ñ b))) (ł b (Int.toNat d) fun t=>ck (t+a.2.2) fun u=>ç ((ile 0 a.2.1)&&(ilt a.2.1 (ñ b))) (ł b (Int.toNat a.2.1) fun w=>ifb (ige u w) (ck (f+(1:Int)) fun x=>g x b c e) (ç ((ile 0 d)&&(ilt d (ñ b))) (ł b (Int.toNat d) fun y=>ck (y+a.2.2) fun h=>ç ((ile 0 a.2.1)&&(ilt a.2.1 (ñ b))) (ł b (Int.toNat a.2.1) fun M=>ç ((ile 0 a.2.1)&&(ilt a.2.1 (ñ (List.set b (Int.toNat a.2.1) h)))) (ł (List.set b (Int.toNat a.2.1) h) (Int.toNat a.2.1) fun z=>ifb (ilt z j) (l (false,(List.set b (Int.toNat a.2.1) h),c,e)) (ç ((ile 0 a.2.1)&&(ilt a.2.1 (ñ c))) (ł c (Int.toNat a.2.1) fun A=>ifb (!A) (ç (î ((List.length e)+(List.length ([a.2.1])))) (ç ((ile 0 a.2.1)&&(ilt a.2.1 (ñ c))) (ł c (Int.toNat a.2.1) fun N=>ck (f+(1:Int)) fun B=>g B (List.set b (Int.toNat a.2.1) h) (List.set c (Int.toNat a.2.1) true) (e++([a.2.1]))))) (ck (f+(1:Int)) fun C=>g C (List.set b (Int.toNat a.2.1) h) c e))))))))))) (ç ((ile 0 d)&&(ilt d (ñ b))) (ł b (Int.toNat d) fun D=>ck (D+a.2.2) fun E=>ç ((ile 0 a.2.1)&&(ilt a.2.1 (ñ b))) (ł b (Int.toNat a.2.1) fun F=>ifb (ige E F) (ck (f+(1:Int)) fun G=>g G b c e) (ç ((ile 0 d)&&(ilt d (ñ b))) (ł b (Int.toNat d) fun H=>ck (H+a.2.2) fun i=>ç ((ile 0 a.2.1)&&(ilt a.2.1 (ñ b))) (ł b (Int.toNat a.2.1) fun O=>ç ((ile 0 a.2.1)&&(ilt a.2.1 (ñ (List.set b (Int.toNat a.2.1) i)))) (ł (List.set b (Int.toNat a.2.1) i) (Int.toNat a.2.1) fun I=>ifb (ilt I j) (l (false,(List.set b (Int.toNat a.2.1) i),c,e)) (ç ((ile 0 a.2.1)&&(ilt a.2.1 (ñ c))) (ł c (Int.toNat a.2.1) fun J=>ifb (!J) (ç (î ((List.length e)+(List.length ([a.2.1])))) (ç ((ile 0 a.2.1)&&(ilt a.2.1 (ñ c))) (ł c (Int.toNat a.2.1) fun P=>ck (f+(1:Int)) fun K=>g K (List.set b (Int.toNat a.2.1) i) (List.set c (Int.toNat a.2.1) true) (e++([a.2.1]))))) (ck (f+(1:Int)) fun L=>g L (List.set b (Int.toNat a.2.1) i) c e)))))))))))) (p (b,c,e))
def Ħ (l:Val ao) (m:Int) (n:Int) (k:Val ak) (h:Val aa) (d:Val aq) (b:Val aa) (c:Val aa) (o:Val aa→Val aq→Val aa→Val aa→Option ρ) (i:(Val (.pair .bool aO))→Option ρ):Option ρ :=
  ifb (ieq (Ú c) 0) (i (true,h,d,b,c)) (ç (ilt 0 (ñ c)) (ł c 0 fun a=>ç (ile 1 (ñ c)) (ç (decide (1+(List.length c-1)=List.length c)) (ç ((ile 0 a)&&(ilt a (ñ d))) (ł d (Int.toNat a) fun x=>ç ((ile 0 a)&&(ilt a (ñ b))) (ł b (Int.toNat a) fun p=>ck (p+(1:Int)) fun e=>ç ((ile 0 a)&&(ilt a (ñ b))) (ł b (Int.toNat a) fun y=>ç ((ile 0 a)&&(ilt a (ñ (List.set b (Int.toNat a) e)))) (ł (List.set b (Int.toNat a) e) (Int.toNat a) fun q=>ck (n+(1:Int)) fun r=>ifb (igt q r) (i (false,h,(List.set d (Int.toNat a) false),(List.set b (Int.toNat a) e),(List.drop 1 c))) (Ë (fun(f:(Val (.pair tI (.pair aa aM)))) s=>iX l m a k (Ú k) f.1 f.2.1 f.2.2.1 f.2.2.2 (fun t u v w=>s (t,u,v,w)) (fun g=>i (g.1,g.2.1,g.2.2.1,(List.set b (Int.toNat a) e),g.2.2.2)) (fun j=>o j.1 j.2.1 (List.set b (Int.toNat a) e) j.2.2)) ((0:Int),h,(List.set d (Int.toNat a) false),(List.drop 1 c)))))))))))
def iW (c:Int) (d:Int) (a:Int) (b:Val aa) (e:Int→Val aa→Option ρ) (f:Val aa→Option ρ):Option ρ :=
  ifb (ilt a d) (ç ((ile 0 a)&&(ilt a (ñ b))) (ł b (Int.toNat a) fun g=>ck (g-c) fun h=>ç ((ile 0 a)&&(ilt a (ñ b))) (ł b (Int.toNat a) fun j=>ck (a+(1:Int)) fun i=>e i (List.set b (Int.toNat a) h)))) (f b)
def xJ (a:Val Ì) (h:Val ao) (k:(Val (.pair aa .bool))→Option ρ):Option ρ :=
  ç ((ile 0 a.1)&&(î (Int.toNat a.1))) (ç ((ile 0 a.1)&&(î (Int.toNat a.1))) (ç ((ile 0 a.1)&&(î (Int.toNat a.1))) (Ë (fun(e:Val Ã) i=>gX a.2 (Ú a.2) e.1 e.2 (fun j l=>i (j,l)) (fun m=>Ë (fun(d:(Val (.pair tI aM))) n=>Ř a.1 (List.replicate (Int.toNat a.1) (0:Int)) d.1 d.2.1 d.2.2 (fun o p q=>n (o,p,q)) (fun f=>Ë (fun(c:Val aO) r=>Ħ h m a.1 a.2 c.1 c.2.1 c.2.2.1 c.2.2.2 (fun s t u v=>r (s,t,u,v)) (fun b=>ifb (!b.1) (k ([],false)) (ç (ilt 0 (ñ b.2.1)) (ł b.2.1 0 fun w=>Ë (fun(g:Val œ) x=>iW w (Ú b.2.1) g.1 g.2 (fun y z=>x (y,z)) (fun A=>k (A,true))) ((0:Int),b.2.1))))) ((List.replicate (Int.toNat a.1) (0:Int)),f.1,(List.replicate (Int.toNat a.1) (0:Int)),f.2))) ((0:Int),(List.replicate (Int.toNat a.1) false),[]))) ((0:Int),(0:Int)))))
def i7 (a:Val Ì) (b:Val ao):Option ((Val (.pair aa .bool))):=xJ a b some
def sh (a:Val Ì) (k:Val aH→Option ρ):Option ρ :=
  Ä (nS a) fun b=>ifb (ine b.1 0) (k (false,b.1)) (Ä (i7 a ([])) fun c=>k (c.2,(0:Int)))
def mP (a:Val Ì):Option ((Val aH)):=sh a some
def xp (a:Val Â) (b:Val aj) (k:Bool→Option ρ):Option ρ :=
  Ä (Ū a b) fun c=>Ä (g9 c) fun d=>Ä (mP d.1) fun e=>k e.1
def Ρ (a:Val Â) (b:Val aj):Option (Bool):=xp a b some
def oy (d:Int) (e:Val aa) (f:Int) (g:Val ai) (b:Int) (a:Int) (c:Int→Int→Option ρ) (h:Int→Option ρ):Option ρ :=
  ifb (ilt a f) (đ e a fun i=>đ g d fun j=>đ j.2 a fun k=>ifb (ine k i) (ck (b+(1:Int)) fun l=>ck (a+(1:Int)) fun m=>c l m) (ck (a+(1:Int)) fun n=>c b n)) (h b)
def oz (e:Val aj) (f:Int) (g:Val ai) (b:Int) (a:Int) (h:Int→Int→Option ρ) (i:Int→Option ρ):Option ρ :=
  ifb (ilt a f) (đ e a fun c=>Ë (fun(d:Val Ã) j=>oy a c (Ú c) g d.1 d.2 (fun k l=>j (k,l)) (fun m=>ck (a+(1:Int)) fun n=>h m n)) (b,(0:Int))) (i b)
def Fq (c:Val Â) (a:Val aj) (k:Int→Option ρ):Option ρ :=
  Ë (fun(b:Val Ã) d=>oz a (Ú a) c.2 b.1 b.2 (fun e f=>d (e,f)) (fun g=>k g)) ((0:Int),(0:Int))
def ĭ (a:Val Â) (b:Val aj):Option (Int):=Fq a b some
def pN (a:Int) (k:Bool→Option ρ):Option ρ :=
  k (ine a a)
def lq (a:Int):Option (Bool):=pN a some
def mu (a:Int) (b:Int) (k:Int→Option ρ):Option ρ :=
  Ä (lq a) fun d=>Ä (lq b) fun c=>ifb d (ifb c (k (0:Int)) (k (-1:Int))) (ifb c (k (1:Int)) (ifb (ilt a b) (k (-1:Int)) (ifb (igt a b) (k (1:Int)) (k (0:Int)))))
def g8 (a:Int) (b:Int):Option (Int):=mu a b some
def Fs (b:Val aj) (c:Val aj) (a:Val ar) (k:Int→Option ρ):Option ρ :=
  Ä (ĭ a b) fun d=>Ä (ĭ a c) fun e=>Ä (g8 d e) fun f=>k f
def ji (a:Val aj) (b:Val aj) (c:Val ar):Option (Int):=Fs a b c some
def æ (h:Int) (i:Int) (j:Int) (k:Val ag) (l:Val ab) (m:Val ah) (n:Val ae) (o:Val ab) (p:Val ai) (a:Int) (b:Val af) (q:Int→Val af→Option ρ) (g:Val af→Option ρ):Option ρ :=
  ifb (igt a h) (ç ((ile 0 a)&&(ilt a (ñ b))) (ł b (Int.toNat a) fun r=>ck (a-(1:Int)) fun d=>ç ((ile 0 d)&&(ilt d (ñ b))) (ł b (Int.toNat d) fun s=>Ä (ji r s (((i,j),k,l,m,n,o),p)) fun t=>ifb (ilt t 0) (ck (a-(1:Int)) fun c=>ck (a-(1:Int)) fun e=>ç ((ile 0 e)&&(ilt e (ñ b))) (ł b (Int.toNat e) fun f=>ç ((ile 0 a)&&(ilt a (ñ b))) (ł b (Int.toNat a) fun u=>ç ((ile 0 a)&&(ilt a (ñ b))) (ł b (Int.toNat a) fun w=>ç ((ile 0 c)&&(ilt c (ñ (List.set b (Int.toNat a) f)))) (ł (List.set b (Int.toNat a) f) (Int.toNat c) fun x=>ck (a-(1:Int)) fun v=>q v (List.set (List.set b (Int.toNat a) f) (Int.toNat c) u)))))) (g b)))) (g b)
def ĉ (d:Int) (e:Int) (f:Int) (g:Int) (h:Val ag) (i:Val ab) (j:Val ah) (k:Val ae) (l:Val ab) (m:Val ai) (a:Int) (b:Val af) (n:Int→Val af→Option ρ) (o:Val af→Option ρ):Option ρ :=
  ifb (ilt a e) (Ë (fun(c:Val az) p=>æ d f g h i j k l m c.1 c.2 (fun q r=>p (q,r)) (fun s=>ck (a+(1:Int)) fun t=>n t s)) (a,b)) (o b)
def Ũ (c:Val af) (a:Int) (d:Int) (mm:Val Â) (k:((Val af))×(Val Â)→Option ρ):Option ρ :=
  ck (a+(1:Int)) fun e=>Ë (fun(b:Val az) f=>ĉ a d mm.1.1.1 mm.1.1.2 mm.1.2.1 mm.1.2.2.1 mm.1.2.2.2.1 mm.1.2.2.2.2.1 mm.1.2.2.2.2.2 mm.2 b.1 b.2 (fun g h=>f (g,h)) (fun i=>k (i,mm))) (e,c)
def ä (a:Val af) (b:Int) (c:Int) (mm:Val Â):Option (((Val af))×(Val Â)):=Ũ a b c mm some
def Ĉ (h:Int) (i:Int) (j:Int) (b:Int) (a:Val af) (k:Int→Val af→Option ρ) (l:Val af→Option ρ):Option ρ :=
  ifb (ilt b j) (ck (h+b) fun c=>ck (i+b) fun d=>ck (i+b) fun e=>ç ((ile 0 e)&&(ilt e (ñ a))) (ł a (Int.toNat e) fun f=>ck (h+b) fun g=>ç ((ile 0 g)&&(ilt g (ñ a))) (ł a (Int.toNat g) fun m=>ç ((ile 0 c)&&(ilt c (ñ a))) (ł a (Int.toNat c) fun o=>ç ((ile 0 d)&&(ilt d (ñ (List.set a (Int.toNat c) f)))) (ł (List.set a (Int.toNat c) f) (Int.toNat d) fun p=>ck (b+(1:Int)) fun n=>k n (List.set (List.set a (Int.toNat c) f) (Int.toNat d) m)))))) (l a)
def gW (h:Int) (i:Int) (j:Int) (b:Int) (a:Val af) (k:Int→Val af→Option ρ) (l:Val af→Option ρ):Option ρ :=
  ifb (ilt b j) (ck (h+b) fun c=>ck (i+b) fun d=>ck (i+b) fun e=>ç ((ile 0 e)&&(ilt e (ñ a))) (ł a (Int.toNat e) fun f=>ck (h+b) fun g=>ç ((ile 0 g)&&(ilt g (ñ a))) (ł a (Int.toNat g) fun m=>ç ((ile 0 c)&&(ilt c (ñ a))) (ł a (Int.toNat c) fun o=>ç ((ile 0 d)&&(ilt d (ñ (List.set a (Int.toNat c) f)))) (ł (List.set a (Int.toNat c) f) (Int.toNat d) fun p=>ck (b+(1:Int)) fun n=>k n (List.set (List.set a (Int.toNat c) f) (Int.toNat d) m)))))) (l a)
def Ĭ (c:Int) (a:Int) (b:Int) (d:Val af) (e:Int→Int→Val af→Option ρ) (h:Val az→Option ρ):Option ρ :=
  ifb (ine a b) (ifb (igt a b) (ck (c-a) fun i=>Ë (fun(f:Val az) j=>Ĉ i c b f.1 f.2 (fun k l=>j (k,l)) (fun m=>ck (a-b) fun n=>e n b m)) ((0:Int),d)) (ck (c-a) fun o=>ck (c+b) fun p=>ck (p-a) fun q=>Ë (fun(g:Val az) r=>gW o q a g.1 g.2 (fun s t=>r (s,t)) (fun u=>ck (b-a) fun v=>e a v u)) ((0:Int),d))) (h (a,d))
def gT (h:Int) (i:Int) (j:Int) (b:Int) (a:Val af) (k:Int→Val af→Option ρ) (l:Val af→Option ρ):Option ρ :=
  ifb (ilt b j) (ck (h+b) fun c=>ck (i+b) fun d=>ck (i+b) fun e=>ç ((ile 0 e)&&(ilt e (ñ a))) (ł a (Int.toNat e) fun f=>ck (h+b) fun g=>ç ((ile 0 g)&&(ilt g (ñ a))) (ł a (Int.toNat g) fun m=>ç ((ile 0 c)&&(ilt c (ñ a))) (ł a (Int.toNat c) fun o=>ç ((ile 0 d)&&(ilt d (ñ (List.set a (Int.toNat c) f)))) (ł (List.set a (Int.toNat c) f) (Int.toNat d) fun p=>ck (b+(1:Int)) fun n=>k n (List.set (List.set a (Int.toNat c) f) (Int.toNat d) m)))))) (l a)
def iV (e:Val af) (f:Int) (a:Int) (g:Int) (mm:Val Â) (k:((Val af))×(Val Â)→Option ρ):Option ρ :=
  ck (a-f) fun h=>ck (g-a) fun i=>Ë (fun(b:(Val (.pair tI az))) j=>Ĭ a b.1 b.2.1 b.2.2 (fun l m n=>j (l,m,n)) (fun c=>ck (a-c.1) fun o=>Ë (fun(d:Val az) p=>gT o a c.1 d.1 d.2 (fun q r=>p (q,r)) (fun s=>k (s,mm))) ((0:Int),c.2))) (h,i,e)
def į (a:Val af) (b:Int) (c:Int) (d:Int) (mm:Val Â):Option (((Val af))×(Val Â)):=iV a b c d mm some
def ô (rec:Val af→Int→Int→Int→Val Â→Option ((Val af)×(Val Â))) (d:Int) (b:Val af) (g:Int) (h:Int) (i:Val ag) (j:Val ab) (k:Val ah) (l:Val ae) (m:Val ab) (n:Val ai) (c:Int) (e:Int) (f:Int→Int→Option ρ) (o:Int→Option ρ):Option ρ :=
  ifb (ilt c e) (ck (c+e) fun a=>ç ((ile 0 (IntKind.wrap .i64 (ii .u64 (IntKind.wrap .u64 a) (1:Int))))&&(ilt (IntKind.wrap .i64 (ii .u64 (IntKind.wrap .u64 a) (1:Int))) (ñ b))) (ł b (Int.toNat (IntKind.wrap .i64 (ii .u64 (IntKind.wrap .u64 a) (1:Int)))) fun p=>ç ((ile 0 d)&&(ilt d (ñ b))) (ł b (Int.toNat d) fun q=>Ä (ji p q (((g,h),i,j,k,l,m),n)) fun r=>ifb (ilt r 0) (ck ((IntKind.wrap .i64 (ii .u64 (IntKind.wrap .u64 a) (1:Int)))+(1:Int)) fun s=>f s e) (f c (IntKind.wrap .i64 (ii .u64 (IntKind.wrap .u64 a) (1:Int))))))) (o c)
def ë (rec:Val af→Int→Int→Int→Val Â→Option ((Val af)×(Val Â))) (f:Int) (a:Int) (b:Val af) (g:Int→Val af→Option ρ) (h:Val af→Option ρ):Option ρ :=
  ck (f-(1:Int)) fun i=>ifb (ilt a i) (ck (a+(1:Int)) fun c=>ck (a+(1:Int)) fun d=>ç ((ile 0 d)&&(ilt d (ñ b))) (ł b (Int.toNat d) fun e=>ç ((ile 0 a)&&(ilt a (ñ b))) (ł b (Int.toNat a) fun j=>ç ((ile 0 a)&&(ilt a (ñ b))) (ł b (Int.toNat a) fun l=>ç ((ile 0 c)&&(ilt c (ñ (List.set b (Int.toNat a) e)))) (ł (List.set b (Int.toNat a) e) (Int.toNat c) fun m=>ck (a+(1:Int)) fun k=>g k (List.set (List.set b (Int.toNat a) e) (Int.toNat c) j)))))) (h b)
def ó (rec:Val af→Int→Int→Int→Val Â→Option ((Val af)×(Val Â))) (d:Int) (b:Val af) (g:Int) (h:Int) (i:Val ag) (j:Val ab) (k:Val ah) (l:Val ae) (m:Val ab) (n:Val ai) (c:Int) (e:Int) (f:Int→Int→Option ρ) (o:Int→Option ρ):Option ρ :=
  ifb (ilt c e) (ck (c+e) fun a=>ç ((ile 0 d)&&(ilt d (ñ b))) (ł b (Int.toNat d) fun p=>ç ((ile 0 (IntKind.wrap .i64 (ii .u64 (IntKind.wrap .u64 a) (1:Int))))&&(ilt (IntKind.wrap .i64 (ii .u64 (IntKind.wrap .u64 a) (1:Int))) (ñ b))) (ł b (Int.toNat (IntKind.wrap .i64 (ii .u64 (IntKind.wrap .u64 a) (1:Int)))) fun q=>Ä (ji p q (((g,h),i,j,k,l,m),n)) fun r=>ifb (!(ilt r 0)) (ck ((IntKind.wrap .i64 (ii .u64 (IntKind.wrap .u64 a) (1:Int)))+(1:Int)) fun s=>f s e) (f c (IntKind.wrap .i64 (ii .u64 (IntKind.wrap .u64 a) (1:Int))))))) (o c)
def ê (rec:Val af→Int→Int→Int→Val Â→Option ((Val af)×(Val Â))) (f:Int) (a:Int) (b:Val af) (g:Int→Val af→Option ρ) (h:Val af→Option ρ):Option ρ :=
  ifb (igt a f) (ck (a-(1:Int)) fun c=>ck (a-(1:Int)) fun d=>ç ((ile 0 d)&&(ilt d (ñ b))) (ł b (Int.toNat d) fun e=>ç ((ile 0 a)&&(ilt a (ñ b))) (ł b (Int.toNat a) fun i=>ç ((ile 0 a)&&(ilt a (ñ b))) (ł b (Int.toNat a) fun k=>ç ((ile 0 c)&&(ilt c (ñ (List.set b (Int.toNat a) e)))) (ł (List.set b (Int.toNat a) e) (Int.toNat c) fun l=>ck (a-(1:Int)) fun j=>g j (List.set (List.set b (Int.toNat a) e) (Int.toNat c) i)))))) (h b)
def Ü (rec:Val af→Int→Int→Int→Val Â→Option ((Val af)×(Val Â))) (g:Int) (b:Val af) (h:Int) (i:Int) (j:Val ag) (k:Val ab) (l:Val ah) (m:Val ae) (n:Val ab) (o:Val ai) (c:Int) (d:Int) (f:Int→Int→Option ρ) (p:Int→Option ρ):Option ρ :=
  ifb (ilt c d) (ck (c+d) fun a=>ck (g-(IntKind.wrap .i64 (ii .u64 (IntKind.wrap .u64 a) (1:Int)))) fun e=>ç ((ile 0 e)&&(ilt e (ñ b))) (ł b (Int.toNat e) fun q=>ç ((ile 0 (IntKind.wrap .i64 (ii .u64 (IntKind.wrap .u64 a) (1:Int))))&&(ilt (IntKind.wrap .i64 (ii .u64 (IntKind.wrap .u64 a) (1:Int))) (ñ b))) (ł b (Int.toNat (IntKind.wrap .i64 (ii .u64 (IntKind.wrap .u64 a) (1:Int)))) fun r=>Ä (ji q r (((h,i),j,k,l,m,n),o)) fun s=>ifb (!(ilt s 0)) (ck ((IntKind.wrap .i64 (ii .u64 (IntKind.wrap .u64 a) (1:Int)))+(1:Int)) fun t=>f t d) (f c (IntKind.wrap .i64 (ii .u64 (IntKind.wrap .u64 a) (1:Int))))))) (p c)
def ġ (rec:Val af→Int→Int→Int→Val Â→Option ((Val af)×(Val Â))) (c:Val af) (f:Int) (g:Int) (b:Int) (mm:Val Â) (k:((Val af))×(Val Â)→Option ρ):Option ρ :=
  ck (g-f) fun R=>ifb (ieq R 1) (Ë (fun(t:Val Ã) S=>ô rec f c mm.1.1.1 mm.1.1.2 mm.1.2.1 mm.1.2.2.1 mm.1.2.2.2.1 mm.1.2.2.2.2.1 mm.1.2.2.2.2.2 mm.2 t.1 t.2 (fun T U=>S (T,U)) (fun V=>Ë (fun(u:Val az) W=>ë rec V u.1 u.2 (fun X Y=>W (X,Y)) (fun Z=>k (Z,mm))) (f,c))) (g,b)) (ck (b-g) fun cw=>ifb (ieq cw 1) (Ë (fun(v:Val Ã) cz=>ó rec g c mm.1.1.1 mm.1.1.2 mm.1.2.1 mm.1.2.2.1 mm.1.2.2.2.1 mm.1.2.2.2.2.1 mm.1.2.2.2.2.2 mm.2 v.1 v.2 (fun dc df=>cz (dc,df)) (fun dg=>Ë (fun(w:Val az) dh=>ê rec dg w.1 w.2 (fun di dj=>dh (di,dj)) (fun dk=>k (dk,mm))) (g,c))) (f,g)) (ck (f+b) fun a=>ck ((IntKind.wrap .i64 (ii .u64 (IntKind.wrap .u64 a) (1:Int)))+g) fun s=>ifb (igt g (IntKind.wrap .i64 (ii .u64 (IntKind.wrap .u64 a) (1:Int)))) (ck (s-b) fun dl=>ck (s-1) fun dm=>Ë (fun(x:Val Ã) dt=>Ü rec dm c mm.1.1.1 mm.1.1.2 mm.1.2.1 mm.1.2.2.1 mm.1.2.2.2.1 mm.1.2.2.2.2.1 mm.1.2.2.2.2.2 mm.2 x.1 x.2 (fun du dv=>dt (du,dv)) (fun j=>ck (s-j) fun d=>ifb (ilt j g) (ifb (ilt g d) (Ä (į c j g d mm) fun h=>ifb (ilt f j) (ifb (ilt j (IntKind.wrap .i64 (ii .u64 (IntKind.wrap .u64 a) (1:Int)))) (Ä (rec h.1 f j (IntKind.wrap .i64 (ii .u64 (IntKind.wrap .u64 a) (1:Int))) h.2) fun m=>ifb (ilt (IntKind.wrap .i64 (ii .u64 (IntKind.wrap .u64 a) (1:Int))) d) (ifb (ilt d b) (Ä (rec m.1 (IntKind.wrap .i64 (ii .u64 (IntKind.wrap .u64 a) (1:Int))) d b m.2) fun y=>k (y.1,y.2)) (k (m.1,m.2))) (k (m.1,m.2))) (ifb (ilt (IntKind.wrap .i64 (ii .u64 (IntKind.wrap .u64 a) (1:Int))) d) (ifb (ilt d b) (Ä (rec h.1 (IntKind.wrap .i64 (ii .u64 (IntKind.wrap .u64 a) (1:Int))) d b h.2) fun z=>k (z.1,z.2)) (k (h.1,h.2))) (k (h.1,h.2)))) (ifb (ilt (IntKind.wrap .i64 (ii .u64 (IntKind.wrap .u64 a) (1:Int))) d) (ifb (ilt d b) (Ä (rec h.1 (IntKind.wrap .i64 (ii .u64 (IntKind.wrap .u64 a) (1:Int))) d b h.2) fun A=>k (A.1,A.2)) (k (h.1,h.2))) (k (h.1,h.2)))) (ifb (ilt f j) (ifb (ilt j (IntKind.wrap .i64 (ii .u64 (IntKind.wrap .u64 a) (1:Int)))) (Ä (rec c f j (IntKind.wrap .i64 (ii .u64 (IntKind.wrap .u64 a) (1:Int))) mm) fun n=>ifb (ilt (IntKind.wrap .i64 (ii .u64 (IntKind.wrap .u64 a) (1:Int))) d) (ifb (ilt d b) (Ä (rec n.1 (IntKind.wrap .i64 (ii .u64 (IntKind.wrap .u64 a) (1:Int))) d b n.2) fun B=>k (B.1,B.2)) (k (n.1,n.2))) (k (n.1,n.2))) (ifb (ilt (IntKind.wrap .i64 (ii .u64 (IntKind.wrap .u64 a) (1:Int))) d) (ifb (ilt d b) (Ä (rec c (IntKind.wrap .i64 (ii .u64 (IntKind.wrap .u64 a) (1:Int))) d b mm) fun C=>k (C.1,C.2)) (k (c,mm))) (k (c,mm)))) (ifb (ilt (IntKind.wrap .i64 (ii .u64 (IntKind.wrap .u64 a) (1:Int))) d) (ifb (ilt d b) (Ä (rec c (IntKind.wrap .i64 (ii .u64 (IntKind.wrap .u64 a) (1:Int))) d b mm) fun D=>k (D.1,D.2)) (k (c,mm))) (k (c,mm))))) (ifb (ilt f j) (ifb (ilt j (IntKind.wrap .i64 (ii .u64 (IntKind.wrap .u64 a) (1:Int)))) (Ä (rec c f j (IntKind.wrap .i64 (ii .u64 (IntKind.wrap .u64 a) (1:Int))) mm) fun o=>ifb (ilt (IntKind.wrap .i64 (ii .u64 (IntKind.wrap .u64 a) (1:Int))) d) (ifb (ilt d b) (Ä (rec o.1 (IntKind.wrap .i64 (ii .u64 (IntKind.wrap .u64 a) (1:Int))) d b o.2) fun E=>k (E.1,E.2)) (k (o.1,o.2))) (k (o.1,o.2))) (ifb (ilt (IntKind.wrap .i64 (ii .u64 (IntKind.wrap .u64 a) (1:Int))) d) (ifb (ilt d b) (Ä (rec c (IntKind.wrap .i64 (ii .u64 (IntKind.wrap .u64 a) (1:Int))) d b mm) fun F=>k (F.1,F.2)) (k (c,mm))) (k (c,mm)))) (ifb (ilt (IntKind.wrap .i64 (ii .u64 (IntKind.wrap .u64 a) (1:Int))) d) (ifb (ilt d b) (Ä (rec c (IntKind.wrap .i64 (ii .u64 (IntKind.wrap .u64 a) (1:Int))) d b mm) fun G=>k (G.1,G.2)) (k (c,mm))) (k (c,mm)))))) (dl,(IntKind.wrap .i64 (ii .u64 (IntKind.wrap .u64 a) (1:Int))))) (ck (s-1) fun dw=>Ë (fun(H:Val Ã) dz=>Ü rec dw c mm.1.1.1 mm.1.1.2 mm.1.2.1 mm.1.2.2.1 mm.1.2.2.2.1 mm.1.2.2.2.2.1 mm.1.2.2.2.2.2 mm.2 H.1 H.2 (fun d8 d9=>dz (d8,d9)) (fun l=>ck (s-l) fun e=>ifb (ilt l g) (ifb (ilt g e) (Ä (į c l g e mm) fun i=>ifb (ilt f l) (ifb (ilt l (IntKind.wrap .i64 (ii .u64 (IntKind.wrap .u64 a) (1:Int)))) (Ä (rec i.1 f l (IntKind.wrap .i64 (ii .u64 (IntKind.wrap .u64 a) (1:Int))) i.2) fun p=>ifb (ilt (IntKind.wrap .i64 (ii .u64 (IntKind.wrap .u64 a) (1:Int))) e) (ifb (ilt e b) (Ä (rec p.1 (IntKind.wrap .i64 (ii .u64 (IntKind.wrap .u64 a) (1:Int))) e b p.2) fun I=>k (I.1,I.2)) (k (p.1,p.2))) (k (p.1,p.2))) (ifb (ilt (IntKind.wrap .i64 (ii .u64 (IntKind.wrap .u64 a) (1:Int))) e) (ifb (ilt e b) (Ä (rec i.1 (IntKind.wrap .i64 (ii .u64 (IntKind.wrap .u64 a) (1:Int))) e b i.2) fun J=>k (J.1,J.2)) (k (i.1,i.2))) (k (i.1,i.2)))) (ifb (ilt (IntKind.wrap .i64 (ii .u64 (IntKind.wrap .u64 a) (1:Int))) e) (ifb (ilt e b) (Ä (rec i.1 (IntKind.wrap .i64 (ii .u64 (IntKind.wrap .u64 a) (1:Int))) e b i.2) fun K=>k (K.1,K.2)) (k (i.1,i.2))) (k (i.1,i.2)))) (ifb (ilt f l) (ifb (ilt l (IntKind.wrap .i64 (ii .u64 (IntKind.wrap .u64 a) (1:Int)))) (Ä (rec c f l (IntKind.wrap .i64 (ii .u64 (IntKind.wrap .u64 a) (1:Int))) mm) fun q=>ifb (ilt (IntKind.wrap .i64 (ii .u64 (IntKind.wrap .u64 a) (1:Int))) e) (ifb (ilt e b) (Ä (rec q.1 (IntKind.wrap .i64 (ii .u64 (IntKind.wrap .u64 a) (1:Int))) e b q.2) fun L=>k (L.1,L.2)) (k (q.1,q.2))) (k (q.1,q.2))) (ifb (ilt (IntKind.wrap .i64 (ii .u64 (IntKind.wrap .u64 a) (1:Int))) e) (ifb (ilt e b) (Ä (rec c (IntKind.wrap .i64 (ii .u64 (IntKind.wrap .u64 a) (1:Int))) e b mm) fun M=>k (M.1,M.2)) (k (c,mm))) (k (c,mm)))) (ifb (ilt (IntKind.wrap .i64 (ii .u64 (IntKind.wrap .u64 a) (1:Int))) e) (ifb (ilt e b) (Ä (rec c (IntKind.wrap .i64 (ii .u64 (IntKind.wrap .u64 a) (1:Int))) e b mm) fun N=>k (N.1,N.2)) (k (c,mm))) (k (c,mm))))) (ifb (ilt f l) (ifb (ilt l (IntKind.wrap .i64 (ii .u64 (IntKind.wrap .u64 a) (1:Int)))) (Ä (rec c f l (IntKind.wrap .i64 (ii .u64 (IntKind.wrap .u64 a) (1:Int))) mm) fun r=>ifb (ilt (IntKind.wrap .i64 (ii .u64 (IntKind.wrap .u64 a) (1:Int))) e) (ifb (ilt e b) (Ä (rec r.1 (IntKind.wrap .i64 (ii .u64 (IntKind.wrap .u64 a) (1:Int))) e b r.2) fun O=>k (O.1,O.2)) (k (r.1,r.2))) (k (r.1,r.2))) (ifb (ilt (IntKind.wrap .i64 (ii .u64 (IntKind.wrap .u64 a) (1:Int))) e) (ifb (ilt e b) (Ä (rec c (IntKind.wrap .i64 (ii .u64 (IntKind.wrap .u64 a) (1:Int))) e b mm) fun P=>k (P.1,P.2)) (k (c,mm))) (k (c,mm)))) (ifb (ilt (IntKind.wrap .i64 (ii .u64 (IntKind.wrap .u64 a) (1:Int))) e) (ifb (ilt e b) (Ä (rec c (IntKind.wrap .i64 (ii .u64 (IntKind.wrap .u64 a) (1:Int))) e b mm) fun Q=>k (Q.1,Q.2)) (k (c,mm))) (k (c,mm)))))) (f,g))))
def ğ:Nat→Val af→Int→Int→Int→Val Â→Option ((Val af)×(Val Â))
  |0=>fun _ _ _ _ _=>none
  |n+1=>fun a b c d mm=>ġ (ğ n) a b c d mm some
def Đ (a:Val af) (b:Int) (c:Int) (d:Int) (mm:Val Â):Option (((Val af))×(Val Â)):=ğ 100 a b c d mm
def gS (m:Int) (n:Int) (c:Int) (b:Int) (d:Val af) (e:Int) (f:Int) (g:Val ag) (h:Val ab) (i:Val ah) (j:Val ae) (k:Val ab) (l:Val ai) (o:Int→Int→Val af→Int→Int→Val ag→Val ab→Val ah→Val ae→Val ab→Val ai→Option ρ) (p:Val au→Option ρ):Option ρ :=
  ifb (ile b m) (Ä (ä d c b (((e,f),g,h,i,j,k),l)) fun a=>ck (b+n) fun q=>o b q a.1 a.2.1.1.1 a.2.1.1.2 a.2.1.2.1 a.2.1.2.2.1 a.2.1.2.2.2.1 a.2.1.2.2.2.2.1 a.2.1.2.2.2.2.2 a.2.2) (p (c,d,e,f,g,h,i,j,k,l))
def ω (n:Int) (d:Int) (c:Int) (b:Int) (e:Val af) (f:Int) (g:Int) (h:Val ag) (i:Val ab) (j:Val ah) (k:Val ae) (l:Val ab) (m:Val ai) (o:Int→Int→Val af→Int→Int→Val ag→Val ab→Val ah→Val ae→Val ab→Val ai→Option ρ) (p:Val au→Option ρ):Option ρ :=
  ifb (ile b n) (ck (c+d) fun q=>Ä (Đ e c q b (((f,g),h,i,j,k,l),m)) fun a=>ck ((2:Int)*d) fun r=>ck (b+r) fun s=>o b s a.1 a.2.1.1.1 a.2.1.1.2 a.2.1.2.1 a.2.1.2.2.1 a.2.1.2.2.2.1 a.2.1.2.2.2.2.1 a.2.1.2.2.2.2.2 a.2.2) (p (c,e,f,g,h,i,j,k,l,m))
def gR (e:Int) (d:Int) (f:Val af) (g:Int) (h:Int) (i:Val ag) (j:Val ab) (k:Val ah) (l:Val ae) (m:Val ab) (n:Val ai) (o:Int→Val af→Int→Int→Val ag→Val ab→Val ah→Val ae→Val ab→Val ai→Option ρ) (q:(Val (.pair af ac))→Option ρ):Option ρ :=
  ifb (ilt d e) (ck ((2:Int)*d) fun r=>Ë (fun(b:(Val (.pair tI au))) s=>ω e d b.1 b.2.1 b.2.2.1 b.2.2.2.1 b.2.2.2.2.1 b.2.2.2.2.2.1 b.2.2.2.2.2.2.1 b.2.2.2.2.2.2.2.1 b.2.2.2.2.2.2.2.2.1 b.2.2.2.2.2.2.2.2.2.1 b.2.2.2.2.2.2.2.2.2.2 (fun t u v w x y z A B C D=>s (t,u,v,w,x,y,z,A,B,C,D)) (fun a=>ck (a.1+d) fun p=>ifb (ilt p e) (Ä (Đ a.2.1 a.1 p e (((a.2.2.1,a.2.2.2.1),a.2.2.2.2.1,a.2.2.2.2.2.1,a.2.2.2.2.2.2.1,a.2.2.2.2.2.2.2.1,a.2.2.2.2.2.2.2.2.1),a.2.2.2.2.2.2.2.2.2)) fun c=>ck (d*(2:Int)) fun E=>o E c.1 c.2.1.1.1 c.2.1.1.2 c.2.1.2.1 c.2.1.2.2.1 c.2.1.2.2.2.1 c.2.1.2.2.2.2.1 c.2.1.2.2.2.2.2 c.2.2) (ck (d*(2:Int)) fun F=>o F a.2.1 a.2.2.1 a.2.2.2.1 a.2.2.2.2.1 a.2.2.2.2.2.1 a.2.2.2.2.2.2.1 a.2.2.2.2.2.2.2.1 a.2.2.2.2.2.2.2.2.1 a.2.2.2.2.2.2.2.2.2))) ((0:Int),r,f,g,h,i,j,k,l,m,n)) (q (f,g,h,i,j,k,l,m,n))
def iU (g:Val af) (f:Int) (mm:Val Â) (k:((Val af))×(Val Â)→Option ρ):Option ρ :=
  Ë (fun(a:(Val (.pair tI au))) h=>gS f (20:Int) a.1 a.2.1 a.2.2.1 a.2.2.2.1 a.2.2.2.2.1 a.2.2.2.2.2.1 a.2.2.2.2.2.2.1 a.2.2.2.2.2.2.2.1 a.2.2.2.2.2.2.2.2.1 a.2.2.2.2.2.2.2.2.2.1 a.2.2.2.2.2.2.2.2.2.2 (fun i j l m n o p q r s t=>h (i,j,l,m,n,o,p,q,r,s,t)) (fun b=>Ä (ä b.2.1 b.1 f (((b.2.2.1,b.2.2.2.1),b.2.2.2.2.1,b.2.2.2.2.2.1,b.2.2.2.2.2.2.1,b.2.2.2.2.2.2.2.1,b.2.2.2.2.2.2.2.2.1),b.2.2.2.2.2.2.2.2.2)) fun d=>Ë (fun(c:Val au) u=>gR f c.1 c.2.1 c.2.2.1 c.2.2.2.1 c.2.2.2.2.1 c.2.2.2.2.2.1 c.2.2.2.2.2.2.1 c.2.2.2.2.2.2.2.1 c.2.2.2.2.2.2.2.2.1 c.2.2.2.2.2.2.2.2.2 (fun v w x y z A B C D E=>u (v,w,x,y,z,A,B,C,D,E)) (fun e=>k (e.1,(((e.2.1,e.2.2.1),e.2.2.2.1,e.2.2.2.2.1,e.2.2.2.2.2.1,e.2.2.2.2.2.2.1,e.2.2.2.2.2.2.2.1),e.2.2.2.2.2.2.2.2)))) ((20:Int),d.1,d.2.1.1.1,d.2.1.1.2,d.2.1.2.1,d.2.1.2.2.1,d.2.1.2.2.2.1,d.2.1.2.2.2.2.1,d.2.1.2.2.2.2.2,d.2.2))) ((0:Int),(20:Int),g,mm.1.1.1,mm.1.1.2,mm.1.2.1,mm.1.2.2.1,mm.1.2.2.2.1,mm.1.2.2.2.2.1,mm.1.2.2.2.2.2,mm.2)
def Į (a:Val af) (b:Int) (mm:Val Â):Option (((Val af))×(Val Â)):=iU a b mm some
def By (a:Val af) (y:Val aj) (b:Val af→Option ρ):Option ρ :=
  ç (î ((List.length a)+(List.length ([y])))) (b (a++([y])))
def uL (c:Int) (d:Int) (e:Int) (f:Val ag) (g:Val ab) (h:Val ah) (i:Val ae) (j:Val ab) (k:Val ai) (b:Val af) (a:Int) (l:Int→Option ρ) (m:Int→Option ρ) (n:Unit→Option ρ):Option ρ :=
  ifb (ilt a c) (ç ((ile 0 a)&&(ilt a (ñ b))) (ł b (Int.toNat a) fun o=>Ä (Ρ (((d,e),f,g,h,i,j),k) o) fun p=>ifb (!p) (m a) (ck (a+(1:Int)) fun q=>l q))) (n ())
def mh (f:Int) (g:Int) (h:Val ag) (i:Val ab) (j:Val ah) (k:Val ae) (l:Val ab) (m:Val ai) (b:Int) (c:Int) (a:Val af) (d:Int→Int→Val af→Option ρ) (n:Val az→Option ρ):Option ρ :=
  ifb (ilt c (Ú a)) (ç ((ile 0 c)&&(ilt c (ñ a))) (ł a (Int.toNat c) fun e=>Ä (Ρ (((f,g),h,i,j,k,l),m) e) fun o=>ifb (!(!o)) (ç ((ile 0 b)&&(ilt b (ñ a))) (ł a (Int.toNat b) fun s=>ck (b+(1:Int)) fun p=>ck (c+(1:Int)) fun q=>d p q (List.set a (Int.toNat b) e))) (ck (c+(1:Int)) fun r=>d b r a))) (n (b,a))
def Qv (b:Val Â) (k:Val af→Option ρ):Option ρ :=
  Ä (mC b.2) fun g=>ym (fun(h:Val af) (i:Val aj) j=>By h i (fun l=>j l)) g ([]) (fun f=>Ä (Į f (Ú f) b) fun c=>Ë (fun(m:Int) n=>uL (Ú c.1) b.1.1.1 b.1.1.2 b.1.2.1 b.1.2.2.1 b.1.2.2.2.1 b.1.2.2.2.2.1 b.1.2.2.2.2.2 b.2 c.1 m (fun o=>n o) (fun d=>ifb (ieq d (-1:Int)) (k c.1) (ck (d+(1:Int)) fun p=>Ë (fun(e:(Val (.pair tI az))) q=>mh b.1.1.1 b.1.1.2 b.1.2.1 b.1.2.2.1 b.1.2.2.2.1 b.1.2.2.2.2.1 b.1.2.2.2.2.2 b.2 e.1 e.2.1 e.2.2 (fun r s t=>q (r,s,t)) (fun a=>ç ((ile 0 a.1)&&(ile a.1 (ñ a.2))) (ç ((ile 0 a.1)&&(ile a.1 (ñ (List.take (Int.toNat a.1) a.2++List.replicate (List.length a.2-(Int.toNat a.1)) ([])++List.drop ((Int.toNat a.1)+(List.length a.2-(Int.toNat a.1))) a.2)))) (k (List.take (Int.toNat a.1) (List.drop 0 (List.take (Int.toNat a.1) a.2++List.replicate (List.length a.2-(Int.toNat a.1)) ([])++List.drop ((Int.toNat a.1)+(List.length a.2-(Int.toNat a.1))) a.2))))))) (d,p,c.1))) (fun _=>k c.1)) (0:Int))
def Es (a:Val Â):Option ((Val af)):=Qv a some
def Xg (a:Val Â) (k:(Val (.pair af tI))→Option ρ):Option ρ :=
  Ä (gY a) fun b=>ifb (ine b 0) (k ([],b)) (Ä (Es a) fun c=>k (c,(0:Int)))
def Gj (a:Val Â):Option ((Val (.pair af tI))):=Xg a some
def Bm (a:Val af) (y:Val aj) (b:Val af→Option ρ):Option ρ :=
  ç (î ((List.length a)+(List.length ([y])))) (b (a++([y])))
def Qn (a:Val Â) (k:Val af→Option ρ):Option ρ :=
  Ä (mC a.2) fun c=>ym (fun(d:Val af) (e:Val aj) f=>Bm d e (fun g=>f g)) c ([]) (fun b=>Ä (Į b (Ú b) a) fun h=>k h.1)
def rL (a:Val Â):Option ((Val af)):=Qn a some
def jU (c:Val af) (d:Int) (e:Int) (f:Int) (g:Val ag) (h:Val ab) (i:Val ah) (j:Val ae) (k:Val ab) (l:Val ai) (a:Int) (m:Int→Option ρ) (n:(Val (.pair aj .bool))→Option ρ) (o:Unit→Option ρ):Option ρ :=
  ifb (ilt a d) (đ c a fun b=>Ä (Ρ (((e,f),g,h,i,j,k),l) b) fun p=>ifb p (n (b,true)) (ck (a+(1:Int)) fun q=>m q)) (o ())
def uM (a:Val Â) (k:(Val (.pair aj .bool))→Option ρ):Option ρ :=
  Ä (rL a) fun b=>Ë (fun(d:Int) e=>jU b (Ú b) a.1.1.1 a.1.1.2 a.1.2.1 a.1.2.2.1 a.1.2.2.2.1 a.1.2.2.2.2.1 a.1.2.2.2.2.2 a.2 d (fun f=>e f) (fun c=>k (c.1,c.2)) (fun _=>k ([],false))) (0:Int)
def ü (a:Val Â):Option ((Val (.pair aj .bool))):=uM a some
def Kj (a:Val Â) (k:(Val (.pair aj tI))→Option ρ):Option ρ :=
  Ä (gY a) fun b=>ifb (ine b 0) (k ([],b)) (Ä (ü a) fun c=>ifb (!c.2) (k ([],(5:Int))) (k (c.1,(0:Int))))
def Eu (a:Val Â):Option ((Val (.pair aj tI))):=Kj a some
def jW (b:Val aa) (c:Val aa) (a:Int) (d:Int→Option ρ) (e:Bool→Option ρ) (f:Unit→Option ρ):Option ρ :=
  ifb (ilt a (Ú b)) (đ b a fun g=>đ c a fun h=>ifb (ine g h) (e false) (ck (a+(1:Int)) fun i=>d i)) (f ())
def uV (a:Val aa) (b:Val aa) (k:Bool→Option ρ):Option ρ :=
  ifb (ine (Ú a) (Ú b)) (k false) (Ë (fun(c:Int) d=>jW a b c (fun e=>d e) (fun f=>k f) (fun _=>k true)) (0:Int))
def jj (a:Val aa) (b:Val aa):Option (Bool):=uV a b some
def la (b:Val aj) (c:Val aj) (a:Int) (d:Int→Option ρ) (e:Bool→Option ρ) (f:Unit→Option ρ):Option ρ :=
  ifb (ilt a (Ú b)) (đ b a fun g=>đ c a fun h=>Ä (jj g h) fun i=>ifb (!i) (e false) (ck (a+(1:Int)) fun j=>d j)) (f ())
def xI (a:Val aj) (b:Val aj) (k:Bool→Option ρ):Option ρ :=
  ifb (ine (Ú a) (Ú b)) (k false) (Ë (fun(c:Int) d=>la a b c (fun e=>d e) (fun f=>k f) (fun _=>k true)) (0:Int))
def rN (a:Val aj) (b:Val aj):Option (Bool):=xI a b some
def qO (b:Val ag) (c:Int) (d:Int) (a:Int) (e:Int→Option ρ) (f:Int→Option ρ) (g:Unit→Option ρ):Option ρ :=
  ifb (ilt a c) (đ b a fun h=>ifb (ieq h.1 d) (f a) (ck (a+(1:Int)) fun i=>e i)) (g ())
def JU (a:Val Â) (c:Int) (b:Int) (k:Int→Option ρ):Option ρ :=
  ifb (ilt b 0) (k (1:Int)) (ifb (igt b 20000) (k (1:Int)) (Ë (fun(d:Int) e=>qO a.1.2.1 (Ú a.1.2.1) c d (fun f=>e f) (fun g=>ifb (!(ige g 0)) (k (5:Int)) (k (0:Int))) (fun _=>k (5:Int))) (0:Int)))
def tZ (a:Val Â) (b:Int) (c:Int):Option (Int):=JU a b c some
def F9 (a:Val aa) (b:Val aa) (k:(Val (.pair aa aw))→Option ρ):Option ρ :=
  Ä (mG a) fun c=>ifb (!c) (k ([],[],(1:Int))) (Ä (mG b) fun d=>ifb (!d) (k ([],[],(1:Int))) (Ä (Τ a b) fun e=>Ä (Τ b a) fun f=>k (e,f,(0:Int))))
def pf (a:Val aa) (b:Val aa):Option ((Val (.pair aa aw))):=F9 a b some
def jV (g:Int) (b:Int) (c:Val ae) (a:Int) (d:Int→Option ρ) (h:Int→Option ρ) (i:Unit→Option ρ):Option ρ :=
  ifb (ilt a g) (ç ((ile 0 a)&&(ilt a (ñ c))) (ł c (Int.toNat a) fun e=>Ä (pf e.2.2.1 e.2.2.2.1) fun f=>Ä (á f.1 b) fun j=>ifb j (ck (a+(1:Int)) fun k=>d k) (Ä (á f.2.1 b) fun l=>ifb (!l) (h a) (ck (a+(1:Int)) fun m=>d m)))) (i ())
def Η (f:Int) (a:Int) (c:Int) (b:Val ae) (e:Int→Int→Val ae→Option ρ) (h:Val aT→Option ρ):Option ρ :=
  ifb (ilt c (Ú b)) (ç ((ile 0 c)&&(ilt c (ñ b))) (ł b (Int.toNat c) fun d=>Ä (pf d.2.2.1 d.2.2.2.1) fun g=>Ä (á g.1 f) fun i=>ifb i (ç ((ile 0 a)&&(ilt a (ñ b))) (ł b (Int.toNat a) fun p=>ck (a+(1:Int)) fun j=>ck (c+(1:Int)) fun k=>e j k (List.set b (Int.toNat a) d))) (Ä (á g.2.1 f) fun l=>ifb (!(!l)) (ç ((ile 0 a)&&(ilt a (ñ b))) (ł b (Int.toNat a) fun q=>ck (a+(1:Int)) fun m=>ck (c+(1:Int)) fun n=>e m n (List.set b (Int.toNat a) d))) (ck (c+(1:Int)) fun o=>e a o b)))) (h (a,b))
def uN (b:Val Â) (c:Int) (k:Val aH→Option ρ):Option ρ :=
  Ä (gY b) fun f=>ifb (ine f 0) (k (false,f)) (Ä (tZ b c (0:Int)) fun g=>ifb (ine g 0) (k (false,g)) (ç (î (List.length b.1.2.2.2.2.1)) (Ë (fun(h:Int) i=>jV (Ú b.1.2.2.2.2.1) c b.1.2.2.2.2.1 h (fun j=>i j) (fun d=>ifb (ieq d (-1:Int)) (Ä (ü b) fun l=>k ((!l.2),(0:Int))) (ck (d+(1:Int)) fun m=>Ë (fun(e:(Val (.pair tI aT))) n=>Η c e.1 e.2.1 e.2.2 (fun o p q=>n (o,p,q)) (fun a=>ç ((ile 0 a.1)&&(ile a.1 (ñ a.2))) (ç ((ile 0 a.1)&&(ile a.1 (ñ (List.take (Int.toNat a.1) a.2++List.replicate (List.length a.2-(Int.toNat a.1)) ((0:Int),(0:Int),[],[],(0:Int),(0:Int),(0:Int),(0:Int))++List.drop ((Int.toNat a.1)+(List.length a.2-(Int.toNat a.1))) a.2)))) (Ä (ü ((b.1.1,b.1.2.1,b.1.2.2.1,b.1.2.2.2.1,(List.take (Int.toNat a.1) (List.drop 0 (List.take (Int.toNat a.1) a.2++List.replicate (List.length a.2-(Int.toNat a.1)) ((0:Int),(0:Int),[],[],(0:Int),(0:Int),(0:Int),(0:Int))++List.drop ((Int.toNat a.1)+(List.length a.2-(Int.toNat a.1))) a.2))),b.1.2.2.2.2.2),b.2)) fun r=>k ((!r.2),(0:Int)))))) (d,m,b.1.2.2.2.2.1))) (fun _=>Ä (ü b) fun s=>k ((!s.2),(0:Int)))) (0:Int))))
def oK (a:Val Â) (b:Int):Option ((Val aH)):=uN a b some
def uK (c:Int) (d:Val aa) (b:Val ae) (a:Int) (e:Int→Option ρ) (f:Int→Option ρ) (g:Unit→Option ρ):Option ρ :=
  ifb (ilt a c) (ç ((ile 0 a)&&(ilt a (ñ b))) (ł b (Int.toNat a) fun h=>Ä (á d h.1) fun i=>ifb (!i) (f a) (ck (a+(1:Int)) fun j=>e j))) (g ())
def mg (f:Val aa) (b:Int) (c:Int) (a:Val ae) (d:Int→Int→Val ae→Option ρ) (g:Val aT→Option ρ):Option ρ :=
  ifb (ilt c (Ú a)) (ç ((ile 0 c)&&(ilt c (ñ a))) (ł a (Int.toNat c) fun e=>Ä (á f e.1) fun h=>ifb (!(!h)) (ç ((ile 0 b)&&(ilt b (ñ a))) (ł a (Int.toNat b) fun l=>ck (b+(1:Int)) fun i=>ck (c+(1:Int)) fun j=>d i j (List.set a (Int.toNat b) e))) (ck (c+(1:Int)) fun k=>d b k a))) (g (b,a))
def Qo (b:Val Â) (e:Val aa) (k:Val Â→Option ρ):Option ρ :=
  ç (î (List.length b.1.2.2.2.2.1)) (Ë (fun(f:Int) g=>uK (Ú b.1.2.2.2.2.1) e b.1.2.2.2.2.1 f (fun h=>g h) (fun c=>ifb (ieq c (-1:Int)) (k b) (ck (c+(1:Int)) fun i=>Ë (fun(d:(Val (.pair tI aT))) j=>mg e d.1 d.2.1 d.2.2 (fun l m n=>j (l,m,n)) (fun a=>ç ((ile 0 a.1)&&(ile a.1 (ñ a.2))) (ç ((ile 0 a.1)&&(ile a.1 (ñ (List.take (Int.toNat a.1) a.2++List.replicate (List.length a.2-(Int.toNat a.1)) ((0:Int),(0:Int),[],[],(0:Int),(0:Int),(0:Int),(0:Int))++List.drop ((Int.toNat a.1)+(List.length a.2-(Int.toNat a.1))) a.2)))) (k ((b.1.1,b.1.2.1,b.1.2.2.1,b.1.2.2.2.1,(List.take (Int.toNat a.1) (List.drop 0 (List.take (Int.toNat a.1) a.2++List.replicate (List.length a.2-(Int.toNat a.1)) ((0:Int),(0:Int),[],[],(0:Int),(0:Int),(0:Int),(0:Int))++List.drop ((Int.toNat a.1)+(List.length a.2-(Int.toNat a.1))) a.2))),b.1.2.2.2.2.2),b.2))))) (c,i,b.1.2.2.2.2.1))) (fun _=>k b)) (0:Int))
def zd (a:Val Â) (b:Val aa):Option (Val Â):=Qo a b some
def uP (d:Val ae) (e:Int) (a:Int) (b:Val aa) (f:Int→Val aa→Option ρ) (g:Val aa→Option ρ):Option ρ :=
  ifb (ilt a e) (đ d a fun c=>ç (î ((List.length b)+(List.length ([c.1])))) (ck (a+(1:Int)) fun h=>f h (b++([c.1])))) (g b)
def pz (f:Int) (g:Int) (h:Val ag) (i:Val ab) (j:Val ah) (k:Val ae) (l:Val ab) (m:Val ai) (b:Val aa) (a:Int) (d:Val aa→Int→Option ρ) (n:Val aa→Option ρ):Option ρ :=
  ifb (ige a 0) (ç ((ile 0 a)&&(ile a (ñ b))) (ck (a+(1:Int)) fun c=>ç ((ile 0 c)&&(ile c (ñ b))) (Ä (ĥ ([(List.take (Int.toNat a) b),(List.drop (Int.toNat c) b)])) fun e=>Ä (zd (((f,g),h,i,j,k,l),m) e) fun o=>Ä (ü o) fun p=>ifb (!p.2) (ck (a-(1:Int)) fun q=>d e q) (ck (a-(1:Int)) fun r=>d b r)))) (n b)
def QH (a:Val Â) (k:Val aw→Option ρ):Option ρ :=
  Ä (gY a) fun b=>ifb (ine b 0) (k ([],b)) (Ä (ü a) fun f=>ifb f.2 (k ([],(5:Int))) (Ë (fun(c:Val œ) g=>uP a.1.2.2.2.2.1 (Ú a.1.2.2.2.2.1) c.1 c.2 (fun h i=>g (h,i)) (fun d=>ck ((Ú d)-(1:Int)) fun j=>Ë (fun(e:Val aw) l=>pz a.1.1.1 a.1.1.2 a.1.2.1 a.1.2.2.1 a.1.2.2.2.1 a.1.2.2.2.2.1 a.1.2.2.2.2.2 a.2 e.1 e.2 (fun m n=>l (m,n)) (fun o=>k (o,(0:Int)))) (d,j))) ((0:Int),[])))
def IV (a:Val Â):Option ((Val aw)):=QH a some
def oC (e:Int) (f:Val aa) (g:Int) (a:Int) (b:Val aa) (c:Int→Val aa→Option ρ) (h:Val aa→Option ρ):Option ρ :=
  ifb (ilt a g) (đ f a fun d=>ç (ile 0 a) (ifb (ieq (andI .i64 (ii .i64 e a) (1:Int)) 1) (ç (î ((List.length b)+(List.length ([d])))) (ck (a+(1:Int)) fun i=>c i (b++([d])))) (ck (a+(1:Int)) fun j=>c j b))) (h b)
def Fy (a:Val aa) (c:Int) (k:Val aa→Option ρ):Option ρ :=
  Ë (fun(b:Val œ) d=>oC c a (Ú a) b.1 b.2 (fun e f=>d (e,f)) (fun g=>k g)) ((0:Int),[])
def iE (a:Val aa) (b:Int):Option ((Val aa)):=Fy a b some
def kP (b:Val ae) (c:Int) (d:Int) (a:Int) (e:Int→Option ρ) (f:Int→Option ρ) (g:Unit→Option ρ):Option ρ :=
  ifb (ilt a c) (đ b a fun h=>ifb (ieq h.1 d) (f a) (ck (a+(1:Int)) fun i=>e i)) (g ())
def ψ (d:Val aa) (e:Int) (b:Val ae) (a:Int) (f:Int→Option ρ) (c:Int→Option ρ) (g:Unit→Option ρ):Option ρ :=
  ifb (ilt a e) (đ d a fun h=>Ë (fun(i:Int) j=>kP b (Ú b) h i (fun k=>j k) (fun l=>ifb (!(ige l 0)) (c (5:Int)) (ck (a+(1:Int)) fun m=>f m)) (fun _=>c (5:Int))) (0:Int)) (g ())
def iS (b:Val aa) (a:Int) (c:Int→Option ρ) (d:Int→Option ρ) (e:Unit→Option ρ):Option ρ :=
  ifb (ilt a (Ú b)) (đ b a fun f=>ck (a-(1:Int)) fun g=>đ b g fun h=>ifb (ile f h) (d (6:Int)) (ck (a+(1:Int)) fun i=>c i)) (e ())
def iR (c:Val af) (d:Int) (e:Int) (f:Int) (g:Val ag) (h:Val ab) (i:Val ah) (j:Val ae) (k:Val ab) (l:Val ai) (m:Val aa) (n:Int) (a:Int) (o:Int→Option ρ) (p:(Val (.pair aj .bool))→Option ρ) (q:Unit→Option ρ):Option ρ :=
  ifb (ilt a d) (đ c a fun b=>Ä (iE m n) fun r=>Ä (zd (((e,f),g,h,i,j,k),l) r) fun s=>Ä (Ρ s b) fun t=>ifb (!(!t)) (p (b,true)) (ck (a+(1:Int)) fun u=>o u)) (q ())
def Ŷ (b:Val aa) (e:Val aa) (f:Int) (a:Int) (g:Int→Option ρ) (c:Int→Option ρ) (h:Unit→Option ρ):Option ρ :=
  ifb (ilt a f) (đ e a fun i=>ifb (ige a (Ú b)) (c (1:Int)) (đ b a fun j=>Ä (g8 i j) fun d=>ifb (ine d 0) (c d) (ck (a+(1:Int)) fun k=>g k))) (h ())
def ŗ (c:Int) (d:Int) (b:Val aa) (a:Int) (e:Int→Option ρ) (f:Unit→Option ρ) (g:Unit→Option ρ):Option ρ :=
  ifb (ilt a d) (ç ((ile 0 a)&&(ilt a (ñ b))) (ł b (Int.toNat a) fun h=>ifb (ieq (GA .i64 c h) 0) (f ()) (ck (a+(1:Int)) fun i=>e i))) (g ())
def Ŗ (b:Int) (d:Val af) (e:Int) (f:Val aa) (g:Int) (h:Int) (i:Val ag) (j:Val ab) (k:Val ah) (l:Val ae) (m:Val ab) (n:Val ai) (c:Int) (a:Val aa) (o:Int→Val aa→Option ρ) (p:Val aa→Option ρ) (q:Val aa→Option ρ):Option ρ :=
  ifb (ilt c e) (đ d c fun r=>Ä (iE f b) fun s=>Ä (zd (((g,h),i,j,k,l,m),n) s) fun t=>Ä (Ρ t r) fun u=>ifb (!(!u)) (ç (î ((List.length a)+(List.length ([b])))) (p (a++([b])))) (ck (c+(1:Int)) fun v=>o v a)) (q a)
def ŷ (g:Val af) (t:Int) (h:Val aa) (i:Int) (j:Int) (k:Val ag) (l:Val ab) (m:Val ah) (n:Val ae) (o:Val ab) (p:Val ai) (c:Val aa) (e:Int) (a:Int) (b:Val aa) (d:Val aa→Int→Int→Val aa→Option ρ) (u:Val œ→Option ρ):Option ρ :=
  ifb (ilt a t) (Ä (iE h a) fun f=>ifb (igt (Ú f) (Ú c)) (ck (a+(1:Int)) fun v=>d c e v b) (ifb (ieq (Ú f) (Ú c)) (Ë (fun(w:Int) x=>Ŷ c f (Ú f) w (fun y=>x y) (fun z=>ifb (ige z 0) (ck (a+(1:Int)) fun A=>d c e A b) (Ë (fun(B:Int) C=>ŗ a (Ú b) b B (fun D=>C D) (fun _=>ck (a+(1:Int)) fun E=>d c e E b) (fun _=>Ë (fun(q:Val œ) F=>Ŗ a g (Ú g) h i j k l m n o p q.1 q.2 (fun G H=>F (G,H)) (fun I=>ck (a+(1:Int)) fun J=>d c e J I) (fun K=>ck (a+(1:Int)) fun L=>d f a L K)) ((0:Int),b))) (0:Int))) (fun _=>ifb (ilt (Ú f) (Ú c)) (Ë (fun(M:Int) N=>ŗ a (Ú b) b M (fun O=>N O) (fun _=>ck (a+(1:Int)) fun P=>d c e P b) (fun _=>Ë (fun(r:Val œ) Q=>Ŗ a g (Ú g) h i j k l m n o p r.1 r.2 (fun R S=>Q (R,S)) (fun T=>ck (a+(1:Int)) fun U=>d c e U T) (fun V=>ck (a+(1:Int)) fun W=>d f a W V)) ((0:Int),b))) (0:Int)) (ck (a+(1:Int)) fun X=>d c e X b))) (0:Int)) (Ë (fun(Y:Int) Z=>ŗ a (Ú b) b Y (fun cw=>Z cw) (fun _=>ck (a+(1:Int)) fun cz=>d c e cz b) (fun _=>Ë (fun(s:Val œ) dc=>Ŗ a g (Ú g) h i j k l m n o p s.1 s.2 (fun df dg=>dc (df,dg)) (fun dh=>ck (a+(1:Int)) fun di=>d c e di dh) (fun dj=>ck (a+(1:Int)) fun dk=>d f a dk dj)) ((0:Int),b))) (0:Int)))) (u (e,b))
def xz (a:Val Â) (b:Val aa) (k:Val aw→Option ρ):Option ρ :=
  Ä (gY a) fun g=>ifb (ine g 0) (k ([],g)) (ifb (igt (Ú b) 8) (k ([],(2:Int))) (Ë (fun(h:Int) i=>ψ b (Ú b) a.1.2.2.2.2.1 h (fun j=>i j) (fun l=>k ([],l)) (fun _=>Ë (fun(m:Int) n=>iS b m (fun o=>n o) (fun p=>k ([],p)) (fun _=>Ä (rL a) fun d=>ç (ile 0 (Ú b)) (ck ((shlI .i64 (1:Int) (Ú b))-(1:Int)) fun c=>Ë (fun(q:Int) r=>iR d (Ú d) a.1.1.1 a.1.1.2 a.1.2.1 a.1.2.2.1 a.1.2.2.2.1 a.1.2.2.2.2.1 a.1.2.2.2.2.2 a.2 b c q (fun s=>r s) (fun t=>ifb t.2 (k ([],(5:Int))) (Ë (fun(e:(Val (.pair aa aQ))) u=>ŷ d c b a.1.1.1 a.1.1.2 a.1.2.1 a.1.2.2.1 a.1.2.2.2.1 a.1.2.2.2.2.1 a.1.2.2.2.2.2 a.2 e.1 e.2.1 e.2.2.1 e.2.2.2 (fun v w x y=>u (v,w,x,y)) (fun z=>Ä (iE b z.1) fun A=>k (A,(0:Int)))) (b,c,(0:Int),[]))) (fun _=>Ë (fun(f:(Val (.pair aa aQ))) B=>ŷ d c b a.1.1.1 a.1.1.2 a.1.2.1 a.1.2.2.1 a.1.2.2.2.1 a.1.2.2.2.2.1 a.1.2.2.2.2.2 a.2 f.1 f.2.1 f.2.2.1 f.2.2.2 (fun C D E F=>B (C,D,E,F)) (fun G=>Ä (iE b G.1) fun H=>k (H,(0:Int)))) (b,c,(0:Int),[]))) (0:Int)))) (1:Int))) (0:Int)))
def rM (a:Val Â) (b:Val aa):Option ((Val aw)):=xz a b some
def Qz (a:Val Â) (k:(Val (.pair af tI))→Option ρ):Option ρ :=
  Ä (gY a) fun b=>ifb (ine b 0) (k ([],b)) (Ä (rL a) fun c=>k (c,(0:Int)))
def IU (a:Val Â):Option ((Val (.pair af tI))):=Qz a some
def Ll (a:Val Ê) (d:Val Ã) (k:Val Ã→Option ρ):Option ρ :=
  Ä (ż a) fun b=>ifb (ine b 0) (k ((0:Int),b)) (Ä (pX a) fun e=>Ä (ð e d) fun c=>ifb (ilt c 0) (k ((0:Int),(5:Int))) (ck (c+(1:Int)) fun f=>k (f,(0:Int))))
def lz (a:Val Ê) (b:Val Ã):Option (Val Ã):=Ll a b some
def vA (f:Int) (a:Int) (c:Val ae) (g:Int→Val ae→Option ρ) (h:Val ae→Option ρ):Option ρ :=
  ifb (ilt a f) (ç ((ile 0 a)&&(ilt a (ñ c))) (ł c (Int.toNat a) fun d=>ç (î (List.length d.2.2.1)) (ç (î (List.length d.2.2.2.1)) (ç ((ile 0 a)&&(ilt a (ñ c))) (ł c (Int.toNat a) fun b=>ç ((ile 0 a)&&(ilt a (ñ (List.set c (Int.toNat a) (b.1,b.2.1,d.2.2.1,b.2.2.2))))) (ł (List.set c (Int.toNat a) (b.1,b.2.1,d.2.2.1,b.2.2.2)) (Int.toNat a) fun e=>ck (a+(1:Int)) fun i=>g i (List.set (List.set c (Int.toNat a) (b.1,b.2.1,d.2.2.1,b.2.2.2)) (Int.toNat a) (e.1,e.2.1,e.2.2.1,d.2.2.2.1,e.2.2.2.2)))))))) (h c)
def RC (a:Val Ê) (b:Val Ã) (k:(Val (.pair Ê tI))→Option ρ):Option ρ :=
  Ä (ż a) fun c=>ifb (ine c 0) (k ((((0:Int),(0:Int)),[],[],[],[],[]),c)) (ç (î (List.length a.2.1)) (ç (î (List.length a.2.2.1)) (ç (î (List.length a.2.2.2.1)) (ç (î (List.length a.2.2.2.2.2)) (ç (î (List.length a.2.2.2.2.1)) (Ë (fun(d:Val aT) g=>vA (Ú a.2.2.2.2.1) d.1 d.2 (fun h i=>g (h,i)) (fun e=>ç (î ((List.length a.2.2.2.2.2)+(List.length ([b])))) (Ä (ż (a.1,a.2.1,a.2.2.1,a.2.2.2.1,e,(a.2.2.2.2.2++([b])))) fun f=>ifb (ine f 0) (k ((((0:Int),(0:Int)),[],[],[],[],[]),f)) (k ((a.1,a.2.1,a.2.2.1,a.2.2.2.1,e,(a.2.2.2.2.2++([b]))),(0:Int)))))) ((0:Int),a.2.2.2.2.1)))))))
def EB (a:Val Ê) (b:Val Ã):Option ((Val (.pair Ê tI))):=RC a b some
def rc (b:Val aa) (c:Int) (d:Int) (e:Val ak) (a:Int) (f:Int→Option ρ) (g:Int→Option ρ) (h:Unit→Option ρ):Option ρ :=
  ifb (ilt a c) (đ b a fun i=>Ä (zh (d,e) i) fun j=>ifb (!j) (g (1:Int)) (ck (a+(1:Int)) fun k=>f k)) (h ())
def Kw (a:Val Ì) (b:Val aa) (k:Int→Option ρ):Option ρ :=
  Ä (nS a) fun c=>ifb (ine c.1 0) (k c.1) (Ë (fun(d:Int) e=>rc b (Ú b) a.1 a.2 d (fun f=>e f) (fun g=>k g) (fun _=>Ä (i7 a ([])) fun h=>ifb (!h.2) (k (9:Int)) (k (0:Int)))) (0:Int))
def yo (a:Val Ì) (b:Val aa):Option (Int):=Kw a b some
def oF (c:Int) (a:Int) (b:Val aa) (d:Int→Val aa→Option ρ) (e:Val aa→Option ρ):Option ρ :=
  ifb (ilt a c) (ç ((ile 0 a)&&(ilt a (ñ b))) (ł b (Int.toNat a) fun g=>ck (a+(1:Int)) fun f=>d f (List.set b (Int.toNat a) (1152921504606846976:Int)))) (e b)
def vc (c:Val ak) (d:Int) (b:Int) (a:Int) (e:Int→Int→Option ρ) (f:Int→Option ρ):Option ρ :=
  ifb (ilt a d) (đ c a fun g=>ck (b+(ZA g.2.2 (0:Int))) fun h=>ck (a+(1:Int)) fun i=>e h i) (f b)
def uZ (f:Int) (d:Val aa) (a:Int) (b:Val aq) (c:Val aa) (e:Int→Val aq→Val aa→Option ρ) (g:Val aM→Option ρ):Option ρ :=
  ifb (ilt a f) (ç ((ile 0 a)&&(ilt a (ñ d))) (ł d (Int.toNat a) fun h=>ifb (ine h 1152921504606846976) (ç (î ((List.length c)+(List.length ([a])))) (ç ((ile 0 a)&&(ilt a (ñ b))) (ł b (Int.toNat a) fun k=>ck (a+(1:Int)) fun i=>e i (List.set b (Int.toNat a) true) (c++([a]))))) (ck (a+(1:Int)) fun j=>e j b c))) (g (b,c))
def Dr (m:Val ao) (j:Int) (d:Int) (n:Val ak) (o:Int) (f:Int) (b:Val aa) (c:Val aq) (e:Val aa) (g:Int→Val aa→Val aq→Val aa→Option ρ) (l:(Val (.pair .bool (.pair aa aM)))→Option ρ) (p:(Val (.pair aa aM))→Option ρ):Option ρ :=
  ifb (ilt f o) (đ n f fun a=>ifb (ine a.1 d) (ck (f+(1:Int)) fun q=>g q b c e) (MF (k:=tI) (v:=.bool) f m (fun r=>ifb r (ck (f+(1:Int)) fun s=>g s b c e) (ç ((ile 0 d)&&(ilt d (ñ b))) (ł b (Int.toNat d) fun t=>ck (t+a.2.2) fun u=>ç ((ile 0 a.2.1)&&(ilt a.2.1 (ñ b))) (ł b (Int.toNat a.2.1) fun w=>ifb (ige u w) (ck (f+(1:Int)) fun x=>g x b c e) (ç ((ile 0 d)&&(ilt d (ñ b))) (ł b (Int.toNat d) fun y=>ck (y+a.2.2) fun h=>ç ((ile 0 a.2.1)&&(ilt a.2.1 (ñ b))) (ł b (Int.toNat a.2.1) fun M=>ç ((ile 0 a.2.1)&&(ilt a.2.1 (ñ (List.set b (Int.toNat a.2.1) h)))) (ł (List.set b (Int.toNat a.2.1) h) (Int.toNat a.2.1) fun z=>ifb (ilt z j) (l (false,(List.set b (Int.toNat a.2.1) h),c,e)) (ç ((ile 0 a.2.1)&&(ilt a.2.1 (ñ c))) (ł c (Int.toNat a.2.1) fun A=>ifb (!A) (ç (î ((List.length e)+(List.length ([a.2.1])))) (ç ((ile 0 a.2.1)&&(ilt a.2.1 (ñ c))) (ł c (Int.toNat a.2.1) fun N=>ck (f+(1:Int)) fun B=>g B (List.set b (Int.toNat a.2.1) h) (List.set c (Int.toNat a.2.1) true) (e++([a.2.1]))))) (ck (f+(1:Int)) fun C=>g C (List.set b (Int.toNat a.2.1) h) c e))))))))))) (ç ((ile 0 d)&&(ilt d (ñ b))) (ł b (Int.toNat d) fun D=>ck (D+a.2.2) fun E=>ç ((ile 0 a.2.1)&&(ilt a.2.1 (ñ b))) (ł b (Int.toNat a.2.1) fun F=>ifb (ige E F) (ck (f+(1:Int)) fun G=>g G b c e) (ç ((ile 0 d)&&(ilt d (ñ b))) (ł b (Int.toNat d) fun H=>ck (H+a.2.2) fun i=>ç ((ile 0 a.2.1)&&(ilt a.2.1 (ñ b))) (ł b (Int.toNat a.2.1) fun O=>ç ((ile 0 a.2.1)&&(ilt a.2.1 (ñ (List.set b (Int.toNat a.2.1) i)))) (ł (List.set b (Int.toNat a.2.1) i) (Int.toNat a.2.1) fun I=>ifb (ilt I j) (l (false,(List.set b (Int.toNat a.2.1) i),c,e)) (ç ((ile 0 a.2.1)&&(ilt a.2.1 (ñ c))) (ł c (Int.toNat a.2.1) fun J=>ifb (!J) (ç (î ((List.length e)+(List.length ([a.2.1])))) (ç ((ile 0 a.2.1)&&(ilt a.2.1 (ñ c))) (ł c (Int.toNat a.2.1) fun P=>ck (f+(1:Int)) fun K=>g K (List.set b (Int.toNat a.2.1) i) (List.set c (Int.toNat a.2.1) true) (e++([a.2.1]))))) (ck (f+(1:Int)) fun L=>g L (List.set b (Int.toNat a.2.1) i) c e)))))))))))) (p (b,c,e))
def uY (l:Val ao) (m:Int) (n:Int) (k:Val ak) (h:Val aa) (d:Val aq) (b:Val aa) (c:Val aa) (o:Val aa→Val aq→Val aa→Val aa→Option ρ) (i:(Val (.pair .bool aO))→Option ρ):Option ρ :=
  ifb (ieq (Ú c) 0) (i (true,h,d,b,c)) (ç (ilt 0 (ñ c)) (ł c 0 fun a=>ç (ile 1 (ñ c)) (ç (decide (1+(List.length c-1)=List.length c)) (ç ((ile 0 a)&&(ilt a (ñ d))) (ł d (Int.toNat a) fun x=>ç ((ile 0 a)&&(ilt a (ñ b))) (ł b (Int.toNat a) fun p=>ck (p+(1:Int)) fun e=>ç ((ile 0 a)&&(ilt a (ñ b))) (ł b (Int.toNat a) fun y=>ç ((ile 0 a)&&(ilt a (ñ (List.set b (Int.toNat a) e)))) (ł (List.set b (Int.toNat a) e) (Int.toNat a) fun q=>ck (n+(1:Int)) fun r=>ifb (igt q r) (i (false,h,(List.set d (Int.toNat a) false),(List.set b (Int.toNat a) e),(List.drop 1 c))) (Ë (fun(f:(Val (.pair tI (.pair aa aM)))) s=>Dr l m a k (Ú k) f.1 f.2.1 f.2.2.1 f.2.2.2 (fun t u v w=>s (t,u,v,w)) (fun g=>i (g.1,g.2.1,g.2.2.1,(List.set b (Int.toNat a) e),g.2.2.2)) (fun j=>o j.1 j.2.1 (List.set b (Int.toNat a) e) j.2.2)) ((0:Int),h,(List.set d (Int.toNat a) false),(List.drop 1 c)))))))))))
def FN (a:Val Ì) (i:Val ao) (b:Int) (k:Val aa→Option ρ):Option ρ :=
  ç ((ile 0 a.1)&&(î (Int.toNat a.1))) (Ë (fun(f:Val œ) j=>oF (Ú (List.replicate (Int.toNat a.1) (0:Int))) f.1 f.2 (fun l m=>j (l,m)) (fun c=>ç ((ile 0 b)&&(ilt b (ñ c))) (ł c (Int.toNat b) fun B=>ç ((ile 0 a.1)&&(î (Int.toNat a.1))) (ç ((ile 0 a.1)&&(î (Int.toNat a.1))) (Ë (fun(g:Val Ã) n=>vc a.2 (Ú a.2) g.1 g.2 (fun o p=>n (o,p)) (fun q=>Ë (fun(e:(Val (.pair tI aM))) r=>uZ a.1 (List.set c (Int.toNat b) (0:Int)) e.1 e.2.1 e.2.2 (fun s t u=>r (s,t,u)) (fun h=>Ë (fun(d:Val aO) v=>uY i q a.1 a.2 d.1 d.2.1 d.2.2.1 d.2.2.2 (fun w x y z=>v (w,x,y,z)) (fun A=>k A.2.1)) ((List.set c (Int.toNat b) (0:Int)),h.1,(List.replicate (Int.toNat a.1) (0:Int)),h.2))) ((0:Int),(List.replicate (Int.toNat a.1) false),[]))) ((0:Int),(0:Int))))))) ((0:Int),(List.replicate (Int.toNat a.1) (0:Int))))
def pe (a:Val Ì) (b:Val ao) (c:Int):Option ((Val aa)):=FN a b c some
def rh (c:Int) (d:Int) (e:Val ak) (a:Int) (b:Val aa) (f:Int→Val aa→Option ρ) (g:Val aa→Option ρ):Option ρ :=
  ifb (ilt a c) (Ä (pe (d,e) ([]) a) fun h=>đ h (0:Int) fun i=>ç ((ile 0 a)&&(ilt a (ñ b))) (ł b (Int.toNat a) fun k=>ck (a+(1:Int)) fun j=>f j (List.set b (Int.toNat a) i))) (g b)
def rg (f:Val aa) (g:Int) (c:Val aa) (a:Int) (b:Val ab) (h:Int→Val ab→Option ρ) (i:Val ab→Option ρ):Option ρ :=
  ifb (ilt a g) (ç ((ile 0 a)&&(ilt a (ñ c))) (ł c (Int.toNat a) fun j=>ck (0-j) fun d=>đ f a fun e=>ç (î ((List.length b)+(List.length ([(d,e)])))) (ck (a+(1:Int)) fun k=>h k (b++([(d,e)]))))) (i b)
def Kz (a:Val Ì) (k:Val bg→Option ρ):Option ρ :=
  Ä (yo a ([])) fun b=>ifb (ine b 0) (k ([],b)) (Ä (pe a ([]) (0:Int)) fun c=>ç ((ile 0 a.1)&&(î (Int.toNat a.1))) (Ë (fun(d:Val œ) f=>rh (Ú (List.replicate (Int.toNat a.1) (0:Int))) a.1 a.2 d.1 d.2 (fun g h=>f (g,h)) (fun i=>Ë (fun(e:Val ba) j=>rg c (Ú c) i e.1 e.2 (fun l m=>j (l,m)) (fun n=>k (n,(0:Int)))) ((0:Int),[]))) ((0:Int),(List.replicate (Int.toNat a.1) (0:Int)))))
def ud (a:Val Ì):Option ((Val bg)):=Kz a some
def Fu (a:Val Ê) (b:Val Ã) (k:Val Cl→Option ρ):Option ρ :=
  Ä (lz a b) fun f=>ifb (ine f.2 0) (Ä (EB a b) fun c=>ifb (ine c.2 0) (k (((0:Int),(0:Int)),c.2)) (Ä (lz c.1 b) fun g=>Ä (g9 c.1) fun h=>Ä (ud h.1) fun d=>ifb (ine d.2 0) (k (((0:Int),(0:Int)),d.2)) (đ d.1 g.1 fun i=>k (i,(0:Int))))) (Ä (lz a b) fun j=>Ä (g9 a) fun l=>Ä (ud l.1) fun e=>ifb (ine e.2 0) (k (((0:Int),(0:Int)),e.2)) (đ e.1 j.1 fun m=>k (m,(0:Int))))
def ze (a:Val Ê) (b:Val Ã):Option (Val Cl):=Fu a b some
def oE (r:Int) (e:Int) (s:Val af) (t:Int) (f:Int) (g:Int) (h:Val ag) (i:Val ab) (j:Val ah) (l:Val ae) (m:Val ab) (n:Val ai) (c:Int) (a:Val aR) (o:Int→Val aR→Option ρ) (u:(Val (.pair tI aR))→Option ρ) (w:Val aR→Option ρ):Option ρ :=
  ifb (ilt c t) (đ s c fun p=>Ä (su (((f,g),h,i,j,l,m),n) p r e) fun d=>Ä (Ū (((f,g),h,i,j,l,m),n) p) fun x=>Ä (ze x (d,e)) fun b=>ifb (ine b.2 0) (u (b.2,a)) (MF (k:=tI) (v:=Ã) d a (fun q=>ck (c+(1:Int)) fun y=>o y (JB (k:=tI) (v:=Ã) d ((ZA b.1.1 q.1),(XS b.1.2 q.2)) a)) (ck (c+(1:Int)) fun z=>o z (JB (k:=tI) (v:=Ã) d b.1 a)))) (w a)
def oD (f:Val ag) (g:Int) (h:Val aR) (a:Int) (b:Val ak) (d:Int→Val ak→Option ρ) (i:Val ak→Option ρ):Option ρ :=
  ifb (ilt a g) (đ f a fun c=>MF (k:=tI) (v:=Ã) c.1 h (fun e=>ç (î ((List.length b)+(List.length ([(c.1,e)])))) (ck (a+(1:Int)) fun j=>d j (b++([(c.1,e)])))) (ck (a+(1:Int)) fun l=>d l b)) (i b)
def FD (a:Val Â) (c:Int) (d:Int) (k:(Val (.pair ak tI))→Option ρ):Option ρ :=
  Ä (gY a) fun e=>ifb (ine e 0) (k ([],e)) (Ä (tZ a c d) fun f=>ifb (ine f 0) (k ([],f)) (Ä (Es a) fun b=>ifb (ieq (Ú b) 0) (k ([],(5:Int))) (Ë (fun(g:(Val (.pair tI aR))) i=>oE c d b (Ú b) a.1.1.1 a.1.1.2 a.1.2.1 a.1.2.2.1 a.1.2.2.2.1 a.1.2.2.2.2.1 a.1.2.2.2.2.2 a.2 g.1 g.2 (fun j l=>i (j,l)) (fun m=>k ([],m.1)) (fun n=>Ë (fun(h:Val Ì) o=>oD a.1.2.1 (Ú a.1.2.1) n h.1 h.2 (fun p q=>o (p,q)) (fun r=>k (r,(0:Int)))) ((0:Int),[]))) ((0:Int),[]))))
def t8 (a:Val Â) (b:Int) (c:Int):Option ((Val (.pair ak tI))):=FD a b c some
def xo (a:Val aa) (y:Int) (b:Val aa→Option ρ):Option ρ :=
  ç (î ((List.length a)+(List.length ([y])))) (b (a++([y])))
def qP (h:Val aj) (i:Int) (j:Val ai) (c:Int) (k:Int→Option ρ) (d:Bool→Option ρ) (l:Unit→Option ρ):Option ρ :=
  ifb (ilt c i) (đ h c fun e=>đ j c fun f=>ifb (ine (Ú e) (Ú f.2)) (d false) (Ä (yX e) fun m=>ym (fun(n:Val aa) (o:Int) p=>xo n o (fun q=>p q)) m ([]) (fun g=>ç (î (List.length g)) (Ä (Eo (wM g)) fun a=>Ä (Eo f.2) fun b=>ifb (!((Ca a.1 b.1)&&((Ca a.2.1 b.2.1)&&((Ca a.2.2.1 b.2.2.1)&&((Ca a.2.2.2.1 b.2.2.2.1)&&((Ca a.2.2.2.2 b.2.2.2.2)&&true)))))) (d false) (ck (c+(1:Int)) fun r=>k r))))) (l ())
def J0 (b:Val Â) (a:Val aj) (k:Bool→Option ρ):Option ρ :=
  ifb (ine (Ú a) (Ú b.2)) (k false) (Ë (fun(c:Int) d=>qP a (Ú a) b.2 c (fun e=>d e) (fun f=>k f) (fun _=>k true)) (0:Int))
def Ep (a:Val Â) (b:Val aj):Option (Bool):=J0 a b some
def Kd (a:Val Â) (c:Val aj) (k:Int→Option ρ):Option ρ :=
  Ä (gY a) fun b=>ifb (ine b 0) (k b) (Ä (Ep a c) fun d=>ifb (!d) (k (1:Int)) (k (0:Int)))
def t7 (a:Val Â) (b:Val aj):Option (Int):=Kd a b some
def Xb (a:Val Â) (b:Val aj) (c:Int) (d:Int) (k:Val Ã→Option ρ):Option ρ :=
  Ä (t7 a b) fun e=>ifb (ine e 0) (k ((0:Int),e)) (Ä (tZ a c d) fun f=>ifb (ine f 0) (k ((0:Int),f)) (Ä (su a b c d) fun g=>k (g,(0:Int))))
def LX (a:Val Â) (b:Val aj) (c:Int) (d:Int):Option (Val Ã):=Xb a b c d some
def yP (c:Int) (a:Int) (b:Val aa) (d:Int→Val aa→Option ρ) (e:Val aa→Option ρ):Option ρ :=
  ifb (ilt a c) (ç ((ile 0 a)&&(ilt a (ñ b))) (ł b (Int.toNat a) fun g=>ck (a+(1:Int)) fun f=>d f (List.set b (Int.toNat a) (1152921504606846976:Int)))) (e b)
def QN (c:Int) (a:Int) (b:Val aa) (d:Int→Val aa→Option ρ) (e:Val aa→Option ρ):Option ρ :=
  ifb (ilt a c) (ç ((ile 0 a)&&(ilt a (ñ b))) (ł b (Int.toNat a) fun g=>ck (a+(1:Int)) fun f=>d f (List.set b (Int.toNat a) (1152921504606846976:Int)))) (e b)
def Dq (d:Val aa) (f:Val ak) (g:Int) (c:Int) (b:Val aa) (e:Int→Val aa→Option ρ) (h:Val aa→Option ρ):Option ρ :=
  ifb (ilt c g) (đ f c fun a=>đ d a.2.1 fun i=>ifb (ine i 1152921504606846976) (ç ((ile 0 a.1)&&(ilt a.1 (ñ b))) (ł b (Int.toNat a.1) fun j=>đ d a.2.1 fun k=>ck (a.2.2+k) fun l=>ç ((ile 0 a.1)&&(ilt a.1 (ñ b))) (ł b (Int.toNat a.1) fun o=>ck (c+(1:Int)) fun m=>e m (List.set b (Int.toNat a.1) (ZA j l))))) (ck (c+(1:Int)) fun n=>e n b)) (h b)
def II (i:Int) (b:Int) (d:Val ak) (e:Int) (a:Val aj) (j:Int→Val aj→Option ρ) (k:Val aj→Option ρ):Option ρ :=
  ifb (ilt e i) (ck ((Ú a)-(1:Int)) fun c=>ç ((ile 0 c)&&(ilt c (ñ a))) (ł a (Int.toNat c) fun l=>ç ((ile 0 b)&&(î (Int.toNat b))) (Ë (fun(f:Val œ) m=>QN (Ú (List.replicate (Int.toNat b) (0:Int))) f.1 f.2 (fun n o=>m (n,o)) (fun p=>Ë (fun(g:Val œ) q=>Dq l d (Ú d) g.1 g.2 (fun r s=>q (r,s)) (fun h=>ç (î ((List.length a)+(List.length ([h])))) (ck (e+(1:Int)) fun t=>j t (a++([h]))))) ((0:Int),p))) ((0:Int),(List.replicate (Int.toNat b) (0:Int)))))) (k a)
def Kt (a:Val Ì) (b:Int) (f:Int) (k:Val aj→Option ρ):Option ρ :=
  ç ((ile 0 a.1)&&(î (Int.toNat a.1))) (Ë (fun(d:Val œ) g=>yP (Ú (List.replicate (Int.toNat a.1) (0:Int))) d.1 d.2 (fun h i=>g (h,i)) (fun c=>ç ((ile 0 b)&&(ilt b (ñ c))) (ł c (Int.toNat b) fun o=>Ë (fun(e:Val bf) j=>II f a.1 a.2 e.1 e.2 (fun l m=>j (l,m)) (fun n=>k n)) ((0:Int),[(List.set c (Int.toNat b) (0:Int))])))) ((0:Int),(List.replicate (Int.toNat a.1) (0:Int))))
def Ew (a:Val Ì) (b:Int) (c:Int):Option ((Val aj)):=Kt a b c some
def nz (d:Int) (c:Int) (e:Val ak) (a:Int) (b:Val af) (f:Int→Val af→Option ρ) (g:Val af→Option ρ):Option ρ :=
  ifb (ilt a d) (Ä (Ew (c,e) a c) fun h=>ç ((ile 0 a)&&(ilt a (ñ b))) (ł b (Int.toNat a) fun j=>ck (a+(1:Int)) fun i=>f i (List.set b (Int.toNat a) h))) (g b)
def G8 (g:Int) (h:Val aj) (j:Val ak) (k:Int) (e:Int) (b:Int) (a:Int) (c:Val aa) (f:Int→Int→Int→Val aa→Option ρ) (i:Val aQ→Option ρ):Option ρ :=
  ifb (ilt a k) (đ j a fun d=>ifb (ieq d.1 e) (ck (g-(1:Int)) fun l=>đ h l fun m=>đ m d.2.1 fun n=>ifb (ine n 1152921504606846976) (ck (b+d.2.2) fun o=>ck (g-(1:Int)) fun p=>đ h p fun q=>đ q d.2.1 fun r=>ck (o+r) fun s=>ifb (ilt s 0) (ç (î ((List.length c)+(List.length ([a])))) (ck (b+d.2.2) fun t=>i (d.2.1,t,(c++([a]))))) (ck (a+(1:Int)) fun u=>f e b u c)) (ck (a+(1:Int)) fun v=>f e b v c)) (ck (a+(1:Int)) fun w=>f e b w c)) (i (e,b,c))
def xU (f:Val aj) (d:Val ak) (g:Int) (b:Int) (h:Int) (e:Val aa) (i:Int→Int→Int→Val aa→Option ρ) (j:Val aa→Option ρ):Option ρ :=
  ifb (igt b 0) (Ë (fun(a:(Val (.pair tI aQ))) k=>G8 b f d (Ú d) a.1 a.2.1 a.2.2.1 a.2.2.2 (fun l m n o=>k (l,m,n,o)) (fun c=>ck (b-(1:Int)) fun p=>i c.1 p c.2.1 c.2.2)) (g,h,(0:Int),e)) (j e)
def ny (e:Int) (h:Val ak) (i:Int) (j:Int) (k:Val ak) (b:Val af) (c:Int) (f:Int→Option ρ) (l:Unit→Option ρ) (m:Val œ→Option ρ) (n:Unit→Option ρ):Option ρ :=
  ifb (ilt c i) (đ h c fun a=>ç ((ile 0 a.1)&&(ilt a.1 (ñ b))) (ł b (Int.toNat a.1) fun o=>ck (e-(1:Int)) fun p=>đ o p fun q=>đ q a.2.1 fun g=>ifb (ieq g 1152921504606846976) (ck (c+(1:Int)) fun r=>f r) (ck (a.2.2+g) fun s=>ifb (ige s 0) (ck (c+(1:Int)) fun t=>f t) (ifb (igt e j) (l ()) (ç ((ile 0 a.1)&&(ilt a.1 (ñ b))) (ł b (Int.toNat a.1) fun u=>Ë (fun(d:(Val (.pair tI aQ))) v=>xU u k d.1 d.2.1 d.2.2.1 d.2.2.2 (fun w x y z=>v (w,x,y,z)) (fun A=>m ((0:Int),A))) (a.1,e,(0:Int),[]))))))) (n ())
def ri (d:Int) (a:Val ak) (e:Val af) (b:Int) (f:Int→Option ρ) (g:Unit→Option ρ) (h:Val œ→Option ρ):Option ρ :=
  Ë (fun(i:Int) j=>ny b a (Ú a) d a e i (fun k=>j k) (fun _=>g ()) (fun c=>h (c.1,c.2)) (fun _=>ck (b+(1:Int)) fun l=>f l)) (0:Int)
def Dx (a:Val Ì) (k:Val aw→Option ρ):Option ρ :=
  Ä (nS a) fun b=>ifb (ine b.1 0) (k ([],b.1)) (Ä (i7 a ([])) fun e=>ifb e.2 (k ([],(5:Int))) (ç ((ile 0 a.1)&&(î (Int.toNat a.1))) (Ë (fun(c:Val az) f=>nz (Ú (List.replicate (Int.toNat a.1) ([]:Val aj))) a.1 a.2 c.1 c.2 (fun g h=>f (g,h)) (fun i=>Ë (fun(j:Int) l=>ri a.1 a.2 i j (fun m=>l m) (fun _=>k ([],(5:Int))) (fun d=>k (d.2,d.1))) (1:Int))) ((0:Int),(List.replicate (Int.toNat a.1) ([]:Val aj))))))
def nR (a:Val Ì):Option ((Val aw)):=Dx a some
def qW (d:Val af) (e:Int) (f:Int) (g:Int) (h:Val ag) (i:Val ab) (j:Val ah) (k:Val ae) (l:Val ab) (m:Val ai) (b:Int) (a:Val aj) (n:Int→Val aj→Option ρ) (o:Val bf→Option ρ) (p:Val aj→Option ρ):Option ρ :=
  ifb (ilt b e) (đ d b fun q=>Ä (Ū (((f,g),h,i,j,k,l),m) q) fun r=>Ä (g9 r) fun s=>Ä (nR s.1) fun c=>ifb (ine c.2 0) (o ((5:Int),a)) (ç (î ((List.length a)+(List.length ([c.1])))) (ck (b+(1:Int)) fun t=>n t (a++([c.1]))))) (p a)
def Kh (a:Val Â) (k:(Val (.pair aj tI))→Option ρ):Option ρ :=
  Ä (gY a) fun b=>ifb (ine b 0) (k ([],b)) (Ä (rL a) fun c=>Ë (fun(d:Val bf) e=>qW c (Ú c) a.1.1.1 a.1.1.2 a.1.2.1 a.1.2.2.1 a.1.2.2.2.1 a.1.2.2.2.2.1 a.1.2.2.2.2.2 a.2 d.1 d.2 (fun f g=>e (f,g)) (fun h=>k ([],h.1)) (fun i=>k (i,(0:Int)))) ((0:Int),[]))
def Et (a:Val Â):Option ((Val (.pair aj tI))):=Kh a some
def mN (d:Val aa) (e:Int) (f:Val ak) (a:Int) (g:Int→Option ρ) (b:Int→Option ρ) (h:Unit→Option ρ):Option ρ :=
  ifb (ilt a e) (đ d a fun c=>ifb (ilt c 0) (b a) (ifb (ige c (Ú f)) (b a) (ck (a+(1:Int)) fun i=>g i))) (h ())
def BF (b:Val Ì) (a:Val aa) (k:Int→Option ρ):Option ρ :=
  ifb (igt (Ú a) 80) (k (2:Int)) (Ë (fun(c:Int) d=>mN a (Ú a) b.2 c (fun e=>d e) (fun f=>ifb (ige f 0) (k (1:Int)) (k (0:Int))) (fun _=>k (0:Int))) (0:Int))
def vJ (a:Val Ì) (b:Val aa):Option (Int):=BF a b some
def uW (e:Val aa) (f:Int) (g:Val ak) (c:Int) (d:Int) (a:Int) (h:Int→Int→Int→Option ρ) (i:(Val (.pair tI (.pair tI .bool)))→Option ρ) (j:Val Ã→Option ρ):Option ρ :=
  ifb (ilt a f) (đ e a fun k=>đ g k fun b=>ifb (ine b.1 c) (i ((0:Int),(0:Int),false)) (ck (d+b.2.2) fun l=>ck (a+(1:Int)) fun m=>h b.2.1 l m)) (j (c,d))
def QL (e:Val Ì) (f:Int) (c:Val aa) (k:(Val (.pair tI (.pair tI .bool)))→Option ρ):Option ρ :=
  Ë (fun(a:Val ŕ) g=>uW c (Ú c) e.2 a.1 a.2.1 a.2.2 (fun h i j=>g (h,i,j)) (fun b=>k (b.1,b.2.1,b.2.2)) (fun d=>k (d.1,d.2,true))) (f,(0:Int),(0:Int))
def IW (a:Val Ì) (b:Int) (c:Val aa):Option ((Val (.pair tI (.pair tI .bool)))):=QL a b c some
def si (a:Val Ì) (b:Val aa) (k:Int→Option ρ):Option ρ :=
  Ä (nS a) fun d=>ifb (ine d.1 0) (k d.1) (Ä (vJ a b) fun e=>ifb (ine e 0) (k e) (ifb (ieq (Ú b) 0) (k (8:Int)) (đ b (0:Int) fun g=>đ a.2 g fun f=>Ä (IW a f.1 b) fun c=>ifb (!c.2.2) (k (8:Int)) (ifb (ine c.1 f.1) (k (8:Int)) (ifb (ige c.2.1 0) (k (8:Int)) (k (0:Int)))))))
def mQ (a:Val Ì) (b:Val aa):Option (Int):=si a b some
def jg (b:Val aj) (c:Val af) (d:Int) (e:Int) (f:Int) (g:Val ag) (h:Val ab) (i:Val ah) (j:Val ae) (k:Val ab) (l:Val ai) (a:Int) (m:Int→Option ρ) (n:Int→Option ρ) (o:Unit→Option ρ):Option ρ :=
  ifb (ilt a d) (đ c a fun p=>Ä (Ū (((e,f),g,h,i,j,k),l) p) fun q=>Ä (g9 q) fun r=>đ b a fun s=>Ä (mQ r.1 s) fun t=>ifb (ine t 0) (n (8:Int)) (ck (a+(1:Int)) fun u=>m u)) (o ())
def sd (a:Val Â) (c:Val aj) (k:Int→Option ρ):Option ρ :=
  Ä (gY a) fun d=>ifb (ine d 0) (k d) (Ä (rL a) fun b=>ifb (ine (Ú c) (Ú b)) (k (8:Int)) (Ë (fun(e:Int) f=>jg c b (Ú b) a.1.1.1 a.1.1.2 a.1.2.1 a.1.2.2.1 a.1.2.2.2.1 a.1.2.2.2.2.1 a.1.2.2.2.2.2 a.2 e (fun g=>f g) (fun h=>k h) (fun _=>k (0:Int))) (0:Int)))
def jI (a:Val Â) (b:Val aj):Option (Int):=sd a b some
def GZ (a:Val ae) (k:Val Â→Option ρ):Option ρ :=
  ç (î ((List.length ([((7:Int),(10:Int),[(1:Int)],[(2:Int)],(-20:Int),(1:Int),(100:Int),(200:Int))]))+(List.length a))) (k ((((0:Int),(2:Int)),[((1:Int),(0:Int),(1000:Int),((-5:Int),(5:Int)),((1:Int),(10:Int)),(1:Int)),((2:Int),(0:Int),(1000:Int),((-50:Int),(50:Int)),((1:Int),(4:Int)),(0:Int)),((3:Int),(0:Int),(1100:Int),((-1:Int),(1:Int)),((0:Int),(1:Int)),(0:Int))],[((1:Int),(10:Int))],[((1:Int),((20:Int),(29:Int)),(3:Int))],(([((7:Int),(10:Int),[(1:Int)],[(2:Int)],(-20:Int),(1:Int),(100:Int),(200:Int))])++a),[]),[((12:Int),[(2:Int),(3:Int)])]))
def ŭ (a:Val ae):Option (Val Â):=GZ a some
def Bj (k:Bool→Option ρ):Option ρ :=
  Ä (ŭ ([])) fun m=>Ä (IU m) fun b=>Ä (ŭ ([])) fun n=>Ä (Gj n) fun f=>Ä (ŭ ([((8:Int),(15:Int),[(2:Int)],[(1:Int)],(100:Int),(1:Int),(0:Int),(0:Int))])) fun o=>Ä (Eu o) fun g=>Ä (ŭ ([((8:Int),(15:Int),[(2:Int)],[(1:Int)],(100:Int),(1:Int),(0:Int),(0:Int))])) fun p=>Ä (t8 p (2:Int) (15:Int)) fun c=>Ä (ŭ ([((8:Int),(15:Int),[(2:Int)],[(1:Int)],(100:Int),(1:Int),(0:Int),(0:Int)),((9:Int),(15:Int),[(3:Int)],[],(1100:Int),(0:Int),(0:Int),(0:Int))])) fun a=>Ä (IV a) fun h=>Ä (rM a ([(7:Int),(8:Int),(9:Int)])) fun i=>Ä (oK a (2:Int)) fun j=>ifb (ine b.2 0) (k false) (ifb (ine f.2 0) (k false) (ifb (ine g.2 0) (k false) (ifb (ine c.2 0) (k false) (ifb (ine h.2 0) (k false) (ifb (ine i.2 0) (k false) (ifb (ine j.2 0) (k false) (ifb (ine (Ú b.1) 2) (k false) (ifb (ine (Ú f.1) 2) (k false) (ifb j.1 (k false) (Ä (Et a) fun d=>đ b.1 (1:Int) fun q=>Ä (LX a q (2:Int) (13:Int)) fun l=>ifb (ine d.2 0) (k false) (ifb (ine l.2 0) (k false) (ifb (ine l.1 3) (k false) (Ä (jI a d.1) fun r=>ifb (ine r 0) (k false) (Ä (ŭ ([])) fun s=>Ä (jI s d.1) fun t=>ifb (ine t 8) (k false) (Ä (rN g.1 ([[(3:Int),(2:Int)]])) fun u=>ifb u (ifb (ieq (Ú c.1) 1) (đ c.1 (0:Int) fun e=>ifb ((Ca e.1 (3:Int))&&((Ca e.2.1 (1099:Int))&&((Ca e.2.2 (1101:Int))&&true))) (Ä (jj h.1 ([(8:Int),(9:Int)])) fun v=>ifb v (Ä (jj i.1 ([(8:Int),(9:Int)])) fun w=>k w) (k false)) (k false)) (k false)) (k false))))))))))))))))
def i5:Option (Bool):=Bj some
def uO (a:Val Â) (b:Val aj) (k:(Val (.pair Ê tI))→Option ρ):Option ρ :=
  Ä (t7 a b) fun c=>ifb (ine c 0) (k ((((0:Int),(0:Int)),[],[],[],[],[]),c)) (Ä (Ū a b) fun d=>k (d,(0:Int)))
def oL (a:Val Â) (b:Val aj):Option ((Val (.pair Ê tI))):=uO a b some
def ξ (b:Val aa) (c:Int) (a:Int) (d:Int→Option ρ) (e:Int→Option ρ) (f:Unit→Option ρ):Option ρ :=
  ifb (ilt a c) (đ b a fun g=>Ä (ĕ g (-4503599627370496:Int) (4503599627370496:Int)) fun h=>ifb (!h) (e a) (ck (a+(1:Int)) fun i=>d i)) (f ())
def mw (b:Val aD) (a:Val aa) (k:Int→Option ρ):Option ρ :=
  ifb (ine (Ú a) (Ú b.2.1)) (k (1:Int)) (Ë (fun(c:Int) d=>ξ a (Ú a) c (fun e=>d e) (fun f=>ifb (ige f 0) (k (1:Int)) (k (0:Int))) (fun _=>k (0:Int))) (0:Int))
def jk (a:Val aD) (b:Val aa):Option (Int):=mw a b some
def vf (d:Val aa) (e:Int) (a:Int) (f:Int→Option ρ) (b:Int→Option ρ) (g:Unit→Option ρ):Option ρ :=
  ifb (ilt a e) (đ d a fun c=>ifb (ilt c (-1152921504606846976:Int)) (b a) (ifb (igt c 1152921504606846976) (b a) (ck (a+(1:Int)) fun h=>f h))) (g ())
def mr (c:Val aa) (d:Val ak) (e:Int) (a:Int) (f:Int→Option ρ) (g:Val aH→Option ρ) (h:Unit→Option ρ):Option ρ :=
  ifb (ilt a e) (đ d a fun b=>đ c b.2.1 fun i=>đ c b.1 fun j=>ck (j+b.2.2) fun k=>ifb (igt i k) (g (false,(0:Int))) (ck (a+(1:Int)) fun l=>f l)) (h ())
def QW (b:Val Ì) (a:Val aa) (k:Val aH→Option ρ):Option ρ :=
  Ä (nS b) fun c=>ifb (ine c.1 0) (k (false,c.1)) (ifb (ine (Ú a) b.1) (k (false,(1:Int))) (Ë (fun(f:Int) g=>vf a (Ú a) f (fun h=>g h) (fun i=>ifb (ige i 0) (k (false,(1:Int))) (Ë (fun(j:Int) l=>mr a b.2 (Ú b.2) j (fun m=>l m) (fun d=>k (d.1,d.2)) (fun _=>đ a (0:Int) fun n=>k (ieq n 0,(0:Int)))) (0:Int))) (fun _=>Ë (fun(o:Int) p=>mr a b.2 (Ú b.2) o (fun q=>p q) (fun e=>k (e.1,e.2)) (fun _=>đ a (0:Int) fun r=>k (ieq r 0,(0:Int)))) (0:Int))) (0:Int)))
def IX (a:Val Ì) (b:Val aa):Option ((Val aH)):=QW a b some
def sl (b:Val aD) (a:Val aa) (k:Bool→Option ρ):Option ρ :=
  ç (î ((List.length ([(0:Int)]))+(List.length a))) (Ä (IX b.2.2.1 (([(0:Int)])++a)) fun c=>k c.1)
def mR (a:Val aD) (b:Val aa):Option (Bool):=sl a b some
def RF (a:Val Ê) (b:Val aa) (k:Val aH→Option ρ):Option ρ :=
  Ä (ż a) fun c=>ifb (ine c 0) (k (false,c)) (Ä (Ez a) fun d=>Ä (jk d b) fun e=>ifb (ine e 0) (k (false,e)) (Ä (mR d b) fun f=>k (f,(0:Int))))
def IZ (a:Val Ê) (b:Val aa):Option ((Val aH)):=RF a b some
def xE (a:Val Â) (b:Val aj) (d:Val aa) (k:Int→Option ρ):Option ρ :=
  Ä (t7 a b) fun c=>ifb (ine c 0) (k c) (Ä (Ū a b) fun e=>Ä (IZ e d) fun f=>ifb (!f.1) (k (8:Int)) (k (0:Int)))
def nQ (a:Val Â) (b:Val aj) (c:Val aa):Option (Int):=xE a b c some
def KM (a:Val Ì) (b:Int) (c:Int) (k:Val Ã→Option ρ):Option ρ :=
  Ä (yo a ([b,c])) fun d=>ifb (ine d 0) (k ((0:Int),d)) (Ä (pe a ([]) b) fun f=>đ f c fun e=>ifb (ieq e 1152921504606846976) (k ((0:Int),(5:Int))) (k (e,(0:Int))))
def Ex (a:Val Ì) (b:Int) (c:Int):Option (Val Ã):=KM a b c some
def KB (a:Val Ì) (b:Int) (c:Int) (k:Val aw→Option ρ):Option ρ :=
  Ä (Ex a b c) fun d=>ifb (ine d.2 0) (k ([],d.2)) (ç (î (List.length a.2)) (ck (0-d.1) fun e=>ç (î ((List.length a.2)+(List.length ([(c,b,e)])))) (Ä (i7 (a.1,(a.2++([(c,b,e)]))) ([])) fun f=>k (f.1,(0:Int)))))
def pV (a:Val Ì) (b:Int) (c:Int):Option ((Val aw)):=KB a b c some
def iA (z:Int) (w:Int) (e:Val ak) (h:Val af) (f:Int) (j:Int) (k:Int) (l:Val ag) (m:Val ab) (n:Val ah) (o:Val ae) (p:Val ab) (q:Val ai) (s:Bool) (r:Bool) (c:Int) (i:Bool→Bool→Int→Option ρ) (a:Bool→Option ρ) (A:(Val (.pair .bool .bool))→Option ρ):Option ρ :=
  ifb (ilt c (Ú h)) (đ h c fun B=>Ä (LX (((j,k),l,m,n,o,p),q) B z w) fun t=>đ h c fun C=>Ä (oL (((j,k),l,m,n,o,p),q) C) fun u=>ifb (ine t.2 0) (a false) (ifb (ine u.2 0) (a false) (đ e f fun D=>ifb (ine t.1 D.1) (ck (c+(1:Int)) fun E=>i s r E) (Ä (lz u.1 (t.1,w)) fun b=>Ä (g9 u.1) fun v=>Ä (pV v.1 (0:Int) b.1) fun d=>Ä (pV v.1 b.1 (0:Int)) fun g=>ifb (ine b.2 0) (a false) (ifb (ine v.2.2 0) (a false) (ifb (ine d.2 0) (a false) (ifb (ine g.2 0) (a false) (ifb (ilt b.1 0) (a false) (ifb (ige b.1 (Ú d.1)) (a false) (ifb (ige b.1 (Ú g.1)) (a false) (đ h c fun F=>ç (ile 1 (ñ d.1)) (Ä (nQ (((j,k),l,m,n,o,p),q) F (List.drop 1 d.1)) fun G=>ifb (ine G 0) (a false) (đ h c fun H=>ç (ile 1 (ñ g.1)) (Ä (nQ (((j,k),l,m,n,o,p),q) H (List.drop 1 g.1)) fun I=>ifb (ine I 0) (a false) (đ d.1 b.1 fun J=>đ e f fun K=>ifb (igt J K.2.2) (a false) (đ g.1 b.1 fun L=>đ e f fun M=>ifb (ilt L M.2.1) (a false) (ifb s (ifb r (ck (c+(1:Int)) fun N=>i true true N) (đ d.1 b.1 fun O=>đ e f fun P=>ck (c+(1:Int)) fun Q=>i true (ieq O P.2.2) Q)) (đ g.1 b.1 fun x=>đ e f fun y=>ifb r (ck (c+(1:Int)) fun R=>i (ieq x y.2.1) true R) (đ d.1 b.1 fun S=>đ e f fun T=>ck (c+(1:Int)) fun U=>i (ieq x y.2.1) (ieq S T.2.2) U))))))))))))))))))) (A (s,r))
def iB (f:Int) (g:Int) (d:Val ak) (h:Val af) (i:Int) (j:Int) (k:Val ag) (l:Val ab) (m:Val ah) (n:Val ae) (o:Val ab) (p:Val ai) (a:Int) (q:Int→Option ρ) (b:Bool→Option ρ) (r:Unit→Option ρ):Option ρ :=
  ifb (ilt a (Ú d)) (Ë (fun(c:(Val (.pair .bool aH))) s=>iA f g d h a i j k l m n o p c.1 c.2.1 c.2.2 (fun t u v=>s (t,u,v)) (fun w=>b w) (fun e=>ifb (!e.1) (b false) (ifb (!e.2) (b false) (ck (a+(1:Int)) fun x=>q x)))) (false,false,(0:Int))) (r ())
def uI (a:Val Â) (c:Int) (d:Int) (k:Bool→Option ρ):Option ρ :=
  Ä (zc a) fun h=>ifb (!h) (Ä i5 fun i=>k i) (Ä (t8 a c d) fun e=>ifb (ine e.2 0) (Ä i5 fun j=>k j) (Ä (lz a.1 (c,d)) fun l=>ifb (ine l.2 0) (Ä (EB a.1 (c,d)) fun b=>ifb (ine b.2 0) (Ä i5 fun m=>k m) (Ä (Gj (b.1,a.2)) fun f=>ifb (ine f.2 0) (k false) (ifb (ieq (Ú f.1) 0) (k false) (Ë (fun(n:Int) o=>iB c d e.1 f.1 b.1.1.1 b.1.1.2 b.1.2.1 b.1.2.2.1 b.1.2.2.2.1 b.1.2.2.2.2.1 b.1.2.2.2.2.2 a.2 n (fun p=>o p) (fun q=>k q) (fun _=>Ä i5 fun r=>k r)) (0:Int))))) (Ä (Gj a) fun g=>ifb (ine g.2 0) (k false) (ifb (ieq (Ú g.1) 0) (k false) (Ë (fun(s:Int) t=>iB c d e.1 g.1 a.1.1.1 a.1.1.2 a.1.2.1 a.1.2.2.1 a.1.2.2.2.1 a.1.2.2.2.2.1 a.1.2.2.2.2.2 a.2 s (fun u=>t u) (fun v=>k v) (fun _=>Ä i5 fun w=>k w)) (0:Int))))))
def vI (a:Val Â) (b:Int) (c:Int):Option (Bool):=uI a b c some
end Go.Proofs.ZzM
end
