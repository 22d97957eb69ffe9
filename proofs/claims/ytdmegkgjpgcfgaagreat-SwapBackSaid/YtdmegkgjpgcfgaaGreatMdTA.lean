/- lemmas -/
import Derived.Test.YtdmegkgjpgcfgaaGreatAmE
set_option linter.all false
set_option linter.unusedSectionVars false
set_option linter.unusedVariables false
set_option linter.unusedSimpArgs false
noncomputable section
variable {ρ:Type}
set_option maxRecDepth 100000
namespace Go.Proofs.ZzM
open Go Go.Am
abbrev tI:Ty:=.int .i64
abbrev Ä:Ty:=(.pair tI tI)
abbrev Ō:Ty:=(.pair tI Ä)
abbrev ŋ:Ty:=(.pair tI (.slice tI))
abbrev Ĕ:Ty:=(.pair Ä Ä)
abbrev B7:Ty:=(.pair Ä tI)
abbrev iC:Ty:=(.pair tI B7)
abbrev abf:Ty:=(.pair Ĕ tI)
abbrev Í:Ty:=(.pair tI (.slice Ō))
abbrev B6:Ty:=(.pair (.slice Ō) (.slice Ä))
abbrev Ô:Ty:=(.pair tI (.pair tI (.pair tI (.pair Ä B7))))
abbrev Ö:Ty:=(.pair tI (.pair tI (.pair (.slice tI) (.pair (.slice tI) (.pair tI Ō)))))
abbrev É:Ty:=(.pair Ä (.pair (.slice Ô) (.pair (.slice Ä) (.pair (.slice iC) (.pair (.slice Ö) (.slice Ä))))))
abbrev Â:Ty:=(.pair É (.slice ŋ))
abbrev agm:Ty:=(.pair É (.pair (.slice Ä) (.pair Í (.slice Ä))))
def yx (l:List Int):Option (List Int):=è (î l.length) (some l)
def EZ:Nat→List Int→List (List Int)
  |0,_=>[[]]
  |n+1,l=>if l.length=0 then[[]] else(List.range l.length).flatMap fun i=>(EZ n (l.take i++l.drop (i+1))).map (l.getD i 0::·)
def iA:List (Int×List Int)→List (List (List Int))
  |[]=>[[]]
  |m::r=>(EZ m.2.length m.2).flatMap fun x=>(iA r).map (x::·)
def yy (l:List Int):Option (List (List Int)):=è (decide (l.length≤9)) (some (EZ l.length l))
def l5 (l:List (Int×List Int)):Option (List (List (List Int))):=è (decide (l.length≤9)&&l.all fun m=>decide (m.2.length≤9)) (some (iA l))
abbrev aa:Ty:=(.slice Ä)
abbrev ab:Ty:=(.slice tI)
abbrev ac:Ty:=(.slice Ö)
abbrev ae:Ty:=(.slice Ô)
abbrev af:Ty:=(.slice iC)
abbrev ag:Ty:=(.slice ab)
abbrev ah:Ty:=(.pair tI (.pair tI (.pair ae (.pair aa (.pair af (.pair ac (.pair aa (.slice ŋ))))))))
abbrev ai:Ty:=(.slice ŋ)
abbrev aj:Ty:=(.slice ag)
abbrev ak:Ty:=(.slice Ō)
abbrev am:Ty:=(.map tI Ô)
abbrev ao:Ty:=(.map tI .bool)
abbrev aq:Ty:=(.slice .bool)
abbrev ar:Ty:=(.pair tI (.pair tI (.pair ae (.pair aa (.pair af (.pair ac aa))))))
abbrev au:Ty:=(.ptr Â)
abbrev aw:Ty:=(.pair tI (.pair aj ah))
abbrev ax:Ty:=(.pair tI (.pair tI (.pair ae (.pair aa (.pair af (.pair ac (.pair aa (.pair ai ah))))))))
abbrev ay:Ty:=(.pair ab tI)
abbrev az:Ty:=(.pair tI (.pair tI (.pair tI (.pair tI (.pair tI Ō)))))
abbrev aB:Ty:=(.pair tI aj)
abbrev aD:Ty:=(.pair tI ah)
abbrev aE:Ty:=(.pair ab (.pair tI (.pair tI (.pair tI (.pair ae (.pair aa (.pair af (.pair ac (.pair aa (.pair tI (.pair ab (.map tI tI))))))))))))
abbrev aF:Ty:=(.ptr ag)
abbrev aG:Ty:=(.pair Â ag)
abbrev aH:Ty:=(.pair tI (.pair tI (.pair ae (.pair aa (.pair af (.pair ac (.pair aa ar)))))))
abbrev aI:Ty:=(.map tI tI)
abbrev aJ:Ty:=(.pair tI (.pair tI (.pair tI (.pair ae (.pair aa (.pair af (.pair ac (.pair aa az))))))))
abbrev aK:Ty:=(.pair É Ä)
abbrev aL:Ty:=(.pair aq ab)
abbrev aM:Ty:=(.pair ab (.pair aq (.pair ab ab)))
abbrev aO:Ty:=(.pair tI (.pair tI (.pair tI (.pair tI (.pair tI aw)))))
abbrev aP:Ty:=(.pair Â (.pair ag Ä))
abbrev aQ:Ty:=(.pair tI ŋ)
abbrev aR:Ty:=(.map tI Ä)
abbrev aS:Ty:=(.pair tI Í)
abbrev aT:Ty:=(.pair ab (.pair tI (.pair tI ay)))
abbrev aU:Ty:=(.pair tI ac)
abbrev aV:Ty:=(.ptr agm)
abbrev aW:Ty:=(.pair .bool tI)
abbrev aX:Ty:=(.pair ab ŋ)
abbrev aY:Ty:=(.pair É Ö)
abbrev aZ:Ty:=(.pair Â Ä)
abbrev ba:Ty:=(.pair tI aa)
abbrev bc:Ty:=(.pair ag tI)
abbrev bf:Ty:=(.pair tI ag)
abbrev bg:Ty:=(.pair aa tI)
abbrev bh:Ty:=(.pair ab (.pair ai ab))
abbrev bi:Ty:=(.pair tI (.pair tI aD))
abbrev bj:Ty:=(.pair (.int .u64) (.int .u64))
abbrev bm:Ty:=(.pair Í ab)
abbrev bn:Ty:=(.pair É (.pair am tI))
abbrev bo:Ty:=(.pair tI (.pair tI (.pair ak Í)))
def ž (d:Val ag) (e:Int) (b:Int) (a:Int) (f:Int→Int→Option ρ) (g:Int→Option ρ):Option ρ :=
  ifb (ilt a e) (Ċ d a fun h=>ck (b+(Ø h)) fun c=>ifb (ilt c 0) (none) (ck (a+(1:Int)) fun i=>f c i)) (g b)
def Ĝ (d:Val ag) (e:Int) (a:Int) (b:Val ab) (f:Int→Val ab→Option ρ) (g:Val ab→Option ρ):Option ρ :=
  ifb (ilt a e) (Ċ d a fun c=>è (î ((List.length b)+(List.length c))) (ck (a+(1:Int)) fun h=>f h (b++c))) (g b)
def kE (a:Val ag) (k:Val ab→Option ρ):Option ρ :=
  Ê (fun(c:Val Ä) g=>ž a (Ø a) c.1 c.2 (fun h i=>g (h,i)) (fun d=>ifb (ilt d 0) (none) (ck (d-(0:Int)) fun b=>ifb (igt b 0) (è ((ilt 0 b)&&(î (Int.toNat b))) (è (ile 0 (ñ (List.replicate (Int.toNat b) (0:Int)))) (Ê (fun(e:Val ŋ) j=>Ĝ a (Ø a) e.1 e.2 (fun l m=>j (l,m)) (fun n=>k n)) ((0:Int),(List.take 0 (List.replicate (Int.toNat b) (0:Int))))))) (Ê (fun(f:Val ŋ) o=>Ĝ a (Ø a) f.1 f.2 (fun p q=>o (p,q)) (fun r=>k r)) ((0:Int),[]))))) ((0:Int),(0:Int))
def Ĥ (a:Val ag):Option ((Val ab)):=kE a some
def o8 (al:Val ag) (rec:Val ab→Option ((Val ag))) (a:Int) (b:Val ag) (y:Val ab) (c:Val ag→Option ρ):Option ρ :=
  è (î ((List.length ([a]))+(List.length y))) (yg al (b++[(([a])++y)]) (c (b++[(([a])++y)])))
def o9 (al:Val ag) (rec:Val ab→Option ((Val ag))) (e:Val ab) (f:Int) (b:Val ab) (a:Int) (d:Val ag) (g:Int→Val ag→Option ρ) (h:Val ag→Option ρ):Option ρ :=
  ifb (ilt a f) (Ċ e a fun i=>è ((ile 0 a)&&(ile a (ñ b))) (ck (a+(1:Int)) fun c=>è ((ile 0 c)&&(ile c (ñ b))) (Ã (Ĥ ([(List.take (Int.toNat a) b),(List.drop (Int.toNat c) b)])) fun j=>Ã (rec j) fun k=>xM (fun(l:Val ag) (m:Val ab) n=>o8 al rec i l m (fun o=>n o)) k (d) (fun p=>ck (a+(1:Int)) fun q=>g q p)))) (h d)
def wQ (al:Val ag) (rec:Val ab→Option ((Val ag))) (mm:Val ab) (k:((Val ag))×((Val ab))→Option ρ):Option ρ :=
  ifb (ieq (Ø mm) 0) (yg al (([])++[[]]) (k ((([])++[[]]),mm))) (Ê (fun(a:Val bf) b=>o9 al rec mm (Ø mm) mm a.1 a.2 (fun c d=>b (c,d)) (fun e=>k (e,mm))) ((0:Int),[]))
def lQ (al:Val aj) (rec:Val ai→Option ((Val aj))) (a:Val ab) (b:Val aj) (y:Val ag) (c:Val aj→Option ρ):Option ρ :=
  è (î ((List.length ([a]))+(List.length y))) (yg al (b++[(([a])++y)]) (c (b++[(([a])++y)])))
def lR (al:Val aj) (rec:Val ai→Option ((Val aj))) (a:Val ai) (b:Val aj) (y:Val ab) (c:Val aj→Option ρ):Option ρ :=
  è (ile 1 (ñ a)) (Ã (rec (List.drop 1 a)) fun d=>xM (fun(e:Val aj) (f:Val ag) g=>lQ al rec y e f (fun h=>g h)) d (b) (fun i=>c i))
def rK (al:Val aj) (rec:Val ai→Option ((Val aj))) (mm:Val ai) (k:((Val aj))×((Val ai))→Option ρ):Option ρ :=
  ifb (ieq (Ø mm) 0) (yg al (([])++[[]]) (k ((([])++[[]]),mm))) (Ċ mm (0:Int) fun a=>Ã (yy a.2) fun b=>xM (fun(c:Val aj) (d:Val ab) e=>lR al rec mm c d (fun f=>e f)) b ([]) (fun g=>k (g,mm)))
def gX (al:Val ab) (rec:Val ab→Option ((Val ab))) (d:Val ab) (e:Int) (a:Int) (b:Val ab) (f:Int→Val ab→Option ρ) (g:Val ab→Option ρ):Option ρ :=
  ifb (ilt a e) (Ċ d a fun c=>yg al (b++[c]) (ck (a+(1:Int)) fun h=>f h (b++[c]))) (g b)
def jk (al:Val ab) (rec:Val ab→Option ((Val ab))) (mm:Val ab) (k:((Val ab))×((Val ab))→Option ρ):Option ρ :=
  Ê (fun(a:Val ŋ) b=>gX al rec mm (Ø mm) a.1 a.2 (fun c d=>b (c,d)) (fun e=>k (e,mm))) ((0:Int),[])
def Ο (b:Val ab) (c:Int) (d:Int) (a:Int) (e:Int→Option ρ) (f:Int→Option ρ) (g:Unit→Option ρ):Option ρ :=
  ifb (ilt a d) (Ċ b a fun h=>ifb (ieq c h) (f a) (ck (a+(1:Int)) fun i=>e i)) (g ())
def lT (a:Val ab) (b:Int) (k:Int→Option ρ):Option ρ :=
  Ê (fun(c:Int) d=>Ο a b (Ø a) c (fun e=>d e) (fun f=>k f) (fun _=>k (-1:Int))) (0:Int)
def ς (a:Val ab) (b:Int):Option (Int):=lT a b some
def jl (a:Val ab) (b:Int) (k:Bool→Option ρ):Option ρ :=
  Ã (ς a b) fun c=>k (ige c 0)
def á (a:Val ab) (b:Int):Option (Bool):=jl a b some
def uR (f:Val ac) (g:Int) (d:Int) (a:Int) (b:Val ab) (e:Int→Val ab→Option ρ) (h:Val ab→Option ρ):Option ρ :=
  ifb (ilt a g) (Ċ f a fun c=>Ã (á c.2.2.1 d) fun i=>Ã (á c.2.2.2.1 d) fun j=>ifb (!(i==j)) (è (î ((List.length b)+(List.length ([c.2.1])))) (ck (a+(1:Int)) fun k=>e k (b++([c.2.1])))) (ck (a+(1:Int)) fun l=>e l b)) (h b)
def uQ (e:Val aa) (f:Int) (g:Int) (a:Int) (b:Val ab) (d:Int→Val ab→Option ρ) (h:Val ab→Option ρ):Option ρ :=
  ifb (ilt a f) (Ċ e a fun c=>ifb (ieq c.1 g) (è (î ((List.length b)+(List.length ([c.2])))) (ck (a+(1:Int)) fun i=>d i (b++([c.2])))) (ck (a+(1:Int)) fun j=>d j b)) (h b)
def Re (a:Val É) (b:Val Ô) (k:Val ab→Option ρ):Option ρ :=
  Ê (fun(d:Val ŋ) f=>uR a.2.2.2.2.1 (Ø a.2.2.2.2.1) b.1 d.1 d.2 (fun g h=>f (g,h)) (fun i=>Ê (fun(e:Val ŋ) j=>uQ a.2.2.2.2.2 (Ø a.2.2.2.2.2) b.1 e.1 e.2 (fun l m=>j (l,m)) (fun c=>è (î (List.length c)) (è (î (List.length (wj c))) (k (yO (wj c)))))) ((0:Int),i))) ((0:Int),[b.2.1])
def ox (a:Val É) (b:Val Ô):Option ((Val ab)):=Re a b some
def qZ (e:Val ab) (f:Int) (c:Int) (a:Int) (b:Val aa) (g:Int→Val aa→Option ρ) (h:Val aa→Option ρ):Option ρ :=
  ifb (ilt a f) (Ċ e a fun d=>è (î ((List.length b)+(List.length ([(c,d)])))) (ck (a+(1:Int)) fun i=>g i (b++([(c,d)])))) (h b)
def rc (f:Val ae) (g:Int) (h:Int) (i:Int) (j:Val ae) (k:Val aa) (l:Val af) (m:Val ac) (n:Val aa) (a:Int) (b:Val aa) (o:Int→Val aa→Option ρ) (p:Val aa→Option ρ):Option ρ :=
  ifb (ilt a g) (Ċ f a fun c=>Ã (ox ((h,i),j,k,l,m,n) c) fun d=>Ê (fun(e:Val ba) q=>qZ d (Ø d) c.1 e.1 e.2 (fun r s=>q (r,s)) (fun t=>ck (a+(1:Int)) fun u=>o u t)) ((0:Int),b)) (p b)
def KR (a:Val É) (k:Val aa→Option ρ):Option ρ :=
  Ê (fun(b:Val ba) c=>rc a.2.1 (Ø a.2.1) a.1.1 a.1.2 a.2.1 a.2.2.1 a.2.2.2.1 a.2.2.2.2.1 a.2.2.2.2.2 b.1 b.2 (fun d e=>c (d,e)) (fun f=>k f)) ((0:Int),[])
def pK (a:Val É):Option ((Val aa)):=KR a some
def FR (a:Val Ä) (b:Int) (c:Int) (k:Bool→Option ρ):Option ρ :=
  ifb (ile b a.1) (ifb (ile a.1 a.2) (k (ile a.2 c)) (k false)) (k false)
def ź (a:Val Ä) (b:Int) (c:Int):Option (Bool):=FR a b c some
def FJ (a:Int) (b:Int) (c:Int) (k:Bool→Option ρ):Option ρ :=
  ifb (ile b a) (k (ile a c)) (k false)
def ė (a:Int) (b:Int) (c:Int):Option (Bool):=FJ a b c some
def KX (a:Int) (k:Bool→Option ρ):Option ρ :=
  Ã (ė a (0:Int) (20000:Int)) fun b=>k b
def kO (a:Int):Option (Bool):=KX a some
def QM (a:Int) (k:Int→Option ρ):Option ρ :=
  ifb (ilt a 0) (k (IntKind.wrap .u64 (0-(IntKind.wrap .u64 a)))) (k (IntKind.wrap .u64 a))
def rC (a:Int):Option (Int):=QM a some
def yp (b:Int) (a:Int) (c:Int→Int→Option ρ) (d:Int→Option ρ):Option ρ :=
  ifb (ine a 0) (ifb (kQ a 0) (none) (c a (Int.tmod b a))) (d b)
def WP (b:Int) (c:Int) (k:Int→Option ρ):Option ρ :=
  Ê (fun(a:Val bj) d=>yp a.1 a.2 (fun e f=>d (e,f)) (fun g=>k g)) (b,c)
def LJ (a:Int) (b:Int):Option (Int):=WP a b some
def KH (a:Val Ä) (k:Bool→Option ρ):Option ρ :=
  ifb (ige a.2 1) (ifb (ile a.2 2147483647) (Ã (rC a.1) fun b=>ifb (ile b 2147483647) (Ã (rC a.1) fun c=>Ã (rC a.2) fun d=>Ã (LJ c d) fun e=>k (ieq e 1)) (k false)) (k false)) (k false)
def tG (a:Val Ä):Option (Bool):=KH a some
def BC (a:Val Ô) (k:Bool→Option ρ):Option ρ :=
  Ã (tG a.2.2.2.2.1) fun b=>ifb b (Ã (ė a.2.2.2.2.1.1 (-1000:Int) (1000:Int)) fun c=>ifb c (Ã (ė a.1 (1:Int) (1099511627776:Int)) fun d=>ifb d (Ã (kO a.2.1) fun e=>ifb e (Ã (ė a.2.2.1 (1:Int) (1125899906842624:Int)) fun f=>ifb f (Ã (ź a.2.2.2.1 (-1073741824:Int) (1073741824:Int)) fun g=>ifb g (ifb (ile a.2.2.2.2.1.2 100) (Ã (ė a.2.2.2.2.2 (0:Int) (1048576:Int)) fun h=>k h) (k false)) (k false)) (k false)) (k false)) (k false)) (Ã (ė a.1 (1:Int) (1099511627776:Int)) fun i=>ifb i (Ã (kO a.2.1) fun j=>ifb j (Ã (ė a.2.2.1 (1:Int) (1125899906842624:Int)) fun l=>ifb l (Ã (ź a.2.2.2.1 (-1073741824:Int) (1073741824:Int)) fun m=>ifb m (k false) (k false)) (k false)) (k false)) (k false))) (Ã (ė a.1 (1:Int) (1099511627776:Int)) fun n=>ifb n (Ã (kO a.2.1) fun o=>ifb o (Ã (ė a.2.2.1 (1:Int) (1125899906842624:Int)) fun p=>ifb p (Ã (ź a.2.2.2.1 (-1073741824:Int) (1073741824:Int)) fun q=>ifb q (k false) (k false)) (k false)) (k false)) (k false))
def vl (a:Val Ô):Option (Bool):=BC a some
def iy (e:Val ae) (f:Int) (g:Val ae) (a:Int) (b:Int→Option ρ) (c:Int→Option ρ) (h:Unit→Option ρ):Option ρ :=
  ifb (ilt a f) (Ċ e a fun d=>Ã (vl d) fun i=>ifb (!i) (c (1:Int)) (ifb (igt a 0) (ck (a-(1:Int)) fun j=>Ċ g j fun k=>ifb (ile d.1 k.1) (c (6:Int)) (ck (a+(1:Int)) fun l=>b l)) (ck (a+(1:Int)) fun m=>b m))) (h ())
def pA (a:Val É) (k:Int→Option ρ):Option ρ :=
  Ê (fun(b:Int) c=>iy a.2.1 (Ø a.2.1) a.2.1 b (fun d=>c d) (fun e=>k e) (fun _=>k (0:Int))) (0:Int)
def Ű (a:Val É):Option (Int):=pA a some
def mq (d:Val ae) (e:Int) (a:Int) (b:Val am) (f:Int→Val am→Option ρ) (g:Val am→Option ρ):Option ρ :=
  ifb (ilt a e) (Ċ d a fun c=>ck (a+(1:Int)) fun h=>f h (Mn (k:=tI) (v:=Ô) c.1 c b)) (g b)
def Bz (a:Val É) (k:Val am→Option ρ):Option ρ :=
  Ê (fun(b:(Val (.pair tI am))) c=>mq a.2.1 (Ø a.2.1) b.1 b.2 (fun d e=>c (d,e)) (fun f=>k f)) ((0:Int),[])
def ĸ (a:Val É):Option ((Val am)):=Bz a some
def rU (a:Val am) (b:Int) (c:Int) (k:Int→Option ρ):Option ρ :=
  Iw (k:=tI) (v:=Ô) b a (fun d=>ifb (ilt c d.2.1) (k (4:Int)) (k (0:Int))) (k (5:Int))
def ik (a:Val am) (b:Int) (c:Int):Option (Int):=rU a b c some
def BB (b:Int) (a:Int) (c:(Val (.ptr am))) (k:Int→Option ρ):Option ρ :=
  Ã (kO a) fun d=>ifb (!d) (k (1:Int)) (Ã (ik c b a) fun e=>k e)
def Ĺ (a:Int) (b:Int) (c:(Val (.ptr am))):Option (Int):=BB a b c some
def jK (d:Val af) (e:Int) (f:Int) (g:Int) (h:Int) (a:Int) (b:Int→Option ρ) (i:Int→Option ρ) (j:Unit→Option ρ):Option ρ :=
  ifb (ilt a e) (Ċ d a fun c=>ifb (ieq c.1 f) (ifb (ile c.2.1.1 h) (ifb (ile g c.2.1.2) (i a) (ck (a+(1:Int)) fun k=>b k)) (ck (a+(1:Int)) fun l=>b l)) (ck (a+(1:Int)) fun m=>b m)) (j ())
def Ź (d:Val aa) (e:Int) (f:Int) (g:Int) (h:Int) (a:Int) (b:Int→Option ρ) (i:Int→Option ρ) (j:Unit→Option ρ):Option ρ :=
  ifb (ilt a e) (Ċ d a fun c=>ifb (ieq c.1 f) (Ã (ė c.2 g h) fun k=>ifb k (i a) (ck (a+(1:Int)) fun l=>b l)) (ck (a+(1:Int)) fun m=>b m)) (j ())
def uS (b:Val É) (e:Val am) (c:Int) (k:Int→Option ρ):Option ρ :=
  Ċ b.2.2.2.1 c fun a=>Ã (ź a.2.1 (0:Int) (20000:Int)) fun f=>ifb (!f) (k (1:Int)) (Ã (ė a.2.2 (0:Int) (1048576:Int)) fun g=>ifb (!g) (k (1:Int)) (Ã (ik e a.1 a.2.1.1) fun d=>ifb (ine d 0) (k d) (è ((ile 0 c)&&(ile c (ñ b.2.2.2.1))) (Ê (fun(h:Int) i=>jK (List.take (Int.toNat c) b.2.2.2.1) (Ø (List.take (Int.toNat c) b.2.2.2.1)) a.1 a.2.1.1 a.2.1.2 h (fun j=>i j) (fun l=>ifb (ige l 0) (k (9:Int)) (Ê (fun(m:Int) n=>Ź b.2.2.1 (Ø b.2.2.1) a.1 a.2.1.1 a.2.1.2 m (fun o=>n o) (fun p=>ifb (ige p 0) (k (9:Int)) (k (0:Int))) (fun _=>k (0:Int))) (0:Int))) (fun _=>Ê (fun(q:Int) r=>Ź b.2.2.1 (Ø b.2.2.1) a.1 a.2.1.1 a.2.1.2 q (fun s=>r s) (fun t=>ifb (ige t 0) (k (9:Int)) (k (0:Int))) (fun _=>k (0:Int))) (0:Int))) (0:Int)))))
def Δ (a:Val É) (b:Val am) (c:Int):Option (Int):=uS a b c some
def uP (c:Int) (d:Val ab) (b:Val ab) (a:Int) (e:Int→Option ρ) (f:Int→Option ρ) (g:Unit→Option ρ):Option ρ :=
  ifb (ilt a c) (è ((ile 0 a)&&(ilt a (ñ b))) (Ľ b (Int.toNat a) fun h=>Ã (á d h) fun i=>ifb i (f a) (ck (a+(1:Int)) fun j=>e j))) (g ())
def jS (f:Val ab) (b:Int) (c:Int) (a:Val ab) (d:Int→Int→Val ab→Option ρ) (g:Val ŋ→Option ρ):Option ρ :=
  ifb (ilt c (Ø a)) (è ((ile 0 c)&&(ilt c (ñ a))) (Ľ a (Int.toNat c) fun e=>Ã (á f e) fun h=>ifb (!h) (è ((ile 0 b)&&(ilt b (ñ a))) (Ľ a (Int.toNat b) fun l=>ck (b+(1:Int)) fun i=>ck (c+(1:Int)) fun j=>d i j (List.set a (Int.toNat b) e))) (ck (c+(1:Int)) fun k=>d b k a))) (g (b,a))
def Q4 (b:Val ab) (e:Val ab) (k:Val ab→Option ρ):Option ρ :=
  è (î (List.length b)) (Ê (fun(f:Int) g=>uP (Ø b) e b f (fun h=>g h) (fun c=>ifb (ieq c (-1:Int)) (k b) (ck (c+(1:Int)) fun i=>Ê (fun(d:Val aQ) j=>jS e d.1 d.2.1 d.2.2 (fun l m n=>j (l,m,n)) (fun a=>è ((ile 0 a.1)&&(ile a.1 (ñ a.2))) (è ((ile 0 a.1)&&(ile a.1 (ñ (List.take (Int.toNat a.1) a.2++List.replicate (List.length a.2-(Int.toNat a.1)) (0:Int)++List.drop ((Int.toNat a.1)+(List.length a.2-(Int.toNat a.1))) a.2)))) (k (List.take (Int.toNat a.1) (List.drop 0 (List.take (Int.toNat a.1) a.2++List.replicate (List.length a.2-(Int.toNat a.1)) (0:Int)++List.drop ((Int.toNat a.1)+(List.length a.2-(Int.toNat a.1))) a.2))))))) (c,i,b))) (fun _=>k b)) (0:Int))
def Γ (a:Val ab) (b:Val ab):Option ((Val ab)):=Q4 a b some
def om (e:Val ab) (f:Val ab) (g:Int) (a:Int) (b:Int→Option ρ) (c:Bool→Option ρ) (h:Unit→Option ρ):Option ρ :=
  ifb (ilt a g) (Ċ f a fun d=>Ã (ė d (1:Int) (1099511627776:Int)) fun i=>ifb (!i) (c false) (ifb (igt a 0) (ck (a-(1:Int)) fun j=>Ċ e j fun k=>ifb (ile d k) (c false) (ck (a+(1:Int)) fun l=>b l)) (ck (a+(1:Int)) fun m=>b m))) (h ())
def FQ (a:Val ab) (k:Bool→Option ρ):Option ρ :=
  Ê (fun(b:Int) c=>om a a (Ø a) b (fun d=>c d) (fun e=>k e) (fun _=>k (ile (Ø a) 6))) (0:Int)
def md (a:Val ab):Option (Bool):=FQ a some
def uT (d:Val af) (e:Int) (f:Int) (g:Int) (a:Int) (c:Int→Option ρ) (h:Int→Option ρ) (i:Unit→Option ρ):Option ρ :=
  ifb (ilt a e) (Ċ d a fun b=>ifb (ieq b.1 f) (Ã (ė g b.2.1.1 b.2.1.2) fun j=>ifb j (h a) (ck (a+(1:Int)) fun k=>c k)) (ck (a+(1:Int)) fun l=>c l)) (i ())
def Rf (a:Val É) (c:Int) (d:Int) (k:(Val (.pair iC .bool))→Option ρ):Option ρ :=
  Ê (fun(e:Int) f=>uT a.2.2.2.1 (Ø a.2.2.2.1) c d e (fun g=>f g) (fun b=>ifb (ilt b 0) (k (((0:Int),((0:Int),(0:Int)),(0:Int)),false)) (Ċ a.2.2.2.1 b fun h=>k (h,true))) (fun _=>k (((0:Int),((0:Int),(0:Int)),(0:Int)),false))) (0:Int)
def vm (a:Val É) (b:Int) (c:Int):Option ((Val (.pair iC .bool))):=Rf a b c some
def gZ (b:Val ac) (c:Int) (d:Int) (a:Int) (e:Int→Option ρ) (f:Int→Option ρ) (g:Unit→Option ρ):Option ρ :=
  ifb (ilt a c) (Ċ b a fun h=>ifb (ieq h.1 d) (f a) (ck (a+(1:Int)) fun i=>e i)) (g ())
def gY (c:Val am) (b:Int) (d:Val ab) (e:Int) (f:Int) (a:Int) (g:Int→Option ρ) (h:Int→Option ρ) (i:Unit→Option ρ):Option ρ :=
  ifb (ilt a e) (Ċ d a fun j=>Ã (ik c j f) fun k=>ifb (ieq k b) (h b) (ck (a+(1:Int)) fun l=>g l)) (i ())
def ń (d:Val am) (b:Val ab) (e:Int) (f:Int) (c:Val ab) (a:Int) (g:Int→Option ρ) (h:Int→Option ρ) (i:Unit→Option ρ):Option ρ :=
  ifb (ilt a e) (è ((ile 0 a)&&(ilt a (ñ c))) (Ľ c (Int.toNat a) fun j=>Ê (fun(k:Int) l=>gY d j b (Ø b) f k (fun m=>l m) (fun n=>h n) (fun _=>ck (a+(1:Int)) fun o=>g o)) (0:Int))) (i ())
def Ń (b:Val ab) (c:Int) (d:Int) (e:Int) (f:Val ae) (g:Val aa) (h:Val af) (i:Val ac) (j:Val aa) (k:Int) (a:Int) (l:Int→Option ρ) (m:Int→Option ρ) (n:Unit→Option ρ):Option ρ :=
  ifb (ilt a c) (Ċ b a fun o=>Ã (vm ((d,e),f,g,h,i,j) o k) fun p=>ifb p.2 (m (9:Int)) (ck (a+(1:Int)) fun q=>l q)) (n ())
def nH (b:Val É) (f:Val am) (c:Int) (k:Int→Option ρ):Option ρ :=
  Ċ b.2.2.2.2.1 c fun a=>Ã (ė a.1 (1:Int) (1099511627776:Int)) fun l=>ifb (!l) (k (1:Int)) (Ã (kO a.2.1) fun m=>ifb (!m) (k (1:Int)) (Ã (ė a.2.2.2.2.1 (-1125899906842624:Int) (1125899906842624:Int)) fun n=>ifb (!n) (k (1:Int)) (Ã (ė a.2.2.2.2.2.1 (0:Int) (1073741824:Int)) fun o=>ifb (!o) (k (1:Int)) (Ã (ź a.2.2.2.2.2.2 (-10000:Int) (10000:Int)) fun p=>ifb (!p) (k (1:Int)) (Ã (md a.2.2.1) fun q=>ifb (!q) (k (1:Int)) (Ã (md a.2.2.2.1) fun r=>ifb (!r) (k (1:Int)) (è ((ile 0 c)&&(ile c (ñ b.2.2.2.2.1))) (Ê (fun(s:Int) t=>gZ (List.take (Int.toNat c) b.2.2.2.2.1) (Ø (List.take (Int.toNat c) b.2.2.2.2.1)) a.1 s (fun u=>t u) (fun v=>ifb (ige v 0) (k (6:Int)) (Ã (Ĥ ([a.2.2.1,a.2.2.2.1])) fun d=>Ê (fun(w:Int) x=>ń f d (Ø ([(5:Int),(4:Int)])) a.2.1 ([(5:Int),(4:Int)]) w (fun y=>x y) (fun z=>k z) (fun _=>Ê (fun(A:Int) B=>Ń d (Ø d) b.1.1 b.1.2 b.2.1 b.2.2.1 b.2.2.2.1 b.2.2.2.2.1 b.2.2.2.2.2 a.2.1 A (fun C=>B C) (fun D=>k D) (fun _=>Ã (Γ a.2.2.1 a.2.2.2.1) fun g=>Ã (Γ a.2.2.2.1 a.2.2.1) fun h=>ifb (igt (Ø g) 1) (k (1:Int)) (ifb (igt (Ø h) 1) (k (1:Int)) (ck ((Ø g)+(Ø h)) fun E=>ifb (ieq E 0) (k (1:Int)) (k (0:Int)))))) (0:Int))) (0:Int))) (fun _=>Ã (Ĥ ([a.2.2.1,a.2.2.2.1])) fun e=>Ê (fun(F:Int) G=>ń f e (Ø ([(5:Int),(4:Int)])) a.2.1 ([(5:Int),(4:Int)]) F (fun H=>G H) (fun I=>k I) (fun _=>Ê (fun(J:Int) K=>Ń e (Ø e) b.1.1 b.1.2 b.2.1 b.2.2.1 b.2.2.2.1 b.2.2.2.2.1 b.2.2.2.2.2 a.2.1 J (fun L=>K L) (fun M=>k M) (fun _=>Ã (Γ a.2.2.1 a.2.2.2.1) fun i=>Ã (Γ a.2.2.2.1 a.2.2.1) fun j=>ifb (igt (Ø i) 1) (k (1:Int)) (ifb (igt (Ø j) 1) (k (1:Int)) (ck ((Ø i)+(Ø j)) fun N=>ifb (ieq N 0) (k (1:Int)) (k (0:Int)))))) (0:Int))) (0:Int))) (0:Int)))))))))
def ł (a:Val É) (b:Val am) (c:Int):Option (Int):=nH a b c some
def nh (b:Val É) (s:Val am):Option (List Int) :=
  Ã (Jo (fun u=>Ĺ u.1 u.2 s) (b.2.2.1:List (Int×Int))) fun a=>Ã (Jo (fun i=>Δ b s i) (vZ (b.2.2.2.1:List (Val iC)).length)) fun c =>
    Ã (Jo (fun i=>ł b s i) (vZ (b.2.2.2.2.1:List (Val Ö)).length)) fun d=>Ã (Jo (fun u=>Ĺ u.1 u.2 s) (b.2.2.2.2.2:List (Int×Int))) fun e=>some (a++(c++(d++e)))
def K7 (a:Val É) (k:Int→Option ρ):Option ρ :=
  Ã (ź a.1 (0:Int) (1000000:Int)) fun d=>ifb (!d) (k (1:Int)) (ifb (igt (Ø a.2.1) 12) (k (2:Int)) (ifb (igt (Ø a.2.2.1) 40) (k (2:Int)) (ifb (igt (Ø a.2.2.2.1) 12) (k (2:Int)) (ifb (igt (Ø a.2.2.2.2.1) 40) (k (2:Int)) (ifb (igt (Ø a.2.2.2.2.2) 10) (k (2:Int)) (Ã (Ű a) fun b=>ifb (ine b 0) (k b) (Ã (ĸ a) fun e=>SV (nh a e) (fun f=>k f) (Ã (pK a) fun c=>ifb (igt (Ø c) 59) (k (2:Int)) (ck ((2:Int)*(Ø a.2.1)) fun g=>ck ((Ø c)-(Ø a.2.1)) fun h=>ck ((2:Int)*h) fun i=>ck (g+i) fun j=>ck ((2:Int)*(Ø a.2.2.2.2.1)) fun l=>ck (j+l) fun m=>ifb (igt m 300) (k (2:Int)) (k (0:Int)))))))))))
def Ε (a:Val É):Option (Int):=K7 a some
def Ea (a:List Int):Option (Int×Int×Int×Int×Int):=some (a.getD 0 0,a.getD 1 0,a.getD 2 0,a.getD 3 0,a.getD 4 0)
def ob (b:Val ac) (a:Int) (e:Int→Option ρ) (c:Bool→Option ρ) (d:Unit→Option ρ):Option ρ :=
  ifb (ilt a (Ø b)) (ifb (ilt a 60) (Ċ b a fun f=>ifb (igt (Ø f.2.2.1) 9) (c false) (Ċ b a fun g=>ifb (igt (Ø g.2.2.2.1) 9) (c false) (ck (a+(1:Int)) fun h=>e h))) (d ())) (d ())
def kp (b:Val ai) (a:Int) (d:Int→Option ρ) (e:Bool→Option ρ) (c:Unit→Option ρ):Option ρ :=
  ifb (ilt a (Ø b)) (ifb (ilt a 8) (Ċ b a fun f=>ifb (igt (Ø f.2) 9) (e false) (ck (a+(1:Int)) fun g=>d g)) (c ())) (c ())
def E7 (a:Val Â) (k:Bool→Option ρ):Option ρ :=
  Ê (fun(b:Int) c=>ob a.1.2.2.2.2.1 b (fun d=>c d) (fun e=>k e) (fun _=>Ê (fun(f:Int) g=>kp a.2 f (fun h=>g h) (fun i=>k i) (fun _=>ifb (ile (Ø a.1.2.1) 6) (ifb (ile (Ø a.1.2.2.1) 20) (ifb (ile (Ø a.1.2.2.2.1) 6) (ifb (ile (Ø a.1.2.2.2.2.1) 8) (ifb (ile (Ø a.1.2.2.2.2.2) 6) (k (ile (Ø a.2) 6)) (k false)) (k false)) (k false)) (k false)) (k false))) (0:Int))) (0:Int)
def yB (a:Val Â):Option (Bool):=E7 a some
def rk (b:Val ab) (c:Int) (a:Int) (d:Int→Option ρ) (e:Int→Option ρ) (f:Unit→Option ρ):Option ρ :=
  ifb (ilt a c) (Ċ b a fun g=>Ã (kO g) fun h=>ifb (!h) (e a) (ck (a+(1:Int)) fun i=>d i)) (f ())
def K4 (a:Val É) (b:Int) (c:Val ab) (k:Int→Option ρ):Option ρ :=
  Ã (Ε a) fun d=>ifb (ine d 0) (k d) (Ê (fun(e:Int) f=>rk c (Ø c) e (fun g=>f g) (fun h=>ifb (ige h 0) (k (1:Int)) (Ã (ĸ a) fun i=>Iw (k:=tI) (v:=Ô) b i (fun l=>k (0:Int)) (k (5:Int)))) (fun _=>Ã (ĸ a) fun j=>Iw (k:=tI) (v:=Ô) b j (fun m=>k (0:Int)) (k (5:Int)))) (0:Int))
def El (a:Val É) (b:Int) (c:Val ab):Option (Int):=K4 a b c some
def Rn (a:Val É) (b:Int) (c:Int) (k:Val aW→Option ρ):Option ρ :=
  Ã (El a b ([c])) fun d=>ifb (ine d 0) (k (false,d)) (Ã (vm a b c) fun e=>k (e.2,(0:Int)))
def yJ (a:Val É) (b:Int) (c:Int):Option ((Val aW)):=Rn a b c some
def mG (b:Val ab) (a:Int) (c:Int→Option ρ) (d:Int→Option ρ) (e:Unit→Option ρ):Option ρ :=
  ifb (ilt a (Ø b)) (Ċ b a fun f=>ck (a-(1:Int)) fun g=>Ċ b g fun h=>ifb (ile f h) (d (1:Int)) (ck (a+(1:Int)) fun i=>c i)) (e ())
def mF (d:Val ae) (e:Int) (a:Int) (b:Val aI) (f:Int→Val aI→Option ρ) (g:Val aI→Option ρ):Option ρ :=
  ifb (ilt a e) (Ċ d a fun c=>ck (a+(1:Int)) fun h=>f h (Mn (k:=tI) (v:=tI) c.1 c.2.1 b)) (g b)
def mE (b:Val ab) (c:Int) (d:Val aI) (a:Int) (e:Int→Option ρ) (f:Int→Option ρ) (g:Unit→Option ρ):Option ρ :=
  ifb (ilt a c) (Ċ b a fun h=>Iw (k:=tI) (v:=tI) h d (fun j=>ck (a+(1:Int)) fun i=>e i) (f a)) (g ())
def jY (e:Val ab) (f:Int) (b:Int) (g:Val aI) (a:Int) (c:Int→Option ρ) (d:Int→Option ρ) (h:Unit→Option ρ):Option ρ :=
  ifb (ilt a f) (Ċ e a fun i=>Iw (k:=tI) (v:=tI) i g (fun j=>ifb (ilt b j) (d a) (ck (a+(1:Int)) fun l=>c l)) (ifb (ilt b 0) (d a) (ck (a+(1:Int)) fun m=>c m))) (h ())
def ľ (l:Val ab) (m:Int) (b:Int) (c:Int) (d:Val ae) (e:Val aa) (f:Val af) (g:Val ac) (h:Val aa) (i:Int) (a:Int) (n:Int→Option ρ) (j:Int→Option ρ) (o:Unit→Option ρ):Option ρ :=
  ifb (ilt a m) (Ċ l a fun k=>Ã (yJ ((b,c),d,e,f,g,h) k i) fun p=>ck (i+(1:Int)) fun q=>Ã (yJ ((b,c),d,e,f,g,h) k q) fun r=>ifb p.1 (j a) (ifb r.1 (j a) (ck (a+(1:Int)) fun s=>n s))) (o ())
def JO (a:Val É) (d:Val ai) (c:Int) (k:Int→Option ρ):Option ρ :=
  Ċ d c fun b=>ifb (ilt b.1 0) (k (1:Int)) (ifb (ige b.1 20000) (k (1:Int)) (ifb (ilt (Ø b.2) 2) (k (1:Int)) (ifb (igt (Ø b.2) 5) (k (1:Int)) (Ê (fun(g:Int) h=>mG b.2 g (fun i=>h i) (fun j=>k j) (fun _=>Ê (fun(f:(Val (.pair tI aI))) l=>mF a.2.1 (Ø a.2.1) f.1 f.2 (fun m n=>l (m,n)) (fun e=>Ê (fun(o:Int) p=>mE b.2 (Ø b.2) e o (fun q=>p q) (fun r=>ifb (ige r 0) (k (5:Int)) (Ê (fun(s:Int) t=>jY b.2 (Ø b.2) b.1 e s (fun u=>t u) (fun v=>ifb (ige v 0) (k (4:Int)) (ifb (igt c 0) (ck (c-(1:Int)) fun w=>Ċ d w fun x=>ifb (ile b.1 x.1) (k (6:Int)) (Ê (fun(y:Int) z=>ľ b.2 (Ø b.2) a.1.1 a.1.2 a.2.1 a.2.2.1 a.2.2.2.1 a.2.2.2.2.1 a.2.2.2.2.2 b.1 y (fun A=>z A) (fun B=>ifb (ige B 0) (k (9:Int)) (k (0:Int))) (fun _=>k (0:Int))) (0:Int))) (Ê (fun(C:Int) D=>ľ b.2 (Ø b.2) a.1.1 a.1.2 a.2.1 a.2.2.1 a.2.2.2.1 a.2.2.2.2.1 a.2.2.2.2.2 b.1 C (fun E=>D E) (fun F=>ifb (ige F 0) (k (9:Int)) (k (0:Int))) (fun _=>k (0:Int))) (0:Int)))) (fun _=>ifb (igt c 0) (ck (c-(1:Int)) fun G=>Ċ d G fun H=>ifb (ile b.1 H.1) (k (6:Int)) (Ê (fun(I:Int) J=>ľ b.2 (Ø b.2) a.1.1 a.1.2 a.2.1 a.2.2.1 a.2.2.2.1 a.2.2.2.2.1 a.2.2.2.2.2 b.1 I (fun K=>J K) (fun L=>ifb (ige L 0) (k (9:Int)) (k (0:Int))) (fun _=>k (0:Int))) (0:Int))) (Ê (fun(M:Int) N=>ľ b.2 (Ø b.2) a.1.1 a.1.2 a.2.1 a.2.2.1 a.2.2.2.1 a.2.2.2.2.1 a.2.2.2.2.2 b.1 M (fun O=>N O) (fun P=>ifb (ige P 0) (k (9:Int)) (k (0:Int))) (fun _=>k (0:Int))) (0:Int)))) (0:Int))) (fun _=>Ê (fun(Q:Int) R=>jY b.2 (Ø b.2) b.1 e Q (fun S=>R S) (fun T=>ifb (ige T 0) (k (4:Int)) (ifb (igt c 0) (ck (c-(1:Int)) fun U=>Ċ d U fun V=>ifb (ile b.1 V.1) (k (6:Int)) (Ê (fun(W:Int) X=>ľ b.2 (Ø b.2) a.1.1 a.1.2 a.2.1 a.2.2.1 a.2.2.2.1 a.2.2.2.2.1 a.2.2.2.2.2 b.1 W (fun Y=>X Y) (fun Z=>ifb (ige Z 0) (k (9:Int)) (k (0:Int))) (fun _=>k (0:Int))) (0:Int))) (Ê (fun(dc:Int) df=>ľ b.2 (Ø b.2) a.1.1 a.1.2 a.2.1 a.2.2.1 a.2.2.2.1 a.2.2.2.2.1 a.2.2.2.2.2 b.1 dc (fun dg=>df dg) (fun dh=>ifb (ige dh 0) (k (9:Int)) (k (0:Int))) (fun _=>k (0:Int))) (0:Int)))) (fun _=>ifb (igt c 0) (ck (c-(1:Int)) fun di=>Ċ d di fun dj=>ifb (ile b.1 dj.1) (k (6:Int)) (Ê (fun(dk:Int) dl=>ľ b.2 (Ø b.2) a.1.1 a.1.2 a.2.1 a.2.2.1 a.2.2.2.1 a.2.2.2.2.1 a.2.2.2.2.2 b.1 dk (fun dm=>dl dm) (fun dt=>ifb (ige dt 0) (k (9:Int)) (k (0:Int))) (fun _=>k (0:Int))) (0:Int))) (Ê (fun(du:Int) dv=>ľ b.2 (Ø b.2) a.1.1 a.1.2 a.2.1 a.2.2.1 a.2.2.2.1 a.2.2.2.2.1 a.2.2.2.2.2 b.1 du (fun dw=>dv dw) (fun dz=>ifb (ige dz 0) (k (9:Int)) (k (0:Int))) (fun _=>k (0:Int))) (0:Int)))) (0:Int))) (0:Int))) ((0:Int),[]))) (1:Int)))))
def Ec (a:Val É) (b:Val ai) (c:Int):Option (Int):=JO a b c some
def mH (c:Int) (b:Int) (a:Int) (d:Int→Int→Option ρ) (e:Int→Option ρ):Option ρ :=
  ifb (ilt a c) (ck (a+(1:Int)) fun f=>ck (b*f) fun g=>ck (a+(1:Int)) fun h=>d g h) (e b)
def qL (e:Val ai) (f:Int) (g:Int) (h:Int) (i:Val ae) (j:Val aa) (k:Val af) (l:Val ac) (m:Val aa) (n:Val ai) (b:Int) (a:Int) (o:Int→Int→Option ρ) (p:Int→Option ρ) (q:Int→Option ρ):Option ρ :=
  ifb (ilt a f) (Ċ e a fun r=>Ã (Ec ((g,h),i,j,k,l,m) n a) fun c=>ifb (ine c 0) (p c) (Ê (fun(d:Val Ä) s=>mH (Ø r.2) d.1 d.2 (fun t u=>s (t,u)) (fun v=>ck (a+(1:Int)) fun w=>o v w)) (b,(0:Int)))) (q b)
def J7 (a:Val Â) (k:Int→Option ρ):Option ρ :=
  Ã (Ε a.1) fun b=>ifb (ine b 0) (k b) (ifb (igt (Ø a.2) 4) (k (2:Int)) (Ê (fun(c:Val Ä) d=>qL a.2 (Ø a.2) a.1.1.1 a.1.1.2 a.1.2.1 a.1.2.2.1 a.1.2.2.2.1 a.1.2.2.2.2.1 a.1.2.2.2.2.2 a.2 c.1 c.2 (fun e f=>d (e,f)) (fun g=>k g) (fun h=>ifb (igt h 150) (k (2:Int)) (k (0:Int)))) ((1:Int),(0:Int))))
def π (a:Val Â):Option (Int):=J7 a some
def Ģ (c:Val aa) (d:Int) (e:Int) (f:Int) (a:Int) (g:Int→Option ρ) (h:Int→Option ρ) (i:Unit→Option ρ):Option ρ :=
  ifb (ilt a d) (Ċ c a fun b=>ifb ((kQ e b.1)&&((kQ f b.2)&&true)) (h a) (ck (a+(1:Int)) fun j=>g j)) (i ())
def Ů (a:Val aa) (b:Val Ä) (k:Int→Option ρ):Option ρ :=
  Ê (fun(c:Int) d=>Ģ a (Ø a) b.1 b.2 c (fun e=>d e) (fun f=>k f) (fun _=>k (-1:Int))) (0:Int)
def ï (a:Val aa) (b:Val Ä):Option (Int):=Ů a b some
def xB (b:Val aV) (a:Val ab) (c:Int) (k:Int→Option ρ):Option ρ :=
  ifb (ieq (Ø a) 0) (k (0:Int)) (Ċ a (0:Int) fun d=>Ã (ï b.2.1 (d,c)) fun e=>ck (e+(1:Int)) fun f=>k f)
def j8 (a:Val aV) (b:Val ab) (c:Int):Option (Int):=xB a b c some
def uO (f:Int) (g:Int) (h:Val af) (i:Int) (j:Int) (b:Int) (a:Int) (d:Int→Int→Option ρ) (k:Int→Option ρ):Option ρ :=
  ifb (ilt a i) (Ċ h a fun c=>ck (g-(1:Int)) fun l=>ck ((YR c.2.1.2 l)-(Xj c.2.1.1 f)) fun m=>ck (m+1) fun e=>ifb (ieq c.1 j) (ifb (igt e 0) (ck (e*c.2.2) fun n=>ck (b+n) fun o=>ck (a+(1:Int)) fun p=>d o p) (ck (a+(1:Int)) fun q=>d b q)) (ck (a+(1:Int)) fun r=>d b r)) (k b)
def uN (e:Int) (f:Int) (g:Val aa) (h:Int) (i:Int) (a:Int) (b:Val ab) (d:Int→Val ab→Option ρ) (j:Val ab→Option ρ):Option ρ :=
  ifb (ilt a h) (Ċ g a fun c=>ifb (ieq c.1 i) (ck (f-(1:Int)) fun k=>Ã (ė c.2 e k) fun l=>ifb l (è (î ((List.length b)+(List.length ([c.2])))) (ck (a+(1:Int)) fun m=>d m (b++([c.2])))) (ck (a+(1:Int)) fun n=>d n b)) (ck (a+(1:Int)) fun o=>d o b)) (j b)
def Q2 (a:Val É) (b:Val Ô) (d:Int) (e:Int) (k:Int→Option ρ):Option ρ :=
  Ê (fun(f:Val Ä) h=>uO d e a.2.2.2.1 (Ø a.2.2.2.1) b.1 f.1 f.2 (fun i j=>h (i,j)) (fun l=>Ê (fun(g:Val ŋ) m=>uN d e a.2.2.1 (Ø a.2.2.1) b.1 g.1 g.2 (fun n o=>m (n,o)) (fun c=>è (î (List.length c)) (è (î (List.length (wj c))) (ck ((Ø (yO (wj c)))*b.2.2.2.2.2) fun p=>ck (l+p) fun q=>k q)))) ((0:Int),[]))) ((0:Int),(0:Int))
def yI (a:Val É) (b:Val Ô) (c:Int) (d:Int):Option (Int):=Q2 a b c d some
def nF (b:Val am) (a:Val ab) (k:Val Ä→Option ρ):Option ρ :=
  ifb (ieq (Ø a) 0) (k ((0:Int),(1:Int))) (Ċ a (0:Int) fun c=>Iw (k:=tI) (v:=Ô) c b (fun d=>k d.2.2.2.2.1) (k ((0:Int),(0:Int))))
def ig (a:Val am) (b:Val ab):Option (Val Ä):=nF a b some
def qX (b:Val aa) (c:Int) (a:Int) (d:Int→Option ρ) (e:Int→Option ρ) (f:Unit→Option ρ):Option ρ :=
  ifb (ilt a c) (Ċ b a fun g=>Ã (tG g) fun h=>ifb (!h) (e (1:Int)) (ck (a+(1:Int)) fun i=>d i)) (f ())
def Ky (a:Val aa) (k:Int→Option ρ):Option ρ :=
  Ê (fun(b:Int) c=>qX a (Ø a) b (fun d=>c d) (fun e=>k e) (fun _=>k (0:Int))) (0:Int)
def jw (a:Val aa):Option (Int):=Ky a some
def Bv (d:Int) (e:Int) (k:Val B7→Option ρ):Option ρ :=
  Ã (rC d) fun b=>Ã (rC e) fun c=>Ã (LJ b c) fun a=>ifb (kQ a 0) (none) (ifb (kQ a 0) (none) (ifb (igt (IntKind.wrap .u64 (Int.tdiv b a)) 2147483647) (k (((0:Int),(0:Int)),(3:Int))) (ifb (igt (IntKind.wrap .u64 (Int.tdiv c a)) 2147483647) (k (((0:Int),(0:Int)),(3:Int))) (ifb (!((ilt d 0)==(ilt e 0))) (ck (0-(IntKind.wrap .i64 (IntKind.wrap .u64 (Int.tdiv b a)))) fun f=>k ((f,(IntKind.wrap .i64 (IntKind.wrap .u64 (Int.tdiv c a)))),(0:Int))) (k (((IntKind.wrap .i64 (IntKind.wrap .u64 (Int.tdiv b a))),(IntKind.wrap .i64 (IntKind.wrap .u64 (Int.tdiv c a)))),(0:Int)))))))
def pJ (a:Int) (b:Int):Option (Val B7):=Bv a b some
def WV (a:Val Ä) (b:Val Ä) (k:Val B7→Option ρ):Option ρ :=
  Ã (jw ([a,b])) fun c=>ifb (ine c 0) (k (((0:Int),(0:Int)),c)) (ck (a.1*b.2) fun e=>ck (b.1*a.2) fun f=>ck (e-f) fun g=>ck (a.2*b.2) fun h=>Ã (pJ g h) fun d=>k (d.1,d.2))
def RG (a:Val Ä) (b:Val Ä):Option (Val B7):=WV a b some
def uI (a:Val Ä) (b:Val Ä) (k:Val Ä→Option ρ):Option ρ :=
  Ã (RG a b) fun c=>k c.1
def vk (a:Val Ä) (b:Val Ä):Option (Val Ä):=uI a b some
def WS (a:Val Ä) (b:Val Ä) (k:Int→Option ρ):Option ρ :=
  ck (a.1*b.2) fun c=>ck (b.1*a.2) fun d=>ifb ((kQ a.1 b.1)&&((kQ a.2 b.2)&&true)) (k (0:Int)) (ifb (ilt c d) (k (-1:Int)) (ifb (igt c d) (k (1:Int)) (k (0:Int))))
def LK (a:Val Ä) (b:Val Ä):Option (Int):=WS a b some
def rS (a:Val Ĕ) (k:Bool→Option ρ):Option ρ :=
  Ã (jw ([a.1,a.2])) fun b=>ifb (ieq b 0) (Ã (LK a.1 a.2) fun c=>k (ile c 0)) (k false)
def sc (a:Val Ĕ):Option (Bool):=rS a some
def WY (a:Val Ä) (b:Val Ä) (k:Val B7→Option ρ):Option ρ :=
  Ã (jw ([a,b])) fun c=>ifb (ine c 0) (k (((0:Int),(0:Int)),c)) (ck (a.1*b.1) fun e=>ck (a.2*b.2) fun f=>Ã (pJ e f) fun d=>k (d.1,d.2))
def LM (a:Val Ä) (b:Val Ä):Option (Val B7):=WY a b some
def KI (c:Val Ĕ) (d:Val Ä) (k:Val abf→Option ρ):Option ρ :=
  Ã (sc c) fun e=>ifb (!e) (k ((((0:Int),(0:Int)),(0:Int),(0:Int)),(1:Int))) (Ã (tG d) fun f=>ifb (!f) (k ((((0:Int),(0:Int)),(0:Int),(0:Int)),(1:Int))) (Ã (LM d c.1) fun a=>ifb (ine a.2 0) (k ((((0:Int),(0:Int)),(0:Int),(0:Int)),a.2)) (Ã (LM d c.2) fun b=>ifb (ine b.2 0) (k ((((0:Int),(0:Int)),(0:Int),(0:Int)),b.2)) (Ã (LK a.1 b.1) fun g=>ifb (igt g 0) (k ((b.1,a.1),(0:Int))) (k ((a.1,b.1),(0:Int)))))))
def LL (a:Val Ĕ) (b:Val Ä):Option (Val abf):=KI a b some
def uH (b:Val Ä) (a:Val Ä) (k:Val Ĕ→Option ρ):Option ρ :=
  Ã (LL ((a.1,(1:Int)),a.2,(1:Int)) b) fun c=>k c.1
def ow (a:Val Ä) (b:Val Ä):Option (Val Ĕ):=uH a b some
def FS (c:Val É) (a:Val Ö) (k:Val Ĕ→Option ρ):Option ρ :=
  Ã (ĸ c) fun b=>Ã (Γ a.2.2.1 a.2.2.2.1) fun d=>Ã (ig b d) fun e=>Ã (Γ a.2.2.2.1 a.2.2.1) fun f=>Ã (ig b f) fun g=>Ã (vk e g) fun h=>Ã (ow h a.2.2.2.2.2.2) fun i=>k i
def tJ (a:Val É) (b:Val Ö):Option (Val Ĕ):=FS a b some
def KZ (a:Val É) (b:Val Ö) (k:Val Ä→Option ρ):Option ρ :=
  ck ((Ø b.2.2.1)-(1:Int)) fun c=>ck ((Ø b.2.2.2.1)-(1:Int)) fun d=>ck ((Xj (0:Int) c)*a.1.1) fun e=>ck ((Xj (0:Int) d)*a.1.2) fun f=>ck (e-f) fun g=>ck ((Xj (0:Int) c)*a.1.2) fun h=>ck ((Xj (0:Int) d)*a.1.1) fun i=>ck (h-i) fun j=>k (g,j)
def xQ (a:Val É) (b:Val Ö):Option (Val Ä):=KZ a b some
def KD (b:Int) (a:Int) (k:Int→Option ρ):Option ρ :=
  ifb (kQ a 0) (none) (ck (Int.tdiv b a) fun c=>ifb (kQ a 0) (none) (ifb (ilt (Int.tmod b a) 0) (ck (c-1) fun d=>k d) (k c)))
def xP (a:Int) (b:Int):Option (Int):=KD a b some
def QV (a:Val Ä) (k:Val Ä→Option ρ):Option ρ :=
  Ã (jw ([a])) fun b=>ifb (ine b 0) (k ((0:Int),b)) (ck (0-a.1) fun c=>Ã (xP c a.2) fun d=>ck (0-d) fun e=>k (e,(0:Int)))
def IF (a:Val Ä):Option (Val Ä):=QV a some
def KK (a:Val Ä) (k:Val Ä→Option ρ):Option ρ :=
  Ã (jw ([a])) fun b=>ifb (ine b 0) (k ((0:Int),b)) (Ã (xP a.1 a.2) fun c=>k (c,(0:Int)))
def Ek (a:Val Ä):Option (Val Ä):=KK a some
def QX (b:Val É) (a:Val Ö) (k:Val Ä→Option ρ):Option ρ :=
  Ã (tJ b a) fun c=>Ã (xQ b a) fun d=>Ã (Ek c.2) fun e=>Ã (IF c.1) fun f=>ck (a.2.2.2.2.1-a.2.2.2.2.2.1) fun g=>ck (g-d.2) fun h=>ck (h-e.1) fun i=>ck (a.2.2.2.2.1+a.2.2.2.2.2.1) fun j=>ck (j-d.1) fun l=>ck (l-f.1) fun m=>k (i,m)
def yH (a:Val É) (b:Val Ö):Option (Val Ä):=QX a b some
def uL (b:Int) (e:Val ab) (h:Int) (j:Int) (k:Int) (l:Val ae) (m:Val aa) (n:Val af) (o:Val ac) (p:Val aa) (q:Int) (r:Int) (s:Int) (t:Int) (u:Int) (v:Int) (w:Int) (x:Int) (a:Int) (f:Val ak) (g:Val aa) (y:Int→Val ak→Val aa→Option ρ) (z:Val B6→Option ρ):Option ρ :=
  ifb (ilt a (Ø e)) (ck (h+a) fun A=>ck (A-1) fun c=>ck (h+a) fun d=>ck (a-(1:Int)) fun B=>Ċ e B fun C=>Ċ e a fun D=>Ã (yI ((j,k),l,m,n,o,p) (q,r,s,(t,u),(v,w),x) C D) fun E=>ck (0-E) fun F=>ck (0-F) fun i=>è (î ((List.length f)+(List.length ([(c,d,(0:Int)),(d,c,i)])))) (è (î ((List.length g)+(List.length ([((2:Int),b),((2:Int),b)])))) (ck (a+(1:Int)) fun G=>y G (f++([(c,d,(0:Int)),(d,c,i)])) (g++([((2:Int),b),((2:Int),b)]))))) (z (f,g))
def uM (q:Val ae) (r:Int) (f:Int) (g:Int) (h:Val ae) (i:Val aa) (j:Val af) (k:Val ac) (l:Val aa) (s:Val aa) (t:Int) (b:Int) (d:Val ak) (e:Val aa) (u:Int→Val ak→Val aa→Option ρ) (v:Val B6→Option ρ):Option ρ :=
  ifb (ilt b r) (Ċ q b fun a=>Ã (ox ((f,g),h,i,j,k,l) a) fun w=>Ã (j8 (((f,g),h,i,j,k,l),s,(t,d),e) ([a.1]) a.2.1) fun c=>ck (a.2.2.1+a.2.2.2.1.1) fun x=>ck (a.2.2.1+a.2.2.2.1.2) fun n=>ck (0-x) fun o=>è (î ((List.length d)+(List.length ([((0:Int),c,n),(c,(0:Int),o)])))) (è (î ((List.length e)+(List.length ([((1:Int),b),((1:Int),b)])))) (Ê (fun(m:(Val (.pair tI B6))) y=>uL b w c f g h i j k l a.1 a.2.1 a.2.2.1 a.2.2.2.1.1 a.2.2.2.1.2 a.2.2.2.2.1.1 a.2.2.2.2.1.2 a.2.2.2.2.2 m.1 m.2.1 m.2.2 (fun z A B=>y (z,A,B)) (fun p=>ck (b+(1:Int)) fun C=>u C p.1 p.2)) ((1:Int),(d++([((0:Int),c,n),(c,(0:Int),o)])),(e++([((1:Int),b),((1:Int),b)])))))) (v (d,e))
def uK (r:Val ac) (s:Int) (g:Int) (h:Int) (i:Val ae) (j:Val aa) (k:Val af) (l:Val ac) (m:Val aa) (o:Val aa) (p:Int) (a:Int) (c:Val ak) (d:Val aa) (t:Int→Val ak→Val aa→Option ρ) (u:Val B6→Option ρ):Option ρ :=
  ifb (ilt a s) (Ċ r a fun b=>Ã (Γ b.2.2.2.1 b.2.2.1) fun v=>Ã (j8 (((g,h),i,j,k,l,m),o,(p,c),d) v b.2.1) fun e=>Ã (Γ b.2.2.1 b.2.2.2.1) fun w=>Ã (j8 (((g,h),i,j,k,l,m),o,(p,c),d) w b.2.1) fun f=>Ã (yH ((g,h),i,j,k,l,m) b) fun n=>ck (0-n.1) fun q=>è (î ((List.length c)+(List.length ([(e,f,n.2),(f,e,q)])))) (è (î ((List.length d)+(List.length ([((3:Int),a),((3:Int),a)])))) (ck (a+(1:Int)) fun x=>t x (c++([(e,f,n.2),(f,e,q)])) (d++([((3:Int),a),((3:Int),a)]))))) (u (c,d))
def Q0 (a:Val É) (k:Val aV→Option ρ):Option ρ :=
  Ã (pK a) fun b=>ck ((Ø b)+(1:Int)) fun c=>Ê (fun(d:(Val (.pair tI B6))) h=>uM a.2.1 (Ø a.2.1) a.1.1 a.1.2 a.2.1 a.2.2.1 a.2.2.2.1 a.2.2.2.2.1 a.2.2.2.2.2 b c d.1 d.2.1 d.2.2 (fun i j l=>h (i,j,l)) (fun f=>Ê (fun(e:(Val (.pair tI B6))) m=>uK a.2.2.2.2.1 (Ø a.2.2.2.2.1) a.1.1 a.1.2 a.2.1 a.2.2.1 a.2.2.2.1 a.2.2.2.2.1 a.2.2.2.2.2 b c e.1 e.2.1 e.2.2 (fun n o p=>m (n,o,p)) (fun g=>k (a,b,(c,g.1),g.2))) ((0:Int),f.1,f.2))) ((0:Int),[],[])
def IG (a:Val É):Option ((Val aV)):=Q0 a some
def FW (a:Val É) (k:(Val (.pair Í bg))→Option ρ):Option ρ :=
  Ã (Ε a) fun b=>ifb (ine b 0) (k (((0:Int),[]),[],b)) (Ã (IG a) fun c=>k (c.2.2.1,c.2.2.2,(0:Int)))
def il (a:Val É):Option ((Val (.pair Í bg))):=FW a some
def yl (f:Val ag) (g:Int) (d:Val ai) (b:Int) (a:Int) (c:Int→Int→Option ρ) (h:Int→Option ρ):Option ρ :=
  ifb (ige a 0) (Ċ f a fun i=>Ã (ς i b) fun e=>ifb (ige e 0) (Ċ d a fun j=>ifb (ilt j.1 g) (Ċ d a fun k=>Ċ k.2 e fun l=>ck (a-(1:Int)) fun m=>c l m) (ck (a-(1:Int)) fun n=>c b n)) (ck (a-(1:Int)) fun o=>c b o)) (h b)
def Wq (a:Val Â) (c:Val ag) (d:Int) (e:Int) (k:Int→Option ρ):Option ρ :=
  ck ((Ø a.2)-(1:Int)) fun f=>Ê (fun(b:Val Ä) g=>yl c e a.2 b.1 b.2 (fun h i=>g (h,i)) (fun j=>k j)) (d,f)
def pF (a:Val Â) (b:Val ag) (c:Int) (d:Int):Option (Int):=Wq a b c d some
def ix (d:Int) (e:Val au) (f:Val aF) (g:Val ab) (h:Int) (a:Int) (b:Val ab) (i:Int→Val ab→Option ρ) (j:Val ab→Option ρ):Option ρ :=
  ifb (ilt a h) (Ċ g a fun k=>Ã (pF e f k d) fun c=>è (î ((List.length b)+(List.length ([c])))) (ck (a+(1:Int)) fun l=>i l (b++([c])))) (j b)
def oZ (a:Val ab) (d:Int) (e:Val au) (f:Val aF) (k:Val ab→Option ρ):Option ρ :=
  Ê (fun(b:Val ŋ) g=>ix d e f a (Ø a) b.1 b.2 (fun h i=>g (h,i)) (fun c=>è (î (List.length c)) (k (wj c)))) ((0:Int),[])
def iP (a:Val ab) (b:Int) (c:Val au) (d:Val aF):Option ((Val ab)):=oZ a b c d some
def jG (e:Val au) (f:Val aF) (g:Val aa) (h:Int) (b:Int) (c:Val aa) (i:Int→Val aa→Option ρ) (j:Val aa→Option ρ):Option ρ :=
  ifb (ilt b h) (Ċ g b fun a=>Ã (pF e f a.1 a.2) fun d=>è (î ((List.length c)+(List.length ([(d,a.2)])))) (ck (b+(1:Int)) fun k=>i k (c++([(d,a.2)])))) (j c)
def jF (e:Val au) (f:Val aF) (g:Val af) (h:Int) (b:Int) (c:Val af) (i:Int→Val af→Option ρ) (j:Val af→Option ρ):Option ρ :=
  ifb (ilt b h) (Ċ g b fun a=>Ã (pF e f a.1 a.2.1.1) fun d=>è (î ((List.length c)+(List.length ([(d,a.2)])))) (ck (b+(1:Int)) fun k=>i k (c++([(d,a.2)])))) (j c)
def jE (d:Val au) (e:Val aF) (h:Val ac) (i:Int) (b:Int) (c:Val ac) (j:Int→Val ac→Option ρ) (k:Val ac→Option ρ):Option ρ :=
  ifb (ilt b i) (Ċ h b fun a=>Ã (iP a.2.2.1 a.2.1 d e) fun f=>Ã (iP a.2.2.2.1 a.2.1 d e) fun g=>è (î ((List.length c)+(List.length ([(a.1,a.2.1,f,g,a.2.2.2.2)])))) (ck (b+(1:Int)) fun l=>j l (c++([(a.1,a.2.1,f,g,a.2.2.2.2)])))) (k c)
def jD (e:Val au) (f:Val aF) (g:Val aa) (h:Int) (b:Int) (c:Val aa) (i:Int→Val aa→Option ρ) (j:Val aa→Option ρ):Option ρ :=
  ifb (ilt b h) (Ċ g b fun a=>Ã (pF e f a.1 a.2) fun d=>è (î ((List.length c)+(List.length ([(d,a.2)])))) (ck (b+(1:Int)) fun k=>i k (c++([(d,a.2)])))) (j c)
def t7 (a:Val Â) (b:Val ag) (k:Val É→Option ρ):Option ρ :=
  è (î (List.length a.1.2.1)) (Ê (fun(c:Val ba) g=>jG a b a.1.2.2.1 (Ø a.1.2.2.1) c.1 c.2 (fun h i=>g (h,i)) (fun j=>Ê (fun(d:(Val (.pair tI af))) l=>jF a b a.1.2.2.2.1 (Ø a.1.2.2.2.1) d.1 d.2 (fun m n=>l (m,n)) (fun o=>Ê (fun(e:Val aU) p=>jE a b a.1.2.2.2.2.1 (Ø a.1.2.2.2.2.1) e.1 e.2 (fun q r=>p (q,r)) (fun s=>Ê (fun(f:Val ba) t=>jD a b a.1.2.2.2.2.2 (Ø a.1.2.2.2.2.2) f.1 f.2 (fun u v=>t (u,v)) (fun w=>k (a.1.1,a.1.2.1,j,o,s,w))) ((0:Int),[]))) ((0:Int),[]))) ((0:Int),[]))) ((0:Int),[]))
def Α (a:Val Â) (b:Val ag):Option (Val É):=t7 a b some
def Qz (b:Val Í) (a:Int) (k:Bool→Option ρ):Option ρ :=
  ifb (ige a 0) (k (ilt a b.1)) (k false)
def yG (a:Val Í) (b:Int):Option (Bool):=Qz a b some
def qW (f:Val ak) (g:Int) (d:Int) (e:Val ak) (a:Int) (h:Int→Option ρ) (c:Val Ä→Option ρ) (i:Unit→Option ρ):Option ρ :=
  ifb (ilt a g) (Ċ f a fun b=>Ã (yG (d,e) b.1) fun j=>ifb (!j) (c ((1:Int),a)) (Ã (yG (d,e) b.2.1) fun k=>ifb (!k) (c ((1:Int),a)) (ifb (ieq b.1 b.2.1) (c ((1:Int),a)) (ifb (ilt b.2.2 (-4503599627370496:Int)) (c ((1:Int),a)) (ifb (igt b.2.2 4503599627370496) (c ((1:Int),a)) (ck (a+(1:Int)) fun l=>h l)))))) (i ())
def Kw (a:Val Í) (k:Val Ä→Option ρ):Option ρ :=
  ifb (ilt a.1 1) (k ((1:Int),(-1:Int))) (ifb (igt a.1 60) (k ((1:Int),(-1:Int))) (ifb (igt (Ø a.2) 300) (k ((2:Int),(-1:Int))) (Ê (fun(c:Int) d=>qW a.2 (Ø a.2) a.1 a.2 c (fun e=>d e) (fun b=>k (b.1,b.2)) (fun _=>k ((0:Int),(-1:Int)))) (0:Int))))
def pI (a:Val Í):Option (Val Ä):=Kw a some
def ξ (c:Val ak) (d:Int) (b:Int) (a:Int) (e:Int→Int→Option ρ) (f:Int→Option ρ):Option ρ :=
  ifb (ilt a d) (Ċ c a fun g=>ck (b+(YR g.2.2 (0:Int))) fun h=>ck (a+(1:Int)) fun i=>e h i) (f b)
def ŏ (f:Int) (d:Val ab) (a:Int) (b:Val aq) (c:Val ab) (e:Int→Val aq→Val ab→Option ρ) (g:Val aL→Option ρ):Option ρ :=
  ifb (ilt a f) (è ((ile 0 a)&&(ilt a (ñ d))) (Ľ d (Int.toNat a) fun h=>ifb (ine h 1152921504606846976) (è (î ((List.length c)+(List.length ([a])))) (è ((ile 0 a)&&(ilt a (ñ b))) (Ľ b (Int.toNat a) fun k=>ck (a+(1:Int)) fun i=>e i (List.set b (Int.toNat a) true) (c++([a]))))) (ck (a+(1:Int)) fun j=>e j b c))) (g (b,c))
def iL (m:Val ao) (j:Int) (d:Int) (n:Val ak) (o:Int) (f:Int) (b:Val ab) (c:Val aq) (e:Val ab) (g:Int→Val ab→Val aq→Val ab→Option ρ) (l:(Val (.pair .bool (.pair ab aL)))→Option ρ) (p:(Val (.pair ab aL))→Option ρ):Option ρ :=
  ifb (ilt f o) (Ċ n f fun a=>ifb (ine a.1 d) (ck (f+(1:Int)) fun q=>g q b c e) (Iw (k:=tI) (v:=.bool) f m (fun r=>ifb r (ck (f+(1:Int)) fun s=>g s b c e) (è ((ile 0 d)&&(ilt d (ñ b))) (Ľ b (Int.toNat d) fun t=>ck (t+a.2.2) fun u=>è ((ile 0 a.2.1)&&(ilt a.2.1 (ñ b))) (Ľ b (Int.toNat a.2.1) fun w=>ifb (ige u w) (ck (f+(1:Int)) fun x=>g x b c e) (è ((ile 0 d)&&(ilt d (ñ b))) (Ľ b (Int.toNat d) fun y=>ck (y+a.2.2) fun h=>è ((ile 0 a.2.1)&&(ilt a.2.1 (ñ b))) (Ľ b (Int.toNat a.2.1) fun M=>è ((ile 0 a.2.1)&&(ilt a.2.1 (ñ (List.set b (Int.toNat a.2.1) h)))) (Ľ (List.set b (Int.toNat a.2.1) h) (Int.toNat a.2.1) fun z=>ifb (ilt z j) (l (false,(List.set b (Int.toNat a.2.1) h),c,e)) (è ((ile 0 a.2.1)&&(ilt a.2.1 (ñ c))) (Ľ c (Int.toNat a.2.1) fun A=>ifb (!A) (è (î ((List.length e)+(List.length ([a.2.1])))) (è ((ile 0 a.2.1)&&(ilt a.2.1 (ñ c))) (Ľ c (Int.toNat a.2.1) fun N=>ck (f+(1:Int)) fun B=>g B (List.set b (Int.toNat a.2.1) h) (List.set c (Int.toNat a.2.1) true) (e++([a.2.1]))))) (ck (f+(1:Int)) fun C=>g C (List.set b (Int.toNat a.2.1) h) c e))))))))))) (è ((ile 0 d)&&(ilt d (ñ b))) (Ľ b (Int.toNat d) fun D=>ck (D+a.2.2) fun E=>è ((ile 0 a.2.1)&&(ilt a.2.1 (ñ b))) (Ľ b (Int.toNat a.2.1) fun F=>ifb (ige E F) (ck (f+(1:Int)) fun G=>g G b c e) (è ((ile 0 d)&&(ilt d (ñ b))) (Ľ b (Int.toNat d) fun H=>ck (H+a.2.2) fun i=>è ((ile 0 a.2.1)&&(ilt a.2.1 (ñ b))) (Ľ b (Int.toNat a.2.1) fun O=>è ((ile 0 a.2.1)&&(ilt a.2.1 (ñ (List.set b (Int.toNat a.2.1) i)))) (Ľ (List.set b (Int.toNat a.2.1) i) (Int.toNat a.2.1) fun I=>ifb (ilt I j) (l (false,(List.set b (Int.toNat a.2.1) i),c,e)) (è ((ile 0 a.2.1)&&(ilt a.2.1 (ñ c))) (Ľ c (Int.toNat a.2.1) fun J=>ifb (!J) (è (î ((List.length e)+(List.length ([a.2.1])))) (è ((ile 0 a.2.1)&&(ilt a.2.1 (ñ c))) (Ľ c (Int.toNat a.2.1) fun P=>ck (f+(1:Int)) fun K=>g K (List.set b (Int.toNat a.2.1) i) (List.set c (Int.toNat a.2.1) true) (e++([a.2.1]))))) (ck (f+(1:Int)) fun L=>g L (List.set b (Int.toNat a.2.1) i) c e)))))))))))) (p (b,c,e))
def Ħ (l:Val ao) (m:Int) (n:Int) (k:Val ak) (h:Val ab) (d:Val aq) (b:Val ab) (c:Val ab) (o:Val ab→Val aq→Val ab→Val ab→Option ρ) (i:(Val (.pair .bool aM))→Option ρ):Option ρ :=
  ifb (ieq (Ø c) 0) (i (true,h,d,b,c)) (è (ilt 0 (ñ c)) (Ľ c 0 fun a=>è (ile 1 (ñ c)) (è (decide (1+(List.length c-1)=List.length c)) (è ((ile 0 a)&&(ilt a (ñ d))) (Ľ d (Int.toNat a) fun x=>è ((ile 0 a)&&(ilt a (ñ b))) (Ľ b (Int.toNat a) fun p=>ck (p+(1:Int)) fun e=>è ((ile 0 a)&&(ilt a (ñ b))) (Ľ b (Int.toNat a) fun y=>è ((ile 0 a)&&(ilt a (ñ (List.set b (Int.toNat a) e)))) (Ľ (List.set b (Int.toNat a) e) (Int.toNat a) fun q=>ck (n+(1:Int)) fun r=>ifb (igt q r) (i (false,h,(List.set d (Int.toNat a) false),(List.set b (Int.toNat a) e),(List.drop 1 c))) (Ê (fun(f:(Val (.pair tI (.pair ab aL)))) s=>iL l m a k (Ø k) f.1 f.2.1 f.2.2.1 f.2.2.2 (fun t u v w=>s (t,u,v,w)) (fun g=>i (g.1,g.2.1,g.2.2.1,(List.set b (Int.toNat a) e),g.2.2.2)) (fun j=>o j.1 j.2.1 (List.set b (Int.toNat a) e) j.2.2)) ((0:Int),h,(List.set d (Int.toNat a) false),(List.drop 1 c)))))))))))
def iK (c:Int) (d:Int) (a:Int) (b:Val ab) (e:Int→Val ab→Option ρ) (f:Val ab→Option ρ):Option ρ :=
  ifb (ilt a d) (è ((ile 0 a)&&(ilt a (ñ b))) (Ľ b (Int.toNat a) fun g=>ck (g-c) fun h=>è ((ile 0 a)&&(ilt a (ñ b))) (Ľ b (Int.toNat a) fun j=>ck (a+(1:Int)) fun i=>e i (List.set b (Int.toNat a) h)))) (f b)
def xj (a:Val Í) (h:Val ao) (k:(Val (.pair ab .bool))→Option ρ):Option ρ :=
  è ((ile 0 a.1)&&(î (Int.toNat a.1))) (è ((ile 0 a.1)&&(î (Int.toNat a.1))) (è ((ile 0 a.1)&&(î (Int.toNat a.1))) (Ê (fun(e:Val Ä) i=>ξ a.2 (Ø a.2) e.1 e.2 (fun j l=>i (j,l)) (fun m=>Ê (fun(d:(Val (.pair tI aL))) n=>ŏ a.1 (List.replicate (Int.toNat a.1) (0:Int)) d.1 d.2.1 d.2.2 (fun o p q=>n (o,p,q)) (fun f=>Ê (fun(c:Val aM) r=>Ħ h m a.1 a.2 c.1 c.2.1 c.2.2.1 c.2.2.2 (fun s t u v=>r (s,t,u,v)) (fun b=>ifb (!b.1) (k ([],false)) (è (ilt 0 (ñ b.2.1)) (Ľ b.2.1 0 fun w=>Ê (fun(g:Val ŋ) x=>iK w (Ø b.2.1) g.1 g.2 (fun y z=>x (y,z)) (fun A=>k (A,true))) ((0:Int),b.2.1))))) ((List.replicate (Int.toNat a.1) (0:Int)),f.1,(List.replicate (Int.toNat a.1) (0:Int)),f.2))) ((0:Int),(List.replicate (Int.toNat a.1) false),[]))) ((0:Int),(0:Int)))))
def j7 (a:Val Í) (b:Val ao):Option ((Val (.pair ab .bool))):=xj a b some
def rQ (a:Val Í) (k:Val aW→Option ρ):Option ρ :=
  Ã (pI a) fun b=>ifb (ine b.1 0) (k (false,b.1)) (Ã (j7 a ([])) fun c=>k (c.2,(0:Int)))
def mr (a:Val Í):Option ((Val aW)):=rQ a some
def wS (a:Val Â) (b:Val ag) (k:Bool→Option ρ):Option ρ :=
  Ã (Α a b) fun c=>Ã (il c) fun d=>Ã (mr d.1) fun e=>k e.1
def Β (a:Val Â) (b:Val ag):Option (Bool):=wS a b some
def oc (d:Int) (e:Val ab) (f:Int) (g:Val ai) (b:Int) (a:Int) (c:Int→Int→Option ρ) (h:Int→Option ρ):Option ρ :=
  ifb (ilt a f) (Ċ e a fun i=>Ċ g d fun j=>Ċ j.2 a fun k=>ifb (ine k i) (ck (b+(1:Int)) fun l=>ck (a+(1:Int)) fun m=>c l m) (ck (a+(1:Int)) fun n=>c b n)) (h b)
def od (e:Val ag) (f:Int) (g:Val ai) (b:Int) (a:Int) (h:Int→Int→Option ρ) (i:Int→Option ρ):Option ρ :=
  ifb (ilt a f) (Ċ e a fun c=>Ê (fun(d:Val Ä) j=>oc a c (Ø c) g d.1 d.2 (fun k l=>j (k,l)) (fun m=>ck (a+(1:Int)) fun n=>h m n)) (b,(0:Int))) (i b)
def Fc (c:Val Â) (a:Val ag) (k:Int→Option ρ):Option ρ :=
  Ê (fun(b:Val Ä) d=>od a (Ø a) c.2 b.1 b.2 (fun e f=>d (e,f)) (fun g=>k g)) ((0:Int),(0:Int))
def ĥ (a:Val Â) (b:Val ag):Option (Int):=Fc a b some
def pw (a:Int) (k:Bool→Option ρ):Option ρ :=
  k (ine a a)
def kM (a:Int):Option (Bool):=pw a some
def lX (a:Int) (b:Int) (k:Int→Option ρ):Option ρ :=
  Ã (kM a) fun d=>Ã (kM b) fun c=>ifb d (ifb c (k (0:Int)) (k (-1:Int))) (ifb c (k (1:Int)) (ifb (ilt a b) (k (-1:Int)) (ifb (igt a b) (k (1:Int)) (k (0:Int)))))
def υ (a:Int) (b:Int):Option (Int):=lX a b some
def Fe (b:Val ag) (c:Val ag) (a:Val au) (k:Int→Option ρ):Option ρ :=
  Ã (ĥ a b) fun d=>Ã (ĥ a c) fun e=>Ã (υ d e) fun f=>k f
def i8 (a:Val ag) (b:Val ag) (c:Val au):Option (Int):=Fe a b c some
def ä (h:Int) (i:Int) (j:Int) (k:Val ae) (l:Val aa) (m:Val af) (n:Val ac) (o:Val aa) (p:Val ai) (a:Int) (b:Val aj) (q:Int→Val aj→Option ρ) (g:Val aj→Option ρ):Option ρ :=
  ifb (igt a h) (è ((ile 0 a)&&(ilt a (ñ b))) (Ľ b (Int.toNat a) fun r=>ck (a-(1:Int)) fun d=>è ((ile 0 d)&&(ilt d (ñ b))) (Ľ b (Int.toNat d) fun s=>Ã (i8 r s (((i,j),k,l,m,n,o),p)) fun t=>ifb (ilt t 0) (ck (a-(1:Int)) fun c=>ck (a-(1:Int)) fun e=>è ((ile 0 e)&&(ilt e (ñ b))) (Ľ b (Int.toNat e) fun f=>è ((ile 0 a)&&(ilt a (ñ b))) (Ľ b (Int.toNat a) fun u=>è ((ile 0 a)&&(ilt a (ñ b))) (Ľ b (Int.toNat a) fun w=>è ((ile 0 c)&&(ilt c (ñ (List.set b (Int.toNat a) f)))) (Ľ (List.set b (Int.toNat a) f) (Int.toNat c) fun x=>ck (a-(1:Int)) fun v=>q v (List.set (List.set b (Int.toNat a) f) (Int.toNat c) u)))))) (g b)))) (g b)
def ć (d:Int) (e:Int) (f:Int) (g:Int) (h:Val ae) (i:Val aa) (j:Val af) (k:Val ac) (l:Val aa) (m:Val ai) (a:Int) (b:Val aj) (n:Int→Val aj→Option ρ) (o:Val aj→Option ρ):Option ρ :=
  ifb (ilt a e) (Ê (fun(c:Val aB) p=>ä d f g h i j k l m c.1 c.2 (fun q r=>p (q,r)) (fun s=>ck (a+(1:Int)) fun t=>n t s)) (a,b)) (o b)
def ş (c:Val aj) (a:Int) (d:Int) (mm:Val Â) (k:((Val aj))×(Val Â)→Option ρ):Option ρ :=
  ck (a+(1:Int)) fun e=>Ê (fun(b:Val aB) f=>ć a d mm.1.1.1 mm.1.1.2 mm.1.2.1 mm.1.2.2.1 mm.1.2.2.2.1 mm.1.2.2.2.2.1 mm.1.2.2.2.2.2 mm.2 b.1 b.2 (fun g h=>f (g,h)) (fun i=>k (i,mm))) (e,c)
def ã (a:Val aj) (b:Int) (c:Int) (mm:Val Â):Option (((Val aj))×(Val Â)):=ş a b c mm some
def Ć (h:Int) (i:Int) (j:Int) (b:Int) (a:Val aj) (k:Int→Val aj→Option ρ) (l:Val aj→Option ρ):Option ρ :=
  ifb (ilt b j) (ck (h+b) fun c=>ck (i+b) fun d=>ck (i+b) fun e=>è ((ile 0 e)&&(ilt e (ñ a))) (Ľ a (Int.toNat e) fun f=>ck (h+b) fun g=>è ((ile 0 g)&&(ilt g (ñ a))) (Ľ a (Int.toNat g) fun m=>è ((ile 0 c)&&(ilt c (ñ a))) (Ľ a (Int.toNat c) fun o=>è ((ile 0 d)&&(ilt d (ñ (List.set a (Int.toNat c) f)))) (Ľ (List.set a (Int.toNat c) f) (Int.toNat d) fun p=>ck (b+(1:Int)) fun n=>k n (List.set (List.set a (Int.toNat c) f) (Int.toNat d) m)))))) (l a)
def κ (h:Int) (i:Int) (j:Int) (b:Int) (a:Val aj) (k:Int→Val aj→Option ρ) (l:Val aj→Option ρ):Option ρ :=
  ifb (ilt b j) (ck (h+b) fun c=>ck (i+b) fun d=>ck (i+b) fun e=>è ((ile 0 e)&&(ilt e (ñ a))) (Ľ a (Int.toNat e) fun f=>ck (h+b) fun g=>è ((ile 0 g)&&(ilt g (ñ a))) (Ľ a (Int.toNat g) fun m=>è ((ile 0 c)&&(ilt c (ñ a))) (Ľ a (Int.toNat c) fun o=>è ((ile 0 d)&&(ilt d (ñ (List.set a (Int.toNat c) f)))) (Ľ (List.set a (Int.toNat c) f) (Int.toNat d) fun p=>ck (b+(1:Int)) fun n=>k n (List.set (List.set a (Int.toNat c) f) (Int.toNat d) m)))))) (l a)
def Ī (c:Int) (a:Int) (b:Int) (d:Val aj) (e:Int→Int→Val aj→Option ρ) (h:Val aB→Option ρ):Option ρ :=
  ifb (ine a b) (ifb (igt a b) (ck (c-a) fun i=>Ê (fun(f:Val aB) j=>Ć i c b f.1 f.2 (fun k l=>j (k,l)) (fun m=>ck (a-b) fun n=>e n b m)) ((0:Int),d)) (ck (c-a) fun o=>ck (c+b) fun p=>ck (p-a) fun q=>Ê (fun(g:Val aB) r=>κ o q a g.1 g.2 (fun s t=>r (s,t)) (fun u=>ck (b-a) fun v=>e a v u)) ((0:Int),d))) (h (a,d))
def ι (h:Int) (i:Int) (j:Int) (b:Int) (a:Val aj) (k:Int→Val aj→Option ρ) (l:Val aj→Option ρ):Option ρ :=
  ifb (ilt b j) (ck (h+b) fun c=>ck (i+b) fun d=>ck (i+b) fun e=>è ((ile 0 e)&&(ilt e (ñ a))) (Ľ a (Int.toNat e) fun f=>ck (h+b) fun g=>è ((ile 0 g)&&(ilt g (ñ a))) (Ľ a (Int.toNat g) fun m=>è ((ile 0 c)&&(ilt c (ñ a))) (Ľ a (Int.toNat c) fun o=>è ((ile 0 d)&&(ilt d (ñ (List.set a (Int.toNat c) f)))) (Ľ (List.set a (Int.toNat c) f) (Int.toNat d) fun p=>ck (b+(1:Int)) fun n=>k n (List.set (List.set a (Int.toNat c) f) (Int.toNat d) m)))))) (l a)
def iJ (e:Val aj) (f:Int) (a:Int) (g:Int) (mm:Val Â) (k:((Val aj))×(Val Â)→Option ρ):Option ρ :=
  ck (a-f) fun h=>ck (g-a) fun i=>Ê (fun(b:(Val (.pair tI aB))) j=>Ī a b.1 b.2.1 b.2.2 (fun l m n=>j (l,m,n)) (fun c=>ck (a-c.1) fun o=>Ê (fun(d:Val aB) p=>ι o a c.1 d.1 d.2 (fun q r=>p (q,r)) (fun s=>k (s,mm))) ((0:Int),c.2))) (h,i,e)
def Ĭ (a:Val aj) (b:Int) (c:Int) (d:Int) (mm:Val Â):Option (((Val aj))×(Val Â)):=iJ a b c d mm some
def ó (rec:Val aj→Int→Int→Int→Val Â→Option ((Val aj)×(Val Â))) (d:Int) (b:Val aj) (g:Int) (h:Int) (i:Val ae) (j:Val aa) (k:Val af) (l:Val ac) (m:Val aa) (n:Val ai) (c:Int) (e:Int) (f:Int→Int→Option ρ) (o:Int→Option ρ):Option ρ :=
  ifb (ilt c e) (ck (c+e) fun a=>è ((ile 0 (IntKind.wrap .i64 (gP .u64 (IntKind.wrap .u64 a) (1:Int))))&&(ilt (IntKind.wrap .i64 (gP .u64 (IntKind.wrap .u64 a) (1:Int))) (ñ b))) (Ľ b (Int.toNat (IntKind.wrap .i64 (gP .u64 (IntKind.wrap .u64 a) (1:Int)))) fun p=>è ((ile 0 d)&&(ilt d (ñ b))) (Ľ b (Int.toNat d) fun q=>Ã (i8 p q (((g,h),i,j,k,l,m),n)) fun r=>ifb (ilt r 0) (ck ((IntKind.wrap .i64 (gP .u64 (IntKind.wrap .u64 a) (1:Int)))+(1:Int)) fun s=>f s e) (f c (IntKind.wrap .i64 (gP .u64 (IntKind.wrap .u64 a) (1:Int))))))) (o c)
def ë (rec:Val aj→Int→Int→Int→Val Â→Option ((Val aj)×(Val Â))) (f:Int) (a:Int) (b:Val aj) (g:Int→Val aj→Option ρ) (h:Val aj→Option ρ):Option ρ :=
  ck (f-(1:Int)) fun i=>ifb (ilt a i) (ck (a+(1:Int)) fun c=>ck (a+(1:Int)) fun d=>è ((ile 0 d)&&(ilt d (ñ b))) (Ľ b (Int.toNat d) fun e=>è ((ile 0 a)&&(ilt a (ñ b))) (Ľ b (Int.toNat a) fun j=>è ((ile 0 a)&&(ilt a (ñ b))) (Ľ b (Int.toNat a) fun l=>è ((ile 0 c)&&(ilt c (ñ (List.set b (Int.toNat a) e)))) (Ľ (List.set b (Int.toNat a) e) (Int.toNat c) fun m=>ck (a+(1:Int)) fun k=>g k (List.set (List.set b (Int.toNat a) e) (Int.toNat c) j)))))) (h b)
def ò (rec:Val aj→Int→Int→Int→Val Â→Option ((Val aj)×(Val Â))) (d:Int) (b:Val aj) (g:Int) (h:Int) (i:Val ae) (j:Val aa) (k:Val af) (l:Val ac) (m:Val aa) (n:Val ai) (c:Int) (e:Int) (f:Int→Int→Option ρ) (o:Int→Option ρ):Option ρ :=
  ifb (ilt c e) (ck (c+e) fun a=>è ((ile 0 d)&&(ilt d (ñ b))) (Ľ b (Int.toNat d) fun p=>è ((ile 0 (IntKind.wrap .i64 (gP .u64 (IntKind.wrap .u64 a) (1:Int))))&&(ilt (IntKind.wrap .i64 (gP .u64 (IntKind.wrap .u64 a) (1:Int))) (ñ b))) (Ľ b (Int.toNat (IntKind.wrap .i64 (gP .u64 (IntKind.wrap .u64 a) (1:Int)))) fun q=>Ã (i8 p q (((g,h),i,j,k,l,m),n)) fun r=>ifb (!(ilt r 0)) (ck ((IntKind.wrap .i64 (gP .u64 (IntKind.wrap .u64 a) (1:Int)))+(1:Int)) fun s=>f s e) (f c (IntKind.wrap .i64 (gP .u64 (IntKind.wrap .u64 a) (1:Int))))))) (o c)
def ê (rec:Val aj→Int→Int→Int→Val Â→Option ((Val aj)×(Val Â))) (f:Int) (a:Int) (b:Val aj) (g:Int→Val aj→Option ρ) (h:Val aj→Option ρ):Option ρ :=
  ifb (igt a f) (ck (a-(1:Int)) fun c=>ck (a-(1:Int)) fun d=>è ((ile 0 d)&&(ilt d (ñ b))) (Ľ b (Int.toNat d) fun e=>è ((ile 0 a)&&(ilt a (ñ b))) (Ľ b (Int.toNat a) fun i=>è ((ile 0 a)&&(ilt a (ñ b))) (Ľ b (Int.toNat a) fun k=>è ((ile 0 c)&&(ilt c (ñ (List.set b (Int.toNat a) e)))) (Ľ (List.set b (Int.toNat a) e) (Int.toNat c) fun l=>ck (a-(1:Int)) fun j=>g j (List.set (List.set b (Int.toNat a) e) (Int.toNat c) i)))))) (h b)
def Ý (rec:Val aj→Int→Int→Int→Val Â→Option ((Val aj)×(Val Â))) (g:Int) (b:Val aj) (h:Int) (i:Int) (j:Val ae) (k:Val aa) (l:Val af) (m:Val ac) (n:Val aa) (o:Val ai) (c:Int) (d:Int) (f:Int→Int→Option ρ) (p:Int→Option ρ):Option ρ :=
  ifb (ilt c d) (ck (c+d) fun a=>ck (g-(IntKind.wrap .i64 (gP .u64 (IntKind.wrap .u64 a) (1:Int)))) fun e=>è ((ile 0 e)&&(ilt e (ñ b))) (Ľ b (Int.toNat e) fun q=>è ((ile 0 (IntKind.wrap .i64 (gP .u64 (IntKind.wrap .u64 a) (1:Int))))&&(ilt (IntKind.wrap .i64 (gP .u64 (IntKind.wrap .u64 a) (1:Int))) (ñ b))) (Ľ b (Int.toNat (IntKind.wrap .i64 (gP .u64 (IntKind.wrap .u64 a) (1:Int)))) fun r=>Ã (i8 q r (((h,i),j,k,l,m,n),o)) fun s=>ifb (!(ilt s 0)) (ck ((IntKind.wrap .i64 (gP .u64 (IntKind.wrap .u64 a) (1:Int)))+(1:Int)) fun t=>f t d) (f c (IntKind.wrap .i64 (gP .u64 (IntKind.wrap .u64 a) (1:Int))))))) (p c)
def Ġ (rec:Val aj→Int→Int→Int→Val Â→Option ((Val aj)×(Val Â))) (c:Val aj) (f:Int) (g:Int) (b:Int) (mm:Val Â) (k:((Val aj))×(Val Â)→Option ρ):Option ρ :=
  ck (g-f) fun R=>ifb (ieq R 1) (Ê (fun(t:Val Ä) S=>ó rec f c mm.1.1.1 mm.1.1.2 mm.1.2.1 mm.1.2.2.1 mm.1.2.2.2.1 mm.1.2.2.2.2.1 mm.1.2.2.2.2.2 mm.2 t.1 t.2 (fun T U=>S (T,U)) (fun V=>Ê (fun(u:Val aB) W=>ë rec V u.1 u.2 (fun X Y=>W (X,Y)) (fun Z=>k (Z,mm))) (f,c))) (g,b)) (ck (b-g) fun dc=>ifb (ieq dc 1) (Ê (fun(v:Val Ä) df=>ò rec g c mm.1.1.1 mm.1.1.2 mm.1.2.1 mm.1.2.2.1 mm.1.2.2.2.1 mm.1.2.2.2.2.1 mm.1.2.2.2.2.2 mm.2 v.1 v.2 (fun dg dh=>df (dg,dh)) (fun di=>Ê (fun(w:Val aB) dj=>ê rec di w.1 w.2 (fun dk dl=>dj (dk,dl)) (fun dm=>k (dm,mm))) (g,c))) (f,g)) (ck (f+b) fun a=>ck ((IntKind.wrap .i64 (gP .u64 (IntKind.wrap .u64 a) (1:Int)))+g) fun s=>ifb (igt g (IntKind.wrap .i64 (gP .u64 (IntKind.wrap .u64 a) (1:Int)))) (ck (s-b) fun dt=>ck (s-1) fun du=>Ê (fun(x:Val Ä) dv=>Ý rec du c mm.1.1.1 mm.1.1.2 mm.1.2.1 mm.1.2.2.1 mm.1.2.2.2.1 mm.1.2.2.2.2.1 mm.1.2.2.2.2.2 mm.2 x.1 x.2 (fun dw dz=>dv (dw,dz)) (fun j=>ck (s-j) fun d=>ifb (ilt j g) (ifb (ilt g d) (Ã (Ĭ c j g d mm) fun h=>ifb (ilt f j) (ifb (ilt j (IntKind.wrap .i64 (gP .u64 (IntKind.wrap .u64 a) (1:Int)))) (Ã (rec h.1 f j (IntKind.wrap .i64 (gP .u64 (IntKind.wrap .u64 a) (1:Int))) h.2) fun m=>ifb (ilt (IntKind.wrap .i64 (gP .u64 (IntKind.wrap .u64 a) (1:Int))) d) (ifb (ilt d b) (Ã (rec m.1 (IntKind.wrap .i64 (gP .u64 (IntKind.wrap .u64 a) (1:Int))) d b m.2) fun y=>k (y.1,y.2)) (k (m.1,m.2))) (k (m.1,m.2))) (ifb (ilt (IntKind.wrap .i64 (gP .u64 (IntKind.wrap .u64 a) (1:Int))) d) (ifb (ilt d b) (Ã (rec h.1 (IntKind.wrap .i64 (gP .u64 (IntKind.wrap .u64 a) (1:Int))) d b h.2) fun z=>k (z.1,z.2)) (k (h.1,h.2))) (k (h.1,h.2)))) (ifb (ilt (IntKind.wrap .i64 (gP .u64 (IntKind.wrap .u64 a) (1:Int))) d) (ifb (ilt d b) (Ã (rec h.1 (IntKind.wrap .i64 (gP .u64 (IntKind.wrap .u64 a) (1:Int))) d b h.2) fun A=>k (A.1,A.2)) (k (h.1,h.2))) (k (h.1,h.2)))) (ifb (ilt f j) (ifb (ilt j (IntKind.wrap .i64 (gP .u64 (IntKind.wrap .u64 a) (1:Int)))) (Ã (rec c f j (IntKind.wrap .i64 (gP .u64 (IntKind.wrap .u64 a) (1:Int))) mm) fun n=>ifb (ilt (IntKind.wrap .i64 (gP .u64 (IntKind.wrap .u64 a) (1:Int))) d) (ifb (ilt d b) (Ã (rec n.1 (IntKind.wrap .i64 (gP .u64 (IntKind.wrap .u64 a) (1:Int))) d b n.2) fun B=>k (B.1,B.2)) (k (n.1,n.2))) (k (n.1,n.2))) (ifb (ilt (IntKind.wrap .i64 (gP .u64 (IntKind.wrap .u64 a) (1:Int))) d) (ifb (ilt d b) (Ã (rec c (IntKind.wrap .i64 (gP .u64 (IntKind.wrap .u64 a) (1:Int))) d b mm) fun C=>k (C.1,C.2)) (k (c,mm))) (k (c,mm)))) (ifb (ilt (IntKind.wrap .i64 (gP .u64 (IntKind.wrap .u64 a) (1:Int))) d) (ifb (ilt d b) (Ã (rec c (IntKind.wrap .i64 (gP .u64 (IntKind.wrap .u64 a) (1:Int))) d b mm) fun D=>k (D.1,D.2)) (k (c,mm))) (k (c,mm))))) (ifb (ilt f j) (ifb (ilt j (IntKind.wrap .i64 (gP .u64 (IntKind.wrap .u64 a) (1:Int)))) (Ã (rec c f j (IntKind.wrap .i64 (gP .u64 (IntKind.wrap .u64 a) (1:Int))) mm) fun o=>ifb (ilt (IntKind.wrap .i64 (gP .u64 (IntKind.wrap .u64 a) (1:Int))) d) (ifb (ilt d b) (Ã (rec o.1 (IntKind.wrap .i64 (gP .u64 (IntKind.wrap .u64 a) (1:Int))) d b o.2) fun E=>k (E.1,E.2)) (k (o.1,o.2))) (k (o.1,o.2))) (ifb (ilt (IntKind.wrap .i64 (gP .u64 (IntKind.wrap .u64 a) (1:Int))) d) (ifb (ilt d b) (Ã (rec c (IntKind.wrap .i64 (gP .u64 (IntKind.wrap .u64 a) (1:Int))) d b mm) fun F=>k (F.1,F.2)) (k (c,mm))) (k (c,mm)))) (ifb (ilt (IntKind.wrap .i64 (gP .u64 (IntKind.wrap .u64 a) (1:Int))) d) (ifb (ilt d b) (Ã (rec c (IntKind.wrap .i64 (gP .u64 (IntKind.wrap .u64 a) (1:Int))) d b mm) fun G=>k (G.1,G.2)) (k (c,mm))) (k (c,mm)))))) (dt,(IntKind.wrap .i64 (gP .u64 (IntKind.wrap .u64 a) (1:Int))))) (ck (s-1) fun d8=>Ê (fun(H:Val Ä) d9=>Ý rec d8 c mm.1.1.1 mm.1.1.2 mm.1.2.1 mm.1.2.2.1 mm.1.2.2.2.1 mm.1.2.2.2.2.1 mm.1.2.2.2.2.2 mm.2 H.1 H.2 (fun ee eh=>d9 (ee,eh)) (fun l=>ck (s-l) fun e=>ifb (ilt l g) (ifb (ilt g e) (Ã (Ĭ c l g e mm) fun i=>ifb (ilt f l) (ifb (ilt l (IntKind.wrap .i64 (gP .u64 (IntKind.wrap .u64 a) (1:Int)))) (Ã (rec i.1 f l (IntKind.wrap .i64 (gP .u64 (IntKind.wrap .u64 a) (1:Int))) i.2) fun p=>ifb (ilt (IntKind.wrap .i64 (gP .u64 (IntKind.wrap .u64 a) (1:Int))) e) (ifb (ilt e b) (Ã (rec p.1 (IntKind.wrap .i64 (gP .u64 (IntKind.wrap .u64 a) (1:Int))) e b p.2) fun I=>k (I.1,I.2)) (k (p.1,p.2))) (k (p.1,p.2))) (ifb (ilt (IntKind.wrap .i64 (gP .u64 (IntKind.wrap .u64 a) (1:Int))) e) (ifb (ilt e b) (Ã (rec i.1 (IntKind.wrap .i64 (gP .u64 (IntKind.wrap .u64 a) (1:Int))) e b i.2) fun J=>k (J.1,J.2)) (k (i.1,i.2))) (k (i.1,i.2)))) (ifb (ilt (IntKind.wrap .i64 (gP .u64 (IntKind.wrap .u64 a) (1:Int))) e) (ifb (ilt e b) (Ã (rec i.1 (IntKind.wrap .i64 (gP .u64 (IntKind.wrap .u64 a) (1:Int))) e b i.2) fun K=>k (K.1,K.2)) (k (i.1,i.2))) (k (i.1,i.2)))) (ifb (ilt f l) (ifb (ilt l (IntKind.wrap .i64 (gP .u64 (IntKind.wrap .u64 a) (1:Int)))) (Ã (rec c f l (IntKind.wrap .i64 (gP .u64 (IntKind.wrap .u64 a) (1:Int))) mm) fun q=>ifb (ilt (IntKind.wrap .i64 (gP .u64 (IntKind.wrap .u64 a) (1:Int))) e) (ifb (ilt e b) (Ã (rec q.1 (IntKind.wrap .i64 (gP .u64 (IntKind.wrap .u64 a) (1:Int))) e b q.2) fun L=>k (L.1,L.2)) (k (q.1,q.2))) (k (q.1,q.2))) (ifb (ilt (IntKind.wrap .i64 (gP .u64 (IntKind.wrap .u64 a) (1:Int))) e) (ifb (ilt e b) (Ã (rec c (IntKind.wrap .i64 (gP .u64 (IntKind.wrap .u64 a) (1:Int))) e b mm) fun M=>k (M.1,M.2)) (k (c,mm))) (k (c,mm)))) (ifb (ilt (IntKind.wrap .i64 (gP .u64 (IntKind.wrap .u64 a) (1:Int))) e) (ifb (ilt e b) (Ã (rec c (IntKind.wrap .i64 (gP .u64 (IntKind.wrap .u64 a) (1:Int))) e b mm) fun N=>k (N.1,N.2)) (k (c,mm))) (k (c,mm))))) (ifb (ilt f l) (ifb (ilt l (IntKind.wrap .i64 (gP .u64 (IntKind.wrap .u64 a) (1:Int)))) (Ã (rec c f l (IntKind.wrap .i64 (gP .u64 (IntKind.wrap .u64 a) (1:Int))) mm) fun r=>ifb (ilt (IntKind.wrap .i64 (gP .u64 (IntKind.wrap .u64 a) (1:Int))) e) (ifb (ilt e b) (Ã (rec r.1 (IntKind.wrap .i64 (gP .u64 (IntKind.wrap .u64 a) (1:Int))) e b r.2) fun O=>k (O.1,O.2)) (k (r.1,r.2))) (k (r.1,r.2))) (ifb (ilt (IntKind.wrap .i64 (gP .u64 (IntKind.wrap .u64 a) (1:Int))) e) (ifb (ilt e b) (Ã (rec c (IntKind.wrap .i64 (gP .u64 (IntKind.wrap .u64 a) (1:Int))) e b mm) fun P=>k (P.1,P.2)) (k (c,mm))) (k (c,mm)))) (ifb (ilt (IntKind.wrap .i64 (gP .u64 (IntKind.wrap .u64 a) (1:Int))) e) (ifb (ilt e b) (Ã (rec c (IntKind.wrap .i64 (gP .u64 (IntKind.wrap .u64 a) (1:Int))) e b mm) fun Q=>k (Q.1,Q.2)) (k (c,mm))) (k (c,mm)))))) (f,g))))
def ğ:Nat→Val aj→Int→Int→Int→Val Â→Option ((Val aj)×(Val Â))
  |0=>fun _ _ _ _ _=>none
  |n+1=>fun a b c d mm=>Ġ (ğ n) a b c d mm some
def ď (a:Val aj) (b:Int) (c:Int) (d:Int) (mm:Val Â):Option (((Val aj))×(Val Â)):=ğ 100 a b c d mm
def θ (m:Int) (n:Int) (c:Int) (b:Int) (d:Val aj) (e:Int) (f:Int) (g:Val ae) (h:Val aa) (i:Val af) (j:Val ac) (k:Val aa) (l:Val ai) (o:Int→Int→Val aj→Int→Int→Val ae→Val aa→Val af→Val ac→Val aa→Val ai→Option ρ) (p:Val aw→Option ρ):Option ρ :=
  ifb (ile b m) (Ã (ã d c b (((e,f),g,h,i,j,k),l)) fun a=>ck (b+n) fun q=>o b q a.1 a.2.1.1.1 a.2.1.1.2 a.2.1.2.1 a.2.1.2.2.1 a.2.1.2.2.2.1 a.2.1.2.2.2.2.1 a.2.1.2.2.2.2.2 a.2.2) (p (c,d,e,f,g,h,i,j,k,l))
def ζ (n:Int) (d:Int) (c:Int) (b:Int) (e:Val aj) (f:Int) (g:Int) (h:Val ae) (i:Val aa) (j:Val af) (k:Val ac) (l:Val aa) (m:Val ai) (o:Int→Int→Val aj→Int→Int→Val ae→Val aa→Val af→Val ac→Val aa→Val ai→Option ρ) (p:Val aw→Option ρ):Option ρ :=
  ifb (ile b n) (ck (c+d) fun q=>Ã (ď e c q b (((f,g),h,i,j,k,l),m)) fun a=>ck ((2:Int)*d) fun r=>ck (b+r) fun s=>o b s a.1 a.2.1.1.1 a.2.1.1.2 a.2.1.2.1 a.2.1.2.2.1 a.2.1.2.2.2.1 a.2.1.2.2.2.2.1 a.2.1.2.2.2.2.2 a.2.2) (p (c,e,f,g,h,i,j,k,l,m))
def η (e:Int) (d:Int) (f:Val aj) (g:Int) (h:Int) (i:Val ae) (j:Val aa) (k:Val af) (l:Val ac) (m:Val aa) (n:Val ai) (o:Int→Val aj→Int→Int→Val ae→Val aa→Val af→Val ac→Val aa→Val ai→Option ρ) (q:(Val (.pair aj ah))→Option ρ):Option ρ :=
  ifb (ilt d e) (ck ((2:Int)*d) fun r=>Ê (fun(b:(Val (.pair tI aw))) s=>ζ e d b.1 b.2.1 b.2.2.1 b.2.2.2.1 b.2.2.2.2.1 b.2.2.2.2.2.1 b.2.2.2.2.2.2.1 b.2.2.2.2.2.2.2.1 b.2.2.2.2.2.2.2.2.1 b.2.2.2.2.2.2.2.2.2.1 b.2.2.2.2.2.2.2.2.2.2 (fun t u v w x y z A B C D=>s (t,u,v,w,x,y,z,A,B,C,D)) (fun a=>ck (a.1+d) fun p=>ifb (ilt p e) (Ã (ď a.2.1 a.1 p e (((a.2.2.1,a.2.2.2.1),a.2.2.2.2.1,a.2.2.2.2.2.1,a.2.2.2.2.2.2.1,a.2.2.2.2.2.2.2.1,a.2.2.2.2.2.2.2.2.1),a.2.2.2.2.2.2.2.2.2)) fun c=>ck (d*(2:Int)) fun E=>o E c.1 c.2.1.1.1 c.2.1.1.2 c.2.1.2.1 c.2.1.2.2.1 c.2.1.2.2.2.1 c.2.1.2.2.2.2.1 c.2.1.2.2.2.2.2 c.2.2) (ck (d*(2:Int)) fun F=>o F a.2.1 a.2.2.1 a.2.2.2.1 a.2.2.2.2.1 a.2.2.2.2.2.1 a.2.2.2.2.2.2.1 a.2.2.2.2.2.2.2.1 a.2.2.2.2.2.2.2.2.1 a.2.2.2.2.2.2.2.2.2))) ((0:Int),r,f,g,h,i,j,k,l,m,n)) (q (f,g,h,i,j,k,l,m,n))
def iI (g:Val aj) (f:Int) (mm:Val Â) (k:((Val aj))×(Val Â)→Option ρ):Option ρ :=
  Ê (fun(a:(Val (.pair tI aw))) h=>θ f (20:Int) a.1 a.2.1 a.2.2.1 a.2.2.2.1 a.2.2.2.2.1 a.2.2.2.2.2.1 a.2.2.2.2.2.2.1 a.2.2.2.2.2.2.2.1 a.2.2.2.2.2.2.2.2.1 a.2.2.2.2.2.2.2.2.2.1 a.2.2.2.2.2.2.2.2.2.2 (fun i j l m n o p q r s t=>h (i,j,l,m,n,o,p,q,r,s,t)) (fun b=>Ã (ã b.2.1 b.1 f (((b.2.2.1,b.2.2.2.1),b.2.2.2.2.1,b.2.2.2.2.2.1,b.2.2.2.2.2.2.1,b.2.2.2.2.2.2.2.1,b.2.2.2.2.2.2.2.2.1),b.2.2.2.2.2.2.2.2.2)) fun d=>Ê (fun(c:Val aw) u=>η f c.1 c.2.1 c.2.2.1 c.2.2.2.1 c.2.2.2.2.1 c.2.2.2.2.2.1 c.2.2.2.2.2.2.1 c.2.2.2.2.2.2.2.1 c.2.2.2.2.2.2.2.2.1 c.2.2.2.2.2.2.2.2.2 (fun v w x y z A B C D E=>u (v,w,x,y,z,A,B,C,D,E)) (fun e=>k (e.1,(((e.2.1,e.2.2.1),e.2.2.2.1,e.2.2.2.2.1,e.2.2.2.2.2.1,e.2.2.2.2.2.2.1,e.2.2.2.2.2.2.2.1),e.2.2.2.2.2.2.2.2)))) ((20:Int),d.1,d.2.1.1.1,d.2.1.1.2,d.2.1.2.1,d.2.1.2.2.1,d.2.1.2.2.2.1,d.2.1.2.2.2.2.1,d.2.1.2.2.2.2.2,d.2.2))) ((0:Int),(20:Int),g,mm.1.1.1,mm.1.1.2,mm.1.2.1,mm.1.2.2.1,mm.1.2.2.2.1,mm.1.2.2.2.2.1,mm.1.2.2.2.2.2,mm.2)
def ī (a:Val aj) (b:Int) (mm:Val Â):Option (((Val aj))×(Val Â)):=iI a b mm some
def Bi (a:Val aj) (y:Val ag) (b:Val aj→Option ρ):Option ρ :=
  è (î ((List.length a)+(List.length ([y])))) (b (a++([y])))
def ud (c:Int) (d:Int) (e:Int) (f:Val ae) (g:Val aa) (h:Val af) (i:Val ac) (j:Val aa) (k:Val ai) (b:Val aj) (a:Int) (l:Int→Option ρ) (m:Int→Option ρ) (n:Unit→Option ρ):Option ρ :=
  ifb (ilt a c) (è ((ile 0 a)&&(ilt a (ñ b))) (Ľ b (Int.toNat a) fun o=>Ã (Β (((d,e),f,g,h,i,j),k) o) fun p=>ifb (!p) (m a) (ck (a+(1:Int)) fun q=>l q))) (n ())
def lP (f:Int) (g:Int) (h:Val ae) (i:Val aa) (j:Val af) (k:Val ac) (l:Val aa) (m:Val ai) (b:Int) (c:Int) (a:Val aj) (d:Int→Int→Val aj→Option ρ) (n:Val aB→Option ρ):Option ρ :=
  ifb (ilt c (Ø a)) (è ((ile 0 c)&&(ilt c (ñ a))) (Ľ a (Int.toNat c) fun e=>Ã (Β (((f,g),h,i,j,k,l),m) e) fun o=>ifb (!(!o)) (è ((ile 0 b)&&(ilt b (ñ a))) (Ľ a (Int.toNat b) fun s=>ck (b+(1:Int)) fun p=>ck (c+(1:Int)) fun q=>d p q (List.set a (Int.toNat b) e))) (ck (c+(1:Int)) fun r=>d b r a))) (n (b,a))
def Qb (b:Val Â) (k:Val aj→Option ρ):Option ρ :=
  Ã (l5 b.2) fun g=>xM (fun(h:Val aj) (i:Val ag) j=>Bi h i (fun l=>j l)) g ([]) (fun f=>Ã (ī f (Ø f) b) fun c=>Ê (fun(m:Int) n=>ud (Ø c.1) b.1.1.1 b.1.1.2 b.1.2.1 b.1.2.2.1 b.1.2.2.2.1 b.1.2.2.2.2.1 b.1.2.2.2.2.2 b.2 c.1 m (fun o=>n o) (fun d=>ifb (ieq d (-1:Int)) (k c.1) (ck (d+(1:Int)) fun p=>Ê (fun(e:(Val (.pair tI aB))) q=>lP b.1.1.1 b.1.1.2 b.1.2.1 b.1.2.2.1 b.1.2.2.2.1 b.1.2.2.2.2.1 b.1.2.2.2.2.2 b.2 e.1 e.2.1 e.2.2 (fun r s t=>q (r,s,t)) (fun a=>è ((ile 0 a.1)&&(ile a.1 (ñ a.2))) (è ((ile 0 a.1)&&(ile a.1 (ñ (List.take (Int.toNat a.1) a.2++List.replicate (List.length a.2-(Int.toNat a.1)) ([])++List.drop ((Int.toNat a.1)+(List.length a.2-(Int.toNat a.1))) a.2)))) (k (List.take (Int.toNat a.1) (List.drop 0 (List.take (Int.toNat a.1) a.2++List.replicate (List.length a.2-(Int.toNat a.1)) ([])++List.drop ((Int.toNat a.1)+(List.length a.2-(Int.toNat a.1))) a.2))))))) (d,p,c.1))) (fun _=>k c.1)) (0:Int))
def Ed (a:Val Â):Option ((Val aj)):=Qb a some
def WF (a:Val Â) (k:(Val (.pair aj tI))→Option ρ):Option ρ :=
  Ã (π a) fun b=>ifb (ine b 0) (k ([],b)) (Ã (Ed a) fun c=>k (c,(0:Int)))
def RF (a:Val Â):Option ((Val (.pair aj tI))):=WF a some
def A5 (a:Val aj) (y:Val ag) (b:Val aj→Option ρ):Option ρ :=
  è (î ((List.length a)+(List.length ([y])))) (b (a++([y])))
def P3 (a:Val Â) (k:Val aj→Option ρ):Option ρ :=
  Ã (l5 a.2) fun c=>xM (fun(d:Val aj) (e:Val ag) f=>A5 d e (fun g=>f g)) c ([]) (fun b=>Ã (ī b (Ø b) a) fun h=>k h.1)
def rz (a:Val Â):Option ((Val aj)):=P3 a some
def jH (c:Val aj) (d:Int) (e:Int) (f:Int) (g:Val ae) (h:Val aa) (i:Val af) (j:Val ac) (k:Val aa) (l:Val ai) (a:Int) (m:Int→Option ρ) (n:(Val (.pair ag .bool))→Option ρ) (o:Unit→Option ρ):Option ρ :=
  ifb (ilt a d) (Ċ c a fun b=>Ã (Β (((e,f),g,h,i,j,k),l) b) fun p=>ifb p (n (b,true)) (ck (a+(1:Int)) fun q=>m q)) (o ())
def ue (a:Val Â) (k:(Val (.pair ag .bool))→Option ρ):Option ρ :=
  Ã (rz a) fun b=>Ê (fun(d:Int) e=>jH b (Ø b) a.1.1.1 a.1.1.2 a.1.2.1 a.1.2.2.1 a.1.2.2.2.1 a.1.2.2.2.2.1 a.1.2.2.2.2.2 a.2 d (fun f=>e f) (fun c=>k (c.1,c.2)) (fun _=>k ([],false))) (0:Int)
def û (a:Val Â):Option ((Val (.pair ag .bool))):=ue a some
def J2 (a:Val Â) (k:Val bc→Option ρ):Option ρ :=
  Ã (π a) fun b=>ifb (ine b 0) (k ([],b)) (Ã (û a) fun c=>ifb (!c.2) (k ([],(5:Int))) (k (c.1,(0:Int))))
def Eh (a:Val Â):Option ((Val bc)):=J2 a some
def jJ (b:Val ab) (c:Val ab) (a:Int) (d:Int→Option ρ) (e:Bool→Option ρ) (f:Unit→Option ρ):Option ρ :=
  ifb (ilt a (Ø b)) (Ċ b a fun g=>Ċ c a fun h=>ifb (ine g h) (e false) (ck (a+(1:Int)) fun i=>d i)) (f ())
def uw (a:Val ab) (b:Val ab) (k:Bool→Option ρ):Option ρ :=
  ifb (ine (Ø a) (Ø b)) (k false) (Ê (fun(c:Int) d=>jJ a b c (fun e=>d e) (fun f=>k f) (fun _=>k true)) (0:Int))
def Ţ (a:Val ab) (b:Val ab):Option (Bool):=uw a b some
def kF (b:Val ag) (c:Val ag) (a:Int) (d:Int→Option ρ) (e:Bool→Option ρ) (f:Unit→Option ρ):Option ρ :=
  ifb (ilt a (Ø b)) (Ċ b a fun g=>Ċ c a fun h=>Ã (Ţ g h) fun i=>ifb (!i) (e false) (ck (a+(1:Int)) fun j=>d j)) (f ())
def xi (a:Val ag) (b:Val ag) (k:Bool→Option ρ):Option ρ :=
  ifb (ine (Ø a) (Ø b)) (k false) (Ê (fun(c:Int) d=>kF a b c (fun e=>d e) (fun f=>k f) (fun _=>k true)) (0:Int))
def rB (a:Val ag) (b:Val ag):Option (Bool):=xi a b some
def qA (b:Val ae) (c:Int) (d:Int) (a:Int) (e:Int→Option ρ) (f:Int→Option ρ) (g:Unit→Option ρ):Option ρ :=
  ifb (ilt a c) (Ċ b a fun h=>ifb (ieq h.1 d) (f a) (ck (a+(1:Int)) fun i=>e i)) (g ())
def JC (a:Val Â) (c:Int) (b:Int) (k:Int→Option ρ):Option ρ :=
  ifb (ilt b 0) (k (1:Int)) (ifb (igt b 20000) (k (1:Int)) (Ê (fun(d:Int) e=>qA a.1.2.1 (Ø a.1.2.1) c d (fun f=>e f) (fun g=>ifb (!(ige g 0)) (k (5:Int)) (k (0:Int))) (fun _=>k (5:Int))) (0:Int)))
def pG (a:Val Â) (b:Int) (c:Int):Option (Int):=JC a b c some
def FY (a:Val ab) (b:Val ab) (k:(Val (.pair ab ay))→Option ρ):Option ρ :=
  Ã (md a) fun c=>ifb (!c) (k ([],[],(1:Int))) (Ã (md b) fun d=>ifb (!d) (k ([],[],(1:Int))) (Ã (Γ a b) fun e=>Ã (Γ b a) fun f=>k (e,f,(0:Int))))
def oO (a:Val ab) (b:Val ab):Option ((Val (.pair ab ay))):=FY a b some
def jI (g:Int) (b:Int) (c:Val ac) (a:Int) (d:Int→Option ρ) (h:Int→Option ρ) (i:Unit→Option ρ):Option ρ :=
  ifb (ilt a g) (è ((ile 0 a)&&(ilt a (ñ c))) (Ľ c (Int.toNat a) fun e=>Ã (oO e.2.2.1 e.2.2.2.1) fun f=>Ã (á f.1 b) fun j=>ifb j (ck (a+(1:Int)) fun k=>d k) (Ã (á f.2.1 b) fun l=>ifb (!l) (h a) (ck (a+(1:Int)) fun m=>d m)))) (i ())
def Ÿ (f:Int) (a:Int) (c:Int) (b:Val ac) (e:Int→Int→Val ac→Option ρ) (h:Val aU→Option ρ):Option ρ :=
  ifb (ilt c (Ø b)) (è ((ile 0 c)&&(ilt c (ñ b))) (Ľ b (Int.toNat c) fun d=>Ã (oO d.2.2.1 d.2.2.2.1) fun g=>Ã (á g.1 f) fun i=>ifb i (è ((ile 0 a)&&(ilt a (ñ b))) (Ľ b (Int.toNat a) fun p=>ck (a+(1:Int)) fun j=>ck (c+(1:Int)) fun k=>e j k (List.set b (Int.toNat a) d))) (Ã (á g.2.1 f) fun l=>ifb (!(!l)) (è ((ile 0 a)&&(ilt a (ñ b))) (Ľ b (Int.toNat a) fun q=>ck (a+(1:Int)) fun m=>ck (c+(1:Int)) fun n=>e m n (List.set b (Int.toNat a) d))) (ck (c+(1:Int)) fun o=>e a o b)))) (h (a,b))
def ug (b:Val Â) (c:Int) (k:Val aW→Option ρ):Option ρ :=
  Ã (π b) fun f=>ifb (ine f 0) (k (false,f)) (Ã (pG b c (0:Int)) fun g=>ifb (ine g 0) (k (false,g)) (è (î (List.length b.1.2.2.2.2.1)) (Ê (fun(h:Int) i=>jI (Ø b.1.2.2.2.2.1) c b.1.2.2.2.2.1 h (fun j=>i j) (fun d=>ifb (ieq d (-1:Int)) (Ã (û b) fun l=>k ((!l.2),(0:Int))) (ck (d+(1:Int)) fun m=>Ê (fun(e:(Val (.pair tI aU))) n=>Ÿ c e.1 e.2.1 e.2.2 (fun o p q=>n (o,p,q)) (fun a=>è ((ile 0 a.1)&&(ile a.1 (ñ a.2))) (è ((ile 0 a.1)&&(ile a.1 (ñ (List.take (Int.toNat a.1) a.2++List.replicate (List.length a.2-(Int.toNat a.1)) ((0:Int),(0:Int),[],[],(0:Int),(0:Int),(0:Int),(0:Int))++List.drop ((Int.toNat a.1)+(List.length a.2-(Int.toNat a.1))) a.2)))) (Ã (û ((b.1.1,b.1.2.1,b.1.2.2.1,b.1.2.2.2.1,(List.take (Int.toNat a.1) (List.drop 0 (List.take (Int.toNat a.1) a.2++List.replicate (List.length a.2-(Int.toNat a.1)) ((0:Int),(0:Int),[],[],(0:Int),(0:Int),(0:Int),(0:Int))++List.drop ((Int.toNat a.1)+(List.length a.2-(Int.toNat a.1))) a.2))),b.1.2.2.2.2.2),b.2)) fun r=>k ((!r.2),(0:Int)))))) (d,m,b.1.2.2.2.2.1))) (fun _=>Ã (û b) fun s=>k ((!s.2),(0:Int)))) (0:Int))))
def ou (a:Val Â) (b:Int):Option ((Val aW)):=ug a b some
def t8 (c:Int) (d:Val ab) (b:Val ac) (a:Int) (e:Int→Option ρ) (f:Int→Option ρ) (g:Unit→Option ρ):Option ρ :=
  ifb (ilt a c) (è ((ile 0 a)&&(ilt a (ñ b))) (Ľ b (Int.toNat a) fun h=>Ã (á d h.1) fun i=>ifb (!i) (f a) (ck (a+(1:Int)) fun j=>e j))) (g ())
def lO (f:Val ab) (b:Int) (c:Int) (a:Val ac) (d:Int→Int→Val ac→Option ρ) (g:Val aU→Option ρ):Option ρ :=
  ifb (ilt c (Ø a)) (è ((ile 0 c)&&(ilt c (ñ a))) (Ľ a (Int.toNat c) fun e=>Ã (á f e.1) fun h=>ifb (!(!h)) (è ((ile 0 b)&&(ilt b (ñ a))) (Ľ a (Int.toNat b) fun l=>ck (b+(1:Int)) fun i=>ck (c+(1:Int)) fun j=>d i j (List.set a (Int.toNat b) e))) (ck (c+(1:Int)) fun k=>d b k a))) (g (b,a))
def P4 (b:Val Â) (e:Val ab) (k:Val Â→Option ρ):Option ρ :=
  è (î (List.length b.1.2.2.2.2.1)) (Ê (fun(f:Int) g=>t8 (Ø b.1.2.2.2.2.1) e b.1.2.2.2.2.1 f (fun h=>g h) (fun c=>ifb (ieq c (-1:Int)) (k b) (ck (c+(1:Int)) fun i=>Ê (fun(d:(Val (.pair tI aU))) j=>lO e d.1 d.2.1 d.2.2 (fun l m n=>j (l,m,n)) (fun a=>è ((ile 0 a.1)&&(ile a.1 (ñ a.2))) (è ((ile 0 a.1)&&(ile a.1 (ñ (List.take (Int.toNat a.1) a.2++List.replicate (List.length a.2-(Int.toNat a.1)) ((0:Int),(0:Int),[],[],(0:Int),(0:Int),(0:Int),(0:Int))++List.drop ((Int.toNat a.1)+(List.length a.2-(Int.toNat a.1))) a.2)))) (k ((b.1.1,b.1.2.1,b.1.2.2.1,b.1.2.2.2.1,(List.take (Int.toNat a.1) (List.drop 0 (List.take (Int.toNat a.1) a.2++List.replicate (List.length a.2-(Int.toNat a.1)) ((0:Int),(0:Int),[],[],(0:Int),(0:Int),(0:Int),(0:Int))++List.drop ((Int.toNat a.1)+(List.length a.2-(Int.toNat a.1))) a.2))),b.1.2.2.2.2.2),b.2))))) (c,i,b.1.2.2.2.2.1))) (fun _=>k b)) (0:Int))
def yC (a:Val Â) (b:Val ab):Option (Val Â):=P4 a b some
def uj (d:Val ac) (e:Int) (a:Int) (b:Val ab) (f:Int→Val ab→Option ρ) (g:Val ab→Option ρ):Option ρ :=
  ifb (ilt a e) (Ċ d a fun c=>è (î ((List.length b)+(List.length ([c.1])))) (ck (a+(1:Int)) fun h=>f h (b++([c.1])))) (g b)
def pd (f:Int) (g:Int) (h:Val ae) (i:Val aa) (j:Val af) (k:Val ac) (l:Val aa) (m:Val ai) (b:Val ab) (a:Int) (d:Val ab→Int→Option ρ) (n:Val ab→Option ρ):Option ρ :=
  ifb (ige a 0) (è ((ile 0 a)&&(ile a (ñ b))) (ck (a+(1:Int)) fun c=>è ((ile 0 c)&&(ile c (ñ b))) (Ã (Ĥ ([(List.take (Int.toNat a) b),(List.drop (Int.toNat c) b)])) fun e=>Ã (yC (((f,g),h,i,j,k,l),m) e) fun o=>Ã (û o) fun p=>ifb (!p.2) (ck (a-(1:Int)) fun q=>d e q) (ck (a-(1:Int)) fun r=>d b r)))) (n b)
def Qs (a:Val Â) (k:Val ay→Option ρ):Option ρ :=
  Ã (π a) fun b=>ifb (ine b 0) (k ([],b)) (Ã (û a) fun f=>ifb f.2 (k ([],(5:Int))) (Ê (fun(c:Val ŋ) g=>uj a.1.2.2.2.2.1 (Ø a.1.2.2.2.2.1) c.1 c.2 (fun h i=>g (h,i)) (fun d=>ck ((Ø d)-(1:Int)) fun j=>Ê (fun(e:Val ay) l=>pd a.1.1.1 a.1.1.2 a.1.2.1 a.1.2.2.1 a.1.2.2.2.1 a.1.2.2.2.2.1 a.1.2.2.2.2.2 a.2 e.1 e.2 (fun m n=>l (m,n)) (fun o=>k (o,(0:Int)))) (d,j))) ((0:Int),[])))
def IC (a:Val Â):Option ((Val ay)):=Qs a some
def oh (e:Int) (f:Val ab) (g:Int) (a:Int) (b:Val ab) (c:Int→Val ab→Option ρ) (h:Val ab→Option ρ):Option ρ :=
  ifb (ilt a g) (Ċ f a fun d=>è (ile 0 a) (ifb (ieq (andI .i64 (gP .i64 e a) (1:Int)) 1) (è (î ((List.length b)+(List.length ([d])))) (ck (a+(1:Int)) fun i=>c i (b++([d])))) (ck (a+(1:Int)) fun j=>c j b))) (h b)
def Fm (a:Val ab) (c:Int) (k:Val ab→Option ρ):Option ρ :=
  Ê (fun(b:Val ŋ) d=>oh c a (Ø a) b.1 b.2 (fun e f=>d (e,f)) (fun g=>k g)) ((0:Int),[])
def ij (a:Val ab) (b:Int):Option ((Val ab)):=Fm a b some
def ku (b:Val ac) (c:Int) (d:Int) (a:Int) (e:Int→Option ρ) (f:Int→Option ρ) (g:Unit→Option ρ):Option ρ :=
  ifb (ilt a c) (Ċ b a fun h=>ifb (ieq h.1 d) (f a) (ck (a+(1:Int)) fun i=>e i)) (g ())
def ε (d:Val ab) (e:Int) (b:Val ac) (a:Int) (f:Int→Option ρ) (c:Int→Option ρ) (g:Unit→Option ρ):Option ρ :=
  ifb (ilt a e) (Ċ d a fun h=>Ê (fun(i:Int) j=>ku b (Ø b) h i (fun k=>j k) (fun l=>ifb (!(ige l 0)) (c (5:Int)) (ck (a+(1:Int)) fun m=>f m)) (fun _=>c (5:Int))) (0:Int)) (g ())
def iG (b:Val ab) (a:Int) (c:Int→Option ρ) (d:Int→Option ρ) (e:Unit→Option ρ):Option ρ :=
  ifb (ilt a (Ø b)) (Ċ b a fun f=>ck (a-(1:Int)) fun g=>Ċ b g fun h=>ifb (ile f h) (d (6:Int)) (ck (a+(1:Int)) fun i=>c i)) (e ())
def iF (c:Val aj) (d:Int) (e:Int) (f:Int) (g:Val ae) (h:Val aa) (i:Val af) (j:Val ac) (k:Val aa) (l:Val ai) (m:Val ab) (n:Int) (a:Int) (o:Int→Option ρ) (p:(Val (.pair ag .bool))→Option ρ) (q:Unit→Option ρ):Option ρ :=
  ifb (ilt a d) (Ċ c a fun b=>Ã (ij m n) fun r=>Ã (yC (((e,f),g,h,i,j,k),l) r) fun s=>Ã (Β s b) fun t=>ifb (!(!t)) (p (b,true)) (ck (a+(1:Int)) fun u=>o u)) (q ())
def Ŭ (b:Val ab) (e:Val ab) (f:Int) (a:Int) (g:Int→Option ρ) (c:Int→Option ρ) (h:Unit→Option ρ):Option ρ :=
  ifb (ilt a f) (Ċ e a fun i=>ifb (ige a (Ø b)) (c (1:Int)) (Ċ b a fun j=>Ã (υ i j) fun d=>ifb (ine d 0) (c d) (ck (a+(1:Int)) fun k=>g k))) (h ())
def Ŏ (c:Int) (d:Int) (b:Val ab) (a:Int) (e:Int→Option ρ) (f:Unit→Option ρ) (g:Unit→Option ρ):Option ρ :=
  ifb (ilt a d) (è ((ile 0 a)&&(ilt a (ñ b))) (Ľ b (Int.toNat a) fun h=>ifb (ieq (Gq .i64 c h) 0) (f ()) (ck (a+(1:Int)) fun i=>e i))) (g ())
def ō (b:Int) (d:Val aj) (e:Int) (f:Val ab) (g:Int) (h:Int) (i:Val ae) (j:Val aa) (k:Val af) (l:Val ac) (m:Val aa) (n:Val ai) (c:Int) (a:Val ab) (o:Int→Val ab→Option ρ) (p:Val ab→Option ρ) (q:Val ab→Option ρ):Option ρ :=
  ifb (ilt c e) (Ċ d c fun r=>Ã (ij f b) fun s=>Ã (yC (((g,h),i,j,k,l,m),n) s) fun t=>Ã (Β t r) fun u=>ifb (!(!u)) (è (î ((List.length a)+(List.length ([b])))) (p (a++([b])))) (ck (c+(1:Int)) fun v=>o v a)) (q a)
def ŭ (g:Val aj) (t:Int) (h:Val ab) (i:Int) (j:Int) (k:Val ae) (l:Val aa) (m:Val af) (n:Val ac) (o:Val aa) (p:Val ai) (c:Val ab) (e:Int) (a:Int) (b:Val ab) (d:Val ab→Int→Int→Val ab→Option ρ) (u:Val ŋ→Option ρ):Option ρ :=
  ifb (ilt a t) (Ã (ij h a) fun f=>ifb (igt (Ø f) (Ø c)) (ck (a+(1:Int)) fun v=>d c e v b) (ifb (ieq (Ø f) (Ø c)) (Ê (fun(w:Int) x=>Ŭ c f (Ø f) w (fun y=>x y) (fun z=>ifb (ige z 0) (ck (a+(1:Int)) fun A=>d c e A b) (Ê (fun(B:Int) C=>Ŏ a (Ø b) b B (fun D=>C D) (fun _=>ck (a+(1:Int)) fun E=>d c e E b) (fun _=>Ê (fun(q:Val ŋ) F=>ō a g (Ø g) h i j k l m n o p q.1 q.2 (fun G H=>F (G,H)) (fun I=>ck (a+(1:Int)) fun J=>d c e J I) (fun K=>ck (a+(1:Int)) fun L=>d f a L K)) ((0:Int),b))) (0:Int))) (fun _=>ifb (ilt (Ø f) (Ø c)) (Ê (fun(M:Int) N=>Ŏ a (Ø b) b M (fun O=>N O) (fun _=>ck (a+(1:Int)) fun P=>d c e P b) (fun _=>Ê (fun(r:Val ŋ) Q=>ō a g (Ø g) h i j k l m n o p r.1 r.2 (fun R S=>Q (R,S)) (fun T=>ck (a+(1:Int)) fun U=>d c e U T) (fun V=>ck (a+(1:Int)) fun W=>d f a W V)) ((0:Int),b))) (0:Int)) (ck (a+(1:Int)) fun X=>d c e X b))) (0:Int)) (Ê (fun(Y:Int) Z=>Ŏ a (Ø b) b Y (fun dc=>Z dc) (fun _=>ck (a+(1:Int)) fun df=>d c e df b) (fun _=>Ê (fun(s:Val ŋ) dg=>ō a g (Ø g) h i j k l m n o p s.1 s.2 (fun dh di=>dg (dh,di)) (fun dj=>ck (a+(1:Int)) fun dk=>d c e dk dj) (fun dl=>ck (a+(1:Int)) fun dm=>d f a dm dl)) ((0:Int),b))) (0:Int)))) (u (e,b))
def xa (a:Val Â) (b:Val ab) (k:Val ay→Option ρ):Option ρ :=
  Ã (π a) fun g=>ifb (ine g 0) (k ([],g)) (ifb (igt (Ø b) 8) (k ([],(2:Int))) (Ê (fun(h:Int) i=>ε b (Ø b) a.1.2.2.2.2.1 h (fun j=>i j) (fun l=>k ([],l)) (fun _=>Ê (fun(m:Int) n=>iG b m (fun o=>n o) (fun p=>k ([],p)) (fun _=>Ã (rz a) fun d=>è (ile 0 (Ø b)) (ck ((shlI .i64 (1:Int) (Ø b))-(1:Int)) fun c=>Ê (fun(q:Int) r=>iF d (Ø d) a.1.1.1 a.1.1.2 a.1.2.1 a.1.2.2.1 a.1.2.2.2.1 a.1.2.2.2.2.1 a.1.2.2.2.2.2 a.2 b c q (fun s=>r s) (fun t=>ifb t.2 (k ([],(5:Int))) (Ê (fun(e:(Val (.pair ab aQ))) u=>ŭ d c b a.1.1.1 a.1.1.2 a.1.2.1 a.1.2.2.1 a.1.2.2.2.1 a.1.2.2.2.2.1 a.1.2.2.2.2.2 a.2 e.1 e.2.1 e.2.2.1 e.2.2.2 (fun v w x y=>u (v,w,x,y)) (fun z=>Ã (ij b z.1) fun A=>k (A,(0:Int)))) (b,c,(0:Int),[]))) (fun _=>Ê (fun(f:(Val (.pair ab aQ))) B=>ŭ d c b a.1.1.1 a.1.1.2 a.1.2.1 a.1.2.2.1 a.1.2.2.2.1 a.1.2.2.2.2.1 a.1.2.2.2.2.2 a.2 f.1 f.2.1 f.2.2.1 f.2.2.2 (fun C D E F=>B (C,D,E,F)) (fun G=>Ã (ij b G.1) fun H=>k (H,(0:Int)))) (b,c,(0:Int),[]))) (0:Int)))) (1:Int))) (0:Int)))
def rA (a:Val Â) (b:Val ab):Option ((Val ay)):=xa a b some
def Qi (a:Val Â) (k:(Val (.pair aj tI))→Option ρ):Option ρ :=
  Ã (π a) fun b=>ifb (ine b 0) (k ([],b)) (Ã (rz a) fun c=>k (c,(0:Int)))
def Ef (a:Val Â):Option ((Val (.pair aj tI))):=Qi a some
def K6 (a:Val É) (d:Val Ä) (k:Val Ä→Option ρ):Option ρ :=
  Ã (Ε a) fun b=>ifb (ine b 0) (k ((0:Int),b)) (Ã (pK a) fun e=>Ã (ï e d) fun c=>ifb (ilt c 0) (k ((0:Int),(5:Int))) (ck (c+(1:Int)) fun f=>k (f,(0:Int))))
def pL (a:Val É) (b:Val Ä):Option (Val Ä):=K6 a b some
def uU (f:Int) (a:Int) (c:Val ac) (g:Int→Val ac→Option ρ) (h:Val ac→Option ρ):Option ρ :=
  ifb (ilt a f) (è ((ile 0 a)&&(ilt a (ñ c))) (Ľ c (Int.toNat a) fun d=>è (î (List.length d.2.2.1)) (è (î (List.length d.2.2.2.1)) (è ((ile 0 a)&&(ilt a (ñ c))) (Ľ c (Int.toNat a) fun b=>è ((ile 0 a)&&(ilt a (ñ (List.set c (Int.toNat a) (b.1,b.2.1,d.2.2.1,b.2.2.2))))) (Ľ (List.set c (Int.toNat a) (b.1,b.2.1,d.2.2.1,b.2.2.2)) (Int.toNat a) fun e=>ck (a+(1:Int)) fun i=>g i (List.set (List.set c (Int.toNat a) (b.1,b.2.1,d.2.2.1,b.2.2.2)) (Int.toNat a) (e.1,e.2.1,e.2.2.1,d.2.2.2.1,e.2.2.2.2)))))))) (h c)
def Rj (a:Val É) (b:Val Ä) (k:(Val (.pair É tI))→Option ρ):Option ρ :=
  Ã (Ε a) fun c=>ifb (ine c 0) (k ((((0:Int),(0:Int)),[],[],[],[],[]),c)) (è (î (List.length a.2.1)) (è (î (List.length a.2.2.1)) (è (î (List.length a.2.2.2.1)) (è (î (List.length a.2.2.2.2.2)) (è (î (List.length a.2.2.2.2.1)) (Ê (fun(d:Val aU) g=>uU (Ø a.2.2.2.2.1) d.1 d.2 (fun h i=>g (h,i)) (fun e=>è (î ((List.length a.2.2.2.2.2)+(List.length ([b])))) (Ã (Ε (a.1,a.2.1,a.2.2.1,a.2.2.2.1,e,(a.2.2.2.2.2++([b])))) fun f=>ifb (ine f 0) (k ((((0:Int),(0:Int)),[],[],[],[],[]),f)) (k ((a.1,a.2.1,a.2.2.1,a.2.2.2.1,e,(a.2.2.2.2.2++([b]))),(0:Int)))))) ((0:Int),a.2.2.2.2.1)))))))
def IH (a:Val É) (b:Val Ä):Option ((Val (.pair É tI))):=Rj a b some
def qS (b:Val ab) (c:Int) (d:Int) (e:Val ak) (a:Int) (f:Int→Option ρ) (g:Int→Option ρ) (h:Unit→Option ρ):Option ρ :=
  ifb (ilt a c) (Ċ b a fun i=>Ã (yG (d,e) i) fun j=>ifb (!j) (g (1:Int)) (ck (a+(1:Int)) fun k=>f k)) (h ())
def Kl (a:Val Í) (b:Val ab) (k:Int→Option ρ):Option ρ :=
  Ã (pI a) fun c=>ifb (ine c.1 0) (k c.1) (Ê (fun(d:Int) e=>qS b (Ø b) a.1 a.2 d (fun f=>e f) (fun g=>k g) (fun _=>Ã (j7 a ([])) fun h=>ifb (!h.2) (k (9:Int)) (k (0:Int)))) (0:Int))
def Ej (a:Val Í) (b:Val ab):Option (Int):=Kl a b some
def ol (c:Int) (a:Int) (b:Val ab) (d:Int→Val ab→Option ρ) (e:Val ab→Option ρ):Option ρ :=
  ifb (ilt a c) (è ((ile 0 a)&&(ilt a (ñ b))) (Ľ b (Int.toNat a) fun g=>ck (a+(1:Int)) fun f=>d f (List.set b (Int.toNat a) (1152921504606846976:Int)))) (e b)
def uD (c:Val ak) (d:Int) (b:Int) (a:Int) (e:Int→Int→Option ρ) (f:Int→Option ρ):Option ρ :=
  ifb (ilt a d) (Ċ c a fun g=>ck (b+(YR g.2.2 (0:Int))) fun h=>ck (a+(1:Int)) fun i=>e h i) (f b)
def uC (f:Int) (d:Val ab) (a:Int) (b:Val aq) (c:Val ab) (e:Int→Val aq→Val ab→Option ρ) (g:Val aL→Option ρ):Option ρ :=
  ifb (ilt a f) (è ((ile 0 a)&&(ilt a (ñ d))) (Ľ d (Int.toNat a) fun h=>ifb (ine h 1152921504606846976) (è (î ((List.length c)+(List.length ([a])))) (è ((ile 0 a)&&(ilt a (ñ b))) (Ľ b (Int.toNat a) fun k=>ck (a+(1:Int)) fun i=>e i (List.set b (Int.toNat a) true) (c++([a]))))) (ck (a+(1:Int)) fun j=>e j b c))) (g (b,c))
def Df (m:Val ao) (j:Int) (d:Int) (n:Val ak) (o:Int) (f:Int) (b:Val ab) (c:Val aq) (e:Val ab) (g:Int→Val ab→Val aq→Val ab→Option ρ) (l:(Val (.pair .bool (.pair ab aL)))→Option ρ) (p:(Val (.pair ab aL))→Option ρ):Option ρ :=
  ifb (ilt f o) (Ċ n f fun a=>ifb (ine a.1 d) (ck (f+(1:Int)) fun q=>g q b c e) (Iw (k:=tI) (v:=.bool) f m (fun r=>ifb r (ck (f+(1:Int)) fun s=>g s b c e) (è ((ile 0 d)&&(ilt d (ñ b))) (Ľ b (Int.toNat d) fun t=>ck (t+a.2.2) fun u=>è ((ile 0 a.2.1)&&(ilt a.2.1 (ñ b))) (Ľ b (Int.toNat a.2.1) fun w=>ifb (ige u w) (ck (f+(1:Int)) fun x=>g x b c e) (è ((ile 0 d)&&(ilt d (ñ b))) (Ľ b (Int.toNat d) fun y=>ck (y+a.2.2) fun h=>è ((ile 0 a.2.1)&&(ilt a.2.1 (ñ b))) (Ľ b (Int.toNat a.2.1) fun M=>è ((ile 0 a.2.1)&&(ilt a.2.1 (ñ (List.set b (Int.toNat a.2.1) h)))) (Ľ (List.set b (Int.toNat a.2.1) h) (Int.toNat a.2.1) fun z=>ifb (ilt z j) (l (false,(List.set b (Int.toNat a.2.1) h),c,e)) (è ((ile 0 a.2.1)&&(ilt a.2.1 (ñ c))) (Ľ c (Int.toNat a.2.1) fun A=>ifb (!A) (è (î ((List.length e)+(List.length ([a.2.1])))) (è ((ile 0 a.2.1)&&(ilt a.2.1 (ñ c))) (Ľ c (Int.toNat a.2.1) fun N=>ck (f+(1:Int)) fun B=>g B (List.set b (Int.toNat a.2.1) h) (List.set c (Int.toNat a.2.1) true) (e++([a.2.1]))))) (ck (f+(1:Int)) fun C=>g C (List.set b (Int.toNat a.2.1) h) c e))))))))))) (è ((ile 0 d)&&(ilt d (ñ b))) (Ľ b (Int.toNat d) fun D=>ck (D+a.2.2) fun E=>è ((ile 0 a.2.1)&&(ilt a.2.1 (ñ b))) (Ľ b (Int.toNat a.2.1) fun F=>ifb (ige E F) (ck (f+(1:Int)) fun G=>g G b c e) (è ((ile 0 d)&&(ilt d (ñ b))) (Ľ b (Int.toNat d) fun H=>ck (H+a.2.2) fun i=>è ((ile 0 a.2.1)&&(ilt a.2.1 (ñ b))) (Ľ b (Int.toNat a.2.1) fun O=>è ((ile 0 a.2.1)&&(ilt a.2.1 (ñ (List.set b (Int.toNat a.2.1) i)))) (Ľ (List.set b (Int.toNat a.2.1) i) (Int.toNat a.2.1) fun I=>ifb (ilt I j) (l (false,(List.set b (Int.toNat a.2.1) i),c,e)) (è ((ile 0 a.2.1)&&(ilt a.2.1 (ñ c))) (Ľ c (Int.toNat a.2.1) fun J=>ifb (!J) (è (î ((List.length e)+(List.length ([a.2.1])))) (è ((ile 0 a.2.1)&&(ilt a.2.1 (ñ c))) (Ľ c (Int.toNat a.2.1) fun P=>ck (f+(1:Int)) fun K=>g K (List.set b (Int.toNat a.2.1) i) (List.set c (Int.toNat a.2.1) true) (e++([a.2.1]))))) (ck (f+(1:Int)) fun L=>g L (List.set b (Int.toNat a.2.1) i) c e)))))))))))) (p (b,c,e))
def uB (l:Val ao) (m:Int) (n:Int) (k:Val ak) (h:Val ab) (d:Val aq) (b:Val ab) (c:Val ab) (o:Val ab→Val aq→Val ab→Val ab→Option ρ) (i:(Val (.pair .bool aM))→Option ρ):Option ρ :=
  ifb (ieq (Ø c) 0) (i (true,h,d,b,c)) (è (ilt 0 (ñ c)) (Ľ c 0 fun a=>è (ile 1 (ñ c)) (è (decide (1+(List.length c-1)=List.length c)) (è ((ile 0 a)&&(ilt a (ñ d))) (Ľ d (Int.toNat a) fun x=>è ((ile 0 a)&&(ilt a (ñ b))) (Ľ b (Int.toNat a) fun p=>ck (p+(1:Int)) fun e=>è ((ile 0 a)&&(ilt a (ñ b))) (Ľ b (Int.toNat a) fun y=>è ((ile 0 a)&&(ilt a (ñ (List.set b (Int.toNat a) e)))) (Ľ (List.set b (Int.toNat a) e) (Int.toNat a) fun q=>ck (n+(1:Int)) fun r=>ifb (igt q r) (i (false,h,(List.set d (Int.toNat a) false),(List.set b (Int.toNat a) e),(List.drop 1 c))) (Ê (fun(f:(Val (.pair tI (.pair ab aL)))) s=>Df l m a k (Ø k) f.1 f.2.1 f.2.2.1 f.2.2.2 (fun t u v w=>s (t,u,v,w)) (fun g=>i (g.1,g.2.1,g.2.2.1,(List.set b (Int.toNat a) e),g.2.2.2)) (fun j=>o j.1 j.2.1 (List.set b (Int.toNat a) e) j.2.2)) ((0:Int),h,(List.set d (Int.toNat a) false),(List.drop 1 c)))))))))))
def FF (a:Val Í) (i:Val ao) (b:Int) (k:Val ab→Option ρ):Option ρ :=
  è ((ile 0 a.1)&&(î (Int.toNat a.1))) (Ê (fun(f:Val ŋ) j=>ol (Ø (List.replicate (Int.toNat a.1) (0:Int))) f.1 f.2 (fun l m=>j (l,m)) (fun c=>è ((ile 0 b)&&(ilt b (ñ c))) (Ľ c (Int.toNat b) fun B=>è ((ile 0 a.1)&&(î (Int.toNat a.1))) (è ((ile 0 a.1)&&(î (Int.toNat a.1))) (Ê (fun(g:Val Ä) n=>uD a.2 (Ø a.2) g.1 g.2 (fun o p=>n (o,p)) (fun q=>Ê (fun(e:(Val (.pair tI aL))) r=>uC a.1 (List.set c (Int.toNat b) (0:Int)) e.1 e.2.1 e.2.2 (fun s t u=>r (s,t,u)) (fun h=>Ê (fun(d:Val aM) v=>uB i q a.1 a.2 d.1 d.2.1 d.2.2.1 d.2.2.2 (fun w x y z=>v (w,x,y,z)) (fun A=>k A.2.1)) ((List.set c (Int.toNat b) (0:Int)),h.1,(List.replicate (Int.toNat a.1) (0:Int)),h.2))) ((0:Int),(List.replicate (Int.toNat a.1) false),[]))) ((0:Int),(0:Int))))))) ((0:Int),(List.replicate (Int.toNat a.1) (0:Int))))
def tE (a:Val Í) (b:Val ao) (c:Int):Option ((Val ab)):=FF a b c some
def qU (c:Int) (d:Int) (e:Val ak) (a:Int) (b:Val ab) (f:Int→Val ab→Option ρ) (g:Val ab→Option ρ):Option ρ :=
  ifb (ilt a c) (Ã (tE (d,e) ([]) a) fun h=>Ċ h (0:Int) fun i=>è ((ile 0 a)&&(ilt a (ñ b))) (Ľ b (Int.toNat a) fun k=>ck (a+(1:Int)) fun j=>f j (List.set b (Int.toNat a) i))) (g b)
def qT (f:Val ab) (g:Int) (c:Val ab) (a:Int) (b:Val aa) (h:Int→Val aa→Option ρ) (i:Val aa→Option ρ):Option ρ :=
  ifb (ilt a g) (è ((ile 0 a)&&(ilt a (ñ c))) (Ľ c (Int.toNat a) fun j=>ck (0-j) fun d=>Ċ f a fun e=>è (î ((List.length b)+(List.length ([(d,e)])))) (ck (a+(1:Int)) fun k=>h k (b++([(d,e)]))))) (i b)
def Ko (a:Val Í) (k:Val bg→Option ρ):Option ρ :=
  Ã (Ej a ([])) fun b=>ifb (ine b 0) (k ([],b)) (Ã (tE a ([]) (0:Int)) fun c=>è ((ile 0 a.1)&&(î (Int.toNat a.1))) (Ê (fun(d:Val ŋ) f=>qU (Ø (List.replicate (Int.toNat a.1) (0:Int))) a.1 a.2 d.1 d.2 (fun g h=>f (g,h)) (fun i=>Ê (fun(e:Val ba) j=>qT c (Ø c) i e.1 e.2 (fun l m=>j (l,m)) (fun n=>k (n,(0:Int)))) ((0:Int),[]))) ((0:Int),(List.replicate (Int.toNat a.1) (0:Int)))))
def tF (a:Val Í):Option ((Val bg)):=Ko a some
def Fg (a:Val É) (b:Val Ä) (k:Val B7→Option ρ):Option ρ :=
  Ã (pL a b) fun f=>ifb (ine f.2 0) (Ã (IH a b) fun c=>ifb (ine c.2 0) (k (((0:Int),(0:Int)),c.2)) (Ã (pL c.1 b) fun g=>Ã (il c.1) fun h=>Ã (tF h.1) fun d=>ifb (ine d.2 0) (k (((0:Int),(0:Int)),d.2)) (Ċ d.1 g.1 fun i=>k (i,(0:Int))))) (Ã (pL a b) fun j=>Ã (il a) fun l=>Ã (tF l.1) fun e=>ifb (ine e.2 0) (k (((0:Int),(0:Int)),e.2)) (Ċ e.1 j.1 fun m=>k (m,(0:Int))))
def yD (a:Val É) (b:Val Ä):Option (Val B7):=Fg a b some
def oj (r:Int) (e:Int) (s:Val aj) (t:Int) (f:Int) (g:Int) (h:Val ae) (i:Val aa) (j:Val af) (l:Val ac) (m:Val aa) (n:Val ai) (c:Int) (a:Val aR) (o:Int→Val aR→Option ρ) (u:(Val (.pair tI aR))→Option ρ) (w:Val aR→Option ρ):Option ρ :=
  ifb (ilt c t) (Ċ s c fun p=>Ã (pF (((f,g),h,i,j,l,m),n) p r e) fun d=>Ã (Α (((f,g),h,i,j,l,m),n) p) fun x=>Ã (yD x (d,e)) fun b=>ifb (ine b.2 0) (u (b.2,a)) (Iw (k:=tI) (v:=Ä) d a (fun q=>ck (c+(1:Int)) fun y=>o y (Mn (k:=tI) (v:=Ä) d ((YR b.1.1 q.1),(Xj b.1.2 q.2)) a)) (ck (c+(1:Int)) fun z=>o z (Mn (k:=tI) (v:=Ä) d b.1 a)))) (w a)
def oi (f:Val ae) (g:Int) (h:Val aR) (a:Int) (b:Val ak) (d:Int→Val ak→Option ρ) (i:Val ak→Option ρ):Option ρ :=
  ifb (ilt a g) (Ċ f a fun c=>Iw (k:=tI) (v:=Ä) c.1 h (fun e=>è (î ((List.length b)+(List.length ([(c.1,e)])))) (ck (a+(1:Int)) fun j=>d j (b++([(c.1,e)])))) (ck (a+(1:Int)) fun l=>d l b)) (i b)
def Fu (a:Val Â) (c:Int) (d:Int) (k:(Val (.pair ak tI))→Option ρ):Option ρ :=
  Ã (π a) fun e=>ifb (ine e 0) (k ([],e)) (Ã (pG a c d) fun f=>ifb (ine f 0) (k ([],f)) (Ã (Ed a) fun b=>ifb (ieq (Ø b) 0) (k ([],(5:Int))) (Ê (fun(g:(Val (.pair tI aR))) i=>oj c d b (Ø b) a.1.1.1 a.1.1.2 a.1.2.1 a.1.2.2.1 a.1.2.2.2.1 a.1.2.2.2.2.1 a.1.2.2.2.2.2 a.2 g.1 g.2 (fun j l=>i (j,l)) (fun m=>k ([],m.1)) (fun n=>Ê (fun(h:Val Í) o=>oi a.1.2.1 (Ø a.1.2.1) n h.1 h.2 (fun p q=>o (p,q)) (fun r=>k (r,(0:Int)))) ((0:Int),[]))) ((0:Int),[]))))
def yF (a:Val Â) (b:Int) (c:Int):Option ((Val (.pair ak tI))):=Fu a b c some
def wR (a:Val ab) (y:Int) (b:Val ab→Option ρ):Option ρ :=
  è (î ((List.length a)+(List.length ([y])))) (b (a++([y])))
def qB (h:Val ag) (i:Int) (j:Val ai) (c:Int) (k:Int→Option ρ) (d:Bool→Option ρ) (l:Unit→Option ρ):Option ρ :=
  ifb (ilt c i) (Ċ h c fun e=>Ċ j c fun f=>ifb (ine (Ø e) (Ø f.2)) (d false) (Ã (yx e) fun m=>xM (fun(n:Val ab) (o:Int) p=>wR n o (fun q=>p q)) m ([]) (fun g=>è (î (List.length g)) (Ã (Ea (wj g)) fun a=>Ã (Ea f.2) fun b=>ifb (!((kQ a.1 b.1)&&((kQ a.2.1 b.2.1)&&((kQ a.2.2.1 b.2.2.1)&&((kQ a.2.2.2.1 b.2.2.2.1)&&((kQ a.2.2.2.2 b.2.2.2.2)&&true)))))) (d false) (ck (c+(1:Int)) fun r=>k r))))) (l ())
def JI (b:Val Â) (a:Val ag) (k:Bool→Option ρ):Option ρ :=
  ifb (ine (Ø a) (Ø b.2)) (k false) (Ê (fun(c:Int) d=>qB a (Ø a) b.2 c (fun e=>d e) (fun f=>k f) (fun _=>k true)) (0:Int))
def Eb (a:Val Â) (b:Val ag):Option (Bool):=JI a b some
def JX (a:Val Â) (c:Val ag) (k:Int→Option ρ):Option ρ :=
  Ã (π a) fun b=>ifb (ine b 0) (k b) (Ã (Eb a c) fun d=>ifb (!d) (k (1:Int)) (k (0:Int)))
def pH (a:Val Â) (b:Val ag):Option (Int):=JX a b some
def Wy (a:Val Â) (b:Val ag) (c:Int) (d:Int) (k:Val Ä→Option ρ):Option ρ :=
  Ã (pH a b) fun e=>ifb (ine e 0) (k ((0:Int),e)) (Ã (pG a c d) fun f=>ifb (ine f 0) (k ((0:Int),f)) (Ã (pF a b c d) fun g=>k (g,(0:Int))))
def mc (a:Val Â) (b:Val ag) (c:Int) (d:Int):Option (Val Ä):=Wy a b c d some
def yo (c:Int) (a:Int) (b:Val ab) (d:Int→Val ab→Option ρ) (e:Val ab→Option ρ):Option ρ :=
  ifb (ilt a c) (è ((ile 0 a)&&(ilt a (ñ b))) (Ľ b (Int.toNat a) fun g=>ck (a+(1:Int)) fun f=>d f (List.set b (Int.toNat a) (1152921504606846976:Int)))) (e b)
def QA (c:Int) (a:Int) (b:Val ab) (d:Int→Val ab→Option ρ) (e:Val ab→Option ρ):Option ρ :=
  ifb (ilt a c) (è ((ile 0 a)&&(ilt a (ñ b))) (Ľ b (Int.toNat a) fun g=>ck (a+(1:Int)) fun f=>d f (List.set b (Int.toNat a) (1152921504606846976:Int)))) (e b)
def De (d:Val ab) (f:Val ak) (g:Int) (c:Int) (b:Val ab) (e:Int→Val ab→Option ρ) (h:Val ab→Option ρ):Option ρ :=
  ifb (ilt c g) (Ċ f c fun a=>Ċ d a.2.1 fun i=>ifb (ine i 1152921504606846976) (è ((ile 0 a.1)&&(ilt a.1 (ñ b))) (Ľ b (Int.toNat a.1) fun j=>Ċ d a.2.1 fun k=>ck (a.2.2+k) fun l=>è ((ile 0 a.1)&&(ilt a.1 (ñ b))) (Ľ b (Int.toNat a.1) fun o=>ck (c+(1:Int)) fun m=>e m (List.set b (Int.toNat a.1) (YR j l))))) (ck (c+(1:Int)) fun n=>e n b)) (h b)
def Iq (i:Int) (b:Int) (d:Val ak) (e:Int) (a:Val ag) (j:Int→Val ag→Option ρ) (k:Val ag→Option ρ):Option ρ :=
  ifb (ilt e i) (ck ((Ø a)-(1:Int)) fun c=>è ((ile 0 c)&&(ilt c (ñ a))) (Ľ a (Int.toNat c) fun l=>è ((ile 0 b)&&(î (Int.toNat b))) (Ê (fun(f:Val ŋ) m=>QA (Ø (List.replicate (Int.toNat b) (0:Int))) f.1 f.2 (fun n o=>m (n,o)) (fun p=>Ê (fun(g:Val ŋ) q=>De l d (Ø d) g.1 g.2 (fun r s=>q (r,s)) (fun h=>è (î ((List.length a)+(List.length ([h])))) (ck (e+(1:Int)) fun t=>j t (a++([h]))))) ((0:Int),p))) ((0:Int),(List.replicate (Int.toNat b) (0:Int)))))) (k a)
def Ki (a:Val Í) (b:Int) (f:Int) (k:Val ag→Option ρ):Option ρ :=
  è ((ile 0 a.1)&&(î (Int.toNat a.1))) (Ê (fun(d:Val ŋ) g=>yo (Ø (List.replicate (Int.toNat a.1) (0:Int))) d.1 d.2 (fun h i=>g (h,i)) (fun c=>è ((ile 0 b)&&(ilt b (ñ c))) (Ľ c (Int.toNat b) fun o=>Ê (fun(e:Val bf) j=>Iq f a.1 a.2 e.1 e.2 (fun l m=>j (l,m)) (fun n=>k n)) ((0:Int),[(List.set c (Int.toNat b) (0:Int))])))) ((0:Int),(List.replicate (Int.toNat a.1) (0:Int))))
def Ei (a:Val Í) (b:Int) (c:Int):Option ((Val ag)):=Ki a b c some
def mU (d:Int) (c:Int) (e:Val ak) (a:Int) (b:Val aj) (f:Int→Val aj→Option ρ) (g:Val aj→Option ρ):Option ρ :=
  ifb (ilt a d) (Ã (Ei (c,e) a c) fun h=>è ((ile 0 a)&&(ilt a (ñ b))) (Ľ b (Int.toNat a) fun j=>ck (a+(1:Int)) fun i=>f i (List.set b (Int.toNat a) h))) (g b)
def GU (g:Int) (h:Val ag) (j:Val ak) (k:Int) (e:Int) (b:Int) (a:Int) (c:Val ab) (f:Int→Int→Int→Val ab→Option ρ) (i:Val aQ→Option ρ):Option ρ :=
  ifb (ilt a k) (Ċ j a fun d=>ifb (ieq d.1 e) (ck (g-(1:Int)) fun l=>Ċ h l fun m=>Ċ m d.2.1 fun n=>ifb (ine n 1152921504606846976) (ck (b+d.2.2) fun o=>ck (g-(1:Int)) fun p=>Ċ h p fun q=>Ċ q d.2.1 fun r=>ck (o+r) fun s=>ifb (ilt s 0) (è (î ((List.length c)+(List.length ([a])))) (ck (b+d.2.2) fun t=>i (d.2.1,t,(c++([a]))))) (ck (a+(1:Int)) fun u=>f e b u c)) (ck (a+(1:Int)) fun v=>f e b v c)) (ck (a+(1:Int)) fun w=>f e b w c)) (i (e,b,c))
def xw (f:Val ag) (d:Val ak) (g:Int) (b:Int) (h:Int) (e:Val ab) (i:Int→Int→Int→Val ab→Option ρ) (j:Val ab→Option ρ):Option ρ :=
  ifb (igt b 0) (Ê (fun(a:(Val (.pair tI aQ))) k=>GU b f d (Ø d) a.1 a.2.1 a.2.2.1 a.2.2.2 (fun l m n o=>k (l,m,n,o)) (fun c=>ck (b-(1:Int)) fun p=>i c.1 p c.2.1 c.2.2)) (g,h,(0:Int),e)) (j e)
def mT (e:Int) (h:Val ak) (i:Int) (j:Int) (k:Val ak) (b:Val aj) (c:Int) (f:Int→Option ρ) (l:Unit→Option ρ) (m:Val ŋ→Option ρ) (n:Unit→Option ρ):Option ρ :=
  ifb (ilt c i) (Ċ h c fun a=>è ((ile 0 a.1)&&(ilt a.1 (ñ b))) (Ľ b (Int.toNat a.1) fun o=>ck (e-(1:Int)) fun p=>Ċ o p fun q=>Ċ q a.2.1 fun g=>ifb (ieq g 1152921504606846976) (ck (c+(1:Int)) fun r=>f r) (ck (a.2.2+g) fun s=>ifb (ige s 0) (ck (c+(1:Int)) fun t=>f t) (ifb (igt e j) (l ()) (è ((ile 0 a.1)&&(ilt a.1 (ñ b))) (Ľ b (Int.toNat a.1) fun u=>Ê (fun(d:(Val (.pair tI aQ))) v=>xw u k d.1 d.2.1 d.2.2.1 d.2.2.2 (fun w x y z=>v (w,x,y,z)) (fun A=>m ((0:Int),A))) (a.1,e,(0:Int),[]))))))) (n ())
def qV (d:Int) (a:Val ak) (e:Val aj) (b:Int) (f:Int→Option ρ) (g:Unit→Option ρ) (h:Val ŋ→Option ρ):Option ρ :=
  Ê (fun(i:Int) j=>mT b a (Ø a) d a e i (fun k=>j k) (fun _=>g ()) (fun c=>h (c.1,c.2)) (fun _=>ck (b+(1:Int)) fun l=>f l)) (0:Int)
def Di (a:Val Í) (k:Val ay→Option ρ):Option ρ :=
  Ã (pI a) fun b=>ifb (ine b.1 0) (k ([],b.1)) (Ã (j7 a ([])) fun e=>ifb e.2 (k ([],(5:Int))) (è ((ile 0 a.1)&&(î (Int.toNat a.1))) (Ê (fun(c:Val aB) f=>mU (Ø (List.replicate (Int.toNat a.1) ([]:Val ag))) a.1 a.2 c.1 c.2 (fun g h=>f (g,h)) (fun i=>Ê (fun(j:Int) l=>qV a.1 a.2 i j (fun m=>l m) (fun _=>k ([],(5:Int))) (fun d=>k (d.2,d.1))) (1:Int))) ((0:Int),(List.replicate (Int.toNat a.1) ([]:Val ag))))))
def nl (a:Val Í):Option ((Val ay)):=Di a some
def qJ (d:Val aj) (e:Int) (f:Int) (g:Int) (h:Val ae) (i:Val aa) (j:Val af) (k:Val ac) (l:Val aa) (m:Val ai) (b:Int) (a:Val ag) (n:Int→Val ag→Option ρ) (o:Val bf→Option ρ) (p:Val ag→Option ρ):Option ρ :=
  ifb (ilt b e) (Ċ d b fun q=>Ã (Α (((f,g),h,i,j,k,l),m) q) fun r=>Ã (il r) fun s=>Ã (nl s.1) fun c=>ifb (ine c.2 0) (o ((5:Int),a)) (è (î ((List.length a)+(List.length ([c.1])))) (ck (b+(1:Int)) fun t=>n t (a++([c.1]))))) (p a)
def J0 (a:Val Â) (k:Val bc→Option ρ):Option ρ :=
  Ã (π a) fun b=>ifb (ine b 0) (k ([],b)) (Ã (rz a) fun c=>Ê (fun(d:Val bf) e=>qJ c (Ø c) a.1.1.1 a.1.1.2 a.1.2.1 a.1.2.2.1 a.1.2.2.2.1 a.1.2.2.2.2.1 a.1.2.2.2.2.2 a.2 d.1 d.2 (fun f g=>e (f,g)) (fun h=>k ([],h.1)) (fun i=>k (i,(0:Int)))) ((0:Int),[]))
def Eg (a:Val Â):Option ((Val bc)):=J0 a some
def mo (d:Val ab) (e:Int) (f:Val ak) (a:Int) (g:Int→Option ρ) (b:Int→Option ρ) (h:Unit→Option ρ):Option ρ :=
  ifb (ilt a e) (Ċ d a fun c=>ifb (ilt c 0) (b a) (ifb (ige c (Ø f)) (b a) (ck (a+(1:Int)) fun i=>g i))) (h ())
def Br (b:Val Í) (a:Val ab) (k:Int→Option ρ):Option ρ :=
  ifb (igt (Ø a) 80) (k (2:Int)) (Ê (fun(c:Int) d=>mo a (Ø a) b.2 c (fun e=>d e) (fun f=>ifb (ige f 0) (k (1:Int)) (k (0:Int))) (fun _=>k (0:Int))) (0:Int))
def vh (a:Val Í) (b:Val ab):Option (Int):=Br a b some
def uz (e:Val ab) (f:Int) (g:Val ak) (c:Int) (d:Int) (a:Int) (h:Int→Int→Int→Option ρ) (i:(Val (.pair tI (.pair tI .bool)))→Option ρ) (j:Val Ä→Option ρ):Option ρ :=
  ifb (ilt a f) (Ċ e a fun k=>Ċ g k fun b=>ifb (ine b.1 c) (i ((0:Int),(0:Int),false)) (ck (d+b.2.2) fun l=>ck (a+(1:Int)) fun m=>h b.2.1 l m)) (j (c,d))
def Qy (e:Val Í) (f:Int) (c:Val ab) (k:(Val (.pair tI (.pair tI .bool)))→Option ρ):Option ρ :=
  Ê (fun(a:Val Ō) g=>uz c (Ø c) e.2 a.1 a.2.1 a.2.2 (fun h i j=>g (h,i,j)) (fun b=>k (b.1,b.2.1,b.2.2)) (fun d=>k (d.1,d.2,true))) (f,(0:Int),(0:Int))
def IE (a:Val Í) (b:Int) (c:Val ab):Option ((Val (.pair tI (.pair tI .bool)))):=Qy a b c some
def rR (a:Val Í) (b:Val ab) (k:Int→Option ρ):Option ρ :=
  Ã (pI a) fun d=>ifb (ine d.1 0) (k d.1) (Ã (vh a b) fun e=>ifb (ine e 0) (k e) (ifb (ieq (Ø b) 0) (k (8:Int)) (Ċ b (0:Int) fun g=>Ċ a.2 g fun f=>Ã (IE a f.1 b) fun c=>ifb (!c.2.2) (k (8:Int)) (ifb (ine c.1 f.1) (k (8:Int)) (ifb (ige c.2.1 0) (k (8:Int)) (k (0:Int)))))))
def mu (a:Val Í) (b:Val ab):Option (Int):=rR a b some
def iY (b:Val ag) (c:Val aj) (d:Int) (e:Int) (f:Int) (g:Val ae) (h:Val aa) (i:Val af) (j:Val ac) (k:Val aa) (l:Val ai) (a:Int) (m:Int→Option ρ) (n:Int→Option ρ) (o:Unit→Option ρ):Option ρ :=
  ifb (ilt a d) (Ċ c a fun p=>Ã (Α (((e,f),g,h,i,j,k),l) p) fun q=>Ã (il q) fun r=>Ċ b a fun s=>Ã (mu r.1 s) fun t=>ifb (ine t 0) (n (8:Int)) (ck (a+(1:Int)) fun u=>m u)) (o ())
def rL (a:Val Â) (c:Val ag) (k:Int→Option ρ):Option ρ :=
  Ã (π a) fun d=>ifb (ine d 0) (k d) (Ã (rz a) fun b=>ifb (ine (Ø c) (Ø b)) (k (8:Int)) (Ê (fun(e:Int) f=>iY c b (Ø b) a.1.1.1 a.1.1.2 a.1.2.1 a.1.2.2.1 a.1.2.2.2.1 a.1.2.2.2.2.1 a.1.2.2.2.2.2 a.2 e (fun g=>f g) (fun h=>k h) (fun _=>k (0:Int))) (0:Int)))
def ju (a:Val Â) (b:Val ag):Option (Int):=rL a b some
def GK (a:Val ac) (k:Val Â→Option ρ):Option ρ :=
  è (î ((List.length ([((7:Int),(10:Int),[(1:Int)],[(2:Int)],(-20:Int),(1:Int),(100:Int),(200:Int))]))+(List.length a))) (k ((((0:Int),(2:Int)),[((1:Int),(0:Int),(1000:Int),((-5:Int),(5:Int)),((1:Int),(10:Int)),(1:Int)),((2:Int),(0:Int),(1000:Int),((-50:Int),(50:Int)),((1:Int),(4:Int)),(0:Int)),((3:Int),(0:Int),(1100:Int),((-1:Int),(1:Int)),((0:Int),(1:Int)),(0:Int))],[((1:Int),(10:Int))],[((1:Int),((20:Int),(29:Int)),(3:Int))],(([((7:Int),(10:Int),[(1:Int)],[(2:Int)],(-20:Int),(1:Int),(100:Int),(200:Int))])++a),[]),[((12:Int),[(2:Int),(3:Int)])]))
def Ť (a:Val ac):Option (Val Â):=GK a some
def A3 (k:Bool→Option ρ):Option ρ :=
  Ã (Ť ([])) fun m=>Ã (Ef m) fun b=>Ã (Ť ([])) fun n=>Ã (RF n) fun f=>Ã (Ť ([((8:Int),(15:Int),[(2:Int)],[(1:Int)],(100:Int),(1:Int),(0:Int),(0:Int))])) fun o=>Ã (Eh o) fun g=>Ã (Ť ([((8:Int),(15:Int),[(2:Int)],[(1:Int)],(100:Int),(1:Int),(0:Int),(0:Int))])) fun p=>Ã (yF p (2:Int) (15:Int)) fun c=>Ã (Ť ([((8:Int),(15:Int),[(2:Int)],[(1:Int)],(100:Int),(1:Int),(0:Int),(0:Int)),((9:Int),(15:Int),[(3:Int)],[],(1100:Int),(0:Int),(0:Int),(0:Int))])) fun a=>Ã (IC a) fun h=>Ã (rA a ([(7:Int),(8:Int),(9:Int)])) fun i=>Ã (ou a (2:Int)) fun j=>ifb (ine b.2 0) (k false) (ifb (ine f.2 0) (k false) (ifb (ine g.2 0) (k false) (ifb (ine c.2 0) (k false) (ifb (ine h.2 0) (k false) (ifb (ine i.2 0) (k false) (ifb (ine j.2 0) (k false) (ifb (ine (Ø b.1) 2) (k false) (ifb (ine (Ø f.1) 2) (k false) (ifb j.1 (k false) (Ã (Eg a) fun d=>Ċ b.1 (1:Int) fun q=>Ã (mc a q (2:Int) (13:Int)) fun l=>ifb (ine d.2 0) (k false) (ifb (ine l.2 0) (k false) (ifb (ine l.1 3) (k false) (Ã (ju a d.1) fun r=>ifb (ine r 0) (k false) (Ã (Ť ([])) fun s=>Ã (ju s d.1) fun t=>ifb (ine t 8) (k false) (Ã (rB g.1 ([[(3:Int),(2:Int)]])) fun u=>ifb u (ifb (ieq (Ø c.1) 1) (Ċ c.1 (0:Int) fun e=>ifb ((kQ e.1 (3:Int))&&((kQ e.2.1 (1099:Int))&&((kQ e.2.2 (1101:Int))&&true))) (Ã (Ţ h.1 ([(8:Int),(9:Int)])) fun v=>ifb v (Ã (Ţ i.1 ([(8:Int),(9:Int)])) fun w=>k w) (k false)) (k false)) (k false)) (k false))))))))))))))))
def mb:Option (Bool):=A3 some
def uh (a:Val Â) (b:Val ag) (k:(Val (.pair É tI))→Option ρ):Option ρ :=
  Ã (pH a b) fun c=>ifb (ine c 0) (k ((((0:Int),(0:Int)),[],[],[],[],[]),c)) (Ã (Α a b) fun d=>k (d,(0:Int)))
def ov (a:Val Â) (b:Val ag):Option ((Val (.pair É tI))):=uh a b some
def Fq (a:Val Â) (b:Val ag) (k:Val Ä→Option ρ):Option ρ :=
  Ã (pH a b) fun c=>ifb (ine c 0) (k ((0:Int),c)) (Ã (ĥ a b) fun d=>k (d,(0:Int)))
def yE (a:Val Â) (b:Val ag):Option (Val Ä):=Fq a b some
def qE (d:Val ag) (e:Int) (f:Val ae) (g:Int) (h:Int) (i:Int) (j:Val ae) (l:Val aa) (m:Val af) (n:Val ac) (o:Val aa) (p:Val ai) (a:Int) (b:Val aI) (q:Int→Val aI→Option ρ) (r:Val aI→Option ρ):Option ρ :=
  ifb (ilt a g) (Ċ f a fun c=>Ã (pF (((h,i),j,l,m,n,o),p) d c.1 e) fun s=>ck (a+(1:Int)) fun t=>q t (Mn (k:=tI) (v:=tI) s c.1 b)) (r b)
def JV (a:Val Â) (c:Val ag) (d:Int) (k:Val aI→Option ρ):Option ρ :=
  Ê (fun(b:(Val (.pair tI aI))) e=>qE c d a.1.2.1 (Ø a.1.2.1) a.1.1.1 a.1.1.2 a.1.2.1 a.1.2.2.1 a.1.2.2.2.1 a.1.2.2.2.2.1 a.1.2.2.2.2.2 a.2 b.1 b.2 (fun f g=>e (f,g)) (fun h=>k h)) ((0:Int),[])
def Ee (a:Val Â) (b:Val ag) (c:Int):Option ((Val aI)):=JV a b c some
def J4 (a:Val Â) (b:Val ag) (c:Int) (d:Int) (k:Val Ä→Option ρ):Option ρ :=
  Ã (pH a b) fun e=>ifb (ine e 0) (k ((0:Int),e)) (Ã (pG a c d) fun f=>ifb (ine f 0) (k ((0:Int),f)) (Ã (Ee a b d) fun g=>Iw (k:=tI) (v:=tI) c g (fun h=>k (h,(0:Int))) (k ((0:Int),(0:Int)))))
def ο (a:Val Â) (b:Val ag) (c:Int) (d:Int):Option (Val Ä):=J4 a b c d some
def nE (a:Val Ö) (b:Val Ö) (k:Bool→Option ρ):Option ρ :=
  Ã (Ţ a.2.2.1 b.2.2.1) fun c=>Ã (Ţ a.2.2.2.1 b.2.2.2.1) fun d=>ifb c (ifb d (ifb (ieq a.1 b.1) (ifb (ieq a.2.1 b.2.1) (ifb (ieq a.2.2.2.2.1 b.2.2.2.2.1) (ifb (ieq a.2.2.2.2.2.1 b.2.2.2.2.2.1) (k ((kQ a.2.2.2.2.2.2.1 b.2.2.2.2.2.2.1)&&((kQ a.2.2.2.2.2.2.2 b.2.2.2.2.2.2.2)&&true))) (k false)) (k false)) (k false)) (k false)) (k false)) (k false)
def jM (a:Val Ö) (b:Val Ö):Option (Bool):=nE a b some
def iZ (b:Val aa) (e:Val aa) (a:Int) (f:Int→Option ρ) (g:Bool→Option ρ) (h:Unit→Option ρ):Option ρ :=
  ifb (ilt a (Ø b)) (Ċ b a fun c=>Ċ e a fun d=>ifb (!((kQ c.1 d.1)&&((kQ c.2 d.2)&&true))) (g false) (ck (a+(1:Int)) fun i=>f i)) (h ())
def rP (a:Val aa) (b:Val aa) (k:Bool→Option ρ):Option ρ :=
  ifb (ine (Ø a) (Ø b)) (k false) (Ê (fun(c:Int) d=>iZ a b c (fun e=>d e) (fun f=>k f) (fun _=>k true)) (0:Int))
def jv (a:Val aa) (b:Val aa):Option (Bool):=rP a b some
def qP (d:Val ae) (e:Val ae) (c:Int) (f:Int→Option ρ) (g:Bool→Option ρ) (h:Unit→Option ρ):Option ρ :=
  ifb (ilt c (Ø d)) (Ċ d c fun a=>Ċ e c fun b=>ifb (!((kQ a.1 b.1)&&((kQ a.2.1 b.2.1)&&((kQ a.2.2.1 b.2.2.1)&&((kQ a.2.2.2.1.1 b.2.2.2.1.1)&&((kQ a.2.2.2.1.2 b.2.2.2.1.2)&&((kQ a.2.2.2.2.1.1 b.2.2.2.2.1.1)&&((kQ a.2.2.2.2.1.2 b.2.2.2.2.1.2)&&((kQ a.2.2.2.2.2 b.2.2.2.2.2)&&true))))))))) (g false) (ck (c+(1:Int)) fun i=>f i)) (h ())
def qO (b:Val aa) (e:Val aa) (a:Int) (f:Int→Option ρ) (g:Bool→Option ρ) (h:Unit→Option ρ):Option ρ :=
  ifb (ilt a (Ø b)) (Ċ b a fun c=>Ċ e a fun d=>ifb (!((kQ c.1 d.1)&&((kQ c.2 d.2)&&true))) (g false) (ck (a+(1:Int)) fun i=>f i)) (h ())
def qN (d:Val af) (e:Val af) (a:Int) (f:Int→Option ρ) (g:Bool→Option ρ) (h:Unit→Option ρ):Option ρ :=
  ifb (ilt a (Ø d)) (Ċ d a fun b=>Ċ e a fun c=>ifb (!((kQ b.1 c.1)&&((kQ b.2.1.1 c.2.1.1)&&((kQ b.2.1.2 c.2.1.2)&&((kQ b.2.2 c.2.2)&&true))))) (g false) (ck (a+(1:Int)) fun i=>f i)) (h ())
def qM (b:Val ac) (c:Val ac) (a:Int) (d:Int→Option ρ) (e:Bool→Option ρ) (f:Unit→Option ρ):Option ρ :=
  ifb (ilt a (Ø b)) (Ċ b a fun g=>Ċ c a fun h=>Ã (jM g h) fun i=>ifb (!i) (e false) (ck (a+(1:Int)) fun j=>d j)) (f ())
def Kd (a:Val É) (b:Val É) (k:Bool→Option ρ):Option ρ :=
  ifb (!((kQ a.1.1 b.1.1)&&((kQ a.1.2 b.1.2)&&true))) (k false) (ifb (ine (Ø a.2.1) (Ø b.2.1)) (k false) (ifb (ine (Ø a.2.2.1) (Ø b.2.2.1)) (k false) (ifb (ine (Ø a.2.2.2.1) (Ø b.2.2.2.1)) (k false) (ifb (ine (Ø a.2.2.2.2.1) (Ø b.2.2.2.2.1)) (k false) (Ê (fun(c:Int) d=>qP a.2.1 b.2.1 c (fun e=>d e) (fun f=>k f) (fun _=>Ê (fun(g:Int) h=>qO a.2.2.1 b.2.2.1 g (fun i=>h i) (fun j=>k j) (fun _=>Ê (fun(l:Int) m=>qN a.2.2.2.1 b.2.2.2.1 l (fun n=>m n) (fun o=>k o) (fun _=>Ê (fun(p:Int) q=>qM a.2.2.2.2.1 b.2.2.2.2.1 p (fun r=>q r) (fun s=>k s) (fun _=>Ã (jv a.2.2.2.2.2 b.2.2.2.2.2) fun t=>k t)) (0:Int))) (0:Int))) (0:Int))) (0:Int))))))
def xO (a:Val É) (b:Val É):Option (Bool):=Kd a b some
def jC (l:Int) (m:Int) (c:Val aj) (d:Int) (e:Int) (f:Val ae) (g:Val aa) (h:Val af) (i:Val ac) (j:Val aa) (k:Val ai) (F:Int) (a:Int) (o:Int→Int→Option ρ) (b:Bool→Option ρ) (G:Unit→Option ρ):Option ρ :=
  ifb (ilt a (Ø c)) (Ċ c a fun H=>Ã (yE (((d,e),f,g,h,i,j),k) H) fun n=>ifb (ine n.2 0) (b false) (ifb (ilt n.1 F) (b false) (ifb (ieq n.1 1) (b false) (ifb (ieq a 0) (ifb (ine n.1 0) (b false) (ifb (igt a 0) (ifb (ieq n.1 0) (b false) (Ċ c a fun I=>Ã (mc (((d,e),f,g,h,i,j),k) I l m) fun p=>ifb (ine p.2 0) (ck (a+(1:Int)) fun J=>o n.1 J) (Ċ c a fun K=>Ã (ο (((d,e),f,g,h,i,j),k) K p.1 m) fun q=>Ċ c a fun L=>Ã (ο (((d,e),f,g,h,i,j),k) L l m) fun r=>ifb (ine q.2 0) (b false) (ifb (ine r.2 0) (b false) (ifb (ine q.1 l) (b false) (Ċ c a fun M=>Ã (mc (((d,e),f,g,h,i,j),k) M r.1 m) fun s=>ifb (ine s.2 0) (b false) (ifb (ine s.1 l) (b false) (ck (a+(1:Int)) fun N=>o n.1 N)))))))) (Ċ c a fun O=>Ã (mc (((d,e),f,g,h,i,j),k) O l m) fun t=>ifb (ine t.2 0) (ck (a+(1:Int)) fun P=>o n.1 P) (Ċ c a fun Q=>Ã (ο (((d,e),f,g,h,i,j),k) Q t.1 m) fun u=>Ċ c a fun R=>Ã (ο (((d,e),f,g,h,i,j),k) R l m) fun v=>ifb (ine u.2 0) (b false) (ifb (ine v.2 0) (b false) (ifb (ine u.1 l) (b false) (Ċ c a fun S=>Ã (mc (((d,e),f,g,h,i,j),k) S v.1 m) fun w=>ifb (ine w.2 0) (b false) (ifb (ine w.1 l) (b false) (ck (a+(1:Int)) fun T=>o n.1 T))))))))) (ifb (igt a 0) (ifb (ieq n.1 0) (b false) (Ċ c a fun U=>Ã (mc (((d,e),f,g,h,i,j),k) U l m) fun x=>ifb (ine x.2 0) (ck (a+(1:Int)) fun V=>o n.1 V) (Ċ c a fun W=>Ã (ο (((d,e),f,g,h,i,j),k) W x.1 m) fun y=>Ċ c a fun X=>Ã (ο (((d,e),f,g,h,i,j),k) X l m) fun z=>ifb (ine y.2 0) (b false) (ifb (ine z.2 0) (b false) (ifb (ine y.1 l) (b false) (Ċ c a fun Y=>Ã (mc (((d,e),f,g,h,i,j),k) Y z.1 m) fun A=>ifb (ine A.2 0) (b false) (ifb (ine A.1 l) (b false) (ck (a+(1:Int)) fun Z=>o n.1 Z)))))))) (Ċ c a fun dc=>Ã (mc (((d,e),f,g,h,i,j),k) dc l m) fun B=>ifb (ine B.2 0) (ck (a+(1:Int)) fun df=>o n.1 df) (Ċ c a fun dg=>Ã (ο (((d,e),f,g,h,i,j),k) dg B.1 m) fun C=>Ċ c a fun dh=>Ã (ο (((d,e),f,g,h,i,j),k) dh l m) fun D=>ifb (ine C.2 0) (b false) (ifb (ine D.2 0) (b false) (ifb (ine C.1 l) (b false) (Ċ c a fun di=>Ã (mc (((d,e),f,g,h,i,j),k) di D.1 m) fun E=>ifb (ine E.2 0) (b false) (ifb (ine E.1 l) (b false) (ck (a+(1:Int)) fun dj=>o n.1 dj)))))))))))) (G ())
def tZ (a:Val Â) (e:Int) (f:Int) (k:Bool→Option ρ):Option ρ :=
  Ã (yB a) fun g=>ifb (!g) (Ã mb fun h=>k h) (Ã (Ef a) fun b=>ifb (ine b.2 0) (Ã mb fun i=>k i) (ifb (ieq (Ø b.1) 0) (k false) (Ê (fun(d:Val Ä) j=>jC e f b.1 a.1.1.1 a.1.1.2 a.1.2.1 a.1.2.2.1 a.1.2.2.2.1 a.1.2.2.2.2.1 a.1.2.2.2.2.2 a.2 d.1 d.2 (fun l m=>j (l,m)) (fun n=>k n) (fun _=>Ċ b.1 (0:Int) fun o=>Ã (ov a o) fun c=>Ã mb fun p=>ifb p (ifb (ieq c.2 0) (ifb (igt (Ø a.2) 0) (Ã (xO c.1 a.1) fun q=>k q) (ifb (ieq (Ø b.1) 1) (Ã (xO c.1 a.1) fun r=>k r) (k false))) (k false)) (k false))) ((0:Int),(0:Int)))))
def vg (a:Val Â) (b:Int) (c:Int):Option (Bool):=tZ a b c some
end Go.Proofs.ZzM
end
