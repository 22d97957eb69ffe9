/- lemmas -/
import Derived.Test.YtdmegkgjpgcfgaaGreatAmE
set_option linter.all false
set_option linter.unusedSectionVars false
set_option linter.unusedVariables false
set_option linter.unusedSimpArgs false
noncomputable section
variable {ρ:Type}
set_option maxRecDepth 100000
namespace Go.Proofs.ZzM
open Go Go.Am
abbrev tI:Ty:=.int .i64
abbrev Ã:Ty:=(.pair tI tI)
abbrev ŗ:Ty:=(.pair tI Ã)
abbrev ŋ:Ty:=(.pair tI (.slice tI))
abbrev Ě:Ty:=(.pair Ã Ã)
abbrev tp:Ty:=(.pair Ã tI)
abbrev iy:Ty:=(.pair tI tp)
abbrev adk:Ty:=(.pair Ě tI)
abbrev Î:Ty:=(.pair tI (.slice ŗ))
abbrev C1:Ty:=(.pair (.slice ŗ) (.slice Ã))
abbrev Ö:Ty:=(.pair tI (.pair tI (.pair tI (.pair Ã tp))))
abbrev Ù:Ty:=(.pair tI (.pair tI (.pair (.slice tI) (.pair (.slice tI) (.pair tI ŗ)))))
abbrev É:Ty:=(.pair Ã (.pair (.slice Ö) (.pair (.slice Ã) (.pair (.slice iy) (.pair (.slice Ù) (.slice Ã))))))
abbrev Â:Ty:=(.pair É (.slice ŋ))
abbrev aiE:Ty:=(.pair É (.pair (.slice Ã) (.pair Î (.slice Ã))))
def zJ (l:List Int):Option (List Int):=ä (ê l.length) (some l)
def F8:Nat→List Int→List (List Int)
  |0,_=>[[]]
  |n+1,l=>if l.length=0 then[[]] else(List.range l.length).flatMap fun i=>(F8 n (l.take i++l.drop (i+1))).map (l.getD i 0::·)
def jc:List (Int×List Int)→List (List (List Int))
  |[]=>[[]]
  |m::r=>(F8 m.2.length m.2).flatMap fun x=>(jc r).map (x::·)
def zK (l:List Int):Option (List (List Int)):=ä (decide (l.length≤9)) (some (F8 l.length l))
def mU (l:List (Int×List Int)):Option (List (List (List Int))):=ä (decide (l.length≤9)&&l.all fun m=>decide (m.2.length≤9)) (some (jc l))
abbrev aa:Ty:=(.slice tI)
abbrev ab:Ty:=(.slice Ã)
abbrev ac:Ty:=(.slice Ù)
abbrev ae:Ty:=(.slice Ö)
abbrev af:Ty:=(.slice iy)
abbrev ag:Ty:=(.slice aa)
abbrev ah:Ty:=(.pair tI (.pair tI (.pair ae (.pair ab (.pair af (.pair ac (.pair ab (.slice ŋ))))))))
abbrev ai:Ty:=(.slice ŋ)
abbrev aj:Ty:=(.slice ag)
abbrev ak:Ty:=(.slice ŗ)
abbrev am:Ty:=(.map tI Ö)
abbrev ao:Ty:=(.map tI .bool)
abbrev aq:Ty:=(.pair tI (.pair tI (.pair ae (.pair ab (.pair af (.pair ac ab))))))
abbrev ar:Ty:=(.slice .bool)
abbrev au:Ty:=(.ptr Â)
abbrev aw:Ty:=(.pair tI (.pair aj ah))
abbrev ax:Ty:=(.pair aa tI)
abbrev ay:Ty:=(.pair tI (.pair tI (.pair ae (.pair ab (.pair af (.pair ac (.pair ab (.pair ai ah))))))))
abbrev az:Ty:=(.pair tI (.pair tI (.pair tI (.pair tI (.pair tI ŗ)))))
abbrev aB:Ty:=(.pair tI aj)
abbrev aD:Ty:=(.ptr aiE)
abbrev aE:Ty:=(.pair tI ah)
abbrev aF:Ty:=(.pair aa (.pair tI (.pair tI (.pair tI (.pair ae (.pair ab (.pair af (.pair ac (.pair ab (.pair tI (.pair aa (.map tI tI))))))))))))
abbrev aG:Ty:=(.pair .bool tI)
abbrev aH:Ty:=(.ptr ag)
abbrev aI:Ty:=(.pair Â ag)
abbrev aJ:Ty:=(.pair tI ac)
abbrev aK:Ty:=(.pair tI (.pair tI (.pair tI (.pair ae (.pair ab (.pair af (.pair ac (.pair ab az))))))))
abbrev aL:Ty:=(.pair tI (.pair tI (.pair ae (.pair ab (.pair af (.pair ac (.pair ab (.pair ai aq))))))))
abbrev aM:Ty:=(.pair É Ã)
abbrev aO:Ty:=(.pair tI Î)
abbrev aP:Ty:=(.pair ar aa)
abbrev aQ:Ty:=(.pair aa (.pair ar (.pair aa aa)))
abbrev aR:Ty:=(.pair tI (.pair tI (.pair tI (.pair tI (.pair tI aw)))))
abbrev aS:Ty:=(.pair tI ŋ)
abbrev aT:Ty:=(.map tI Ã)
abbrev aU:Ty:=(.pair É tI)
abbrev aV:Ty:=(.pair aa (.pair tI (.pair tI ax)))
abbrev aW:Ty:=(.pair ab tI)
abbrev aX:Ty:=(.pair Î aa)
abbrev aY:Ty:=(.pair aa ŋ)
abbrev aZ:Ty:=(.map tI tI)
abbrev ba:Ty:=(.pair É Ù)
abbrev bc:Ty:=(.pair tI (.pair tI (.pair ae (.pair ab (.pair af ab)))))
abbrev bf:Ty:=(.pair tI ab)
abbrev bg:Ty:=(.pair Â (.pair ag Ã))
abbrev bh:Ty:=(.pair tI ag)
abbrev bi:Ty:=(.pair aa (.pair ai aa))
abbrev bj:Ty:=(.pair tI (.pair tI aE))
abbrev bm:Ty:=(.pair (.int .u64) (.int .u64))
abbrev bn:Ty:=(.pair É (.pair am tI))
abbrev bo:Ty:=(.pair tI (.pair tI (.pair ak Î)))
def Ρ (d:Val ag) (e:Int) (b:Int) (a:Int) (f:Int→Int→Option ρ) (g:Int→Option ρ):Option ρ :=
  ifb (ilt a e) (ě d a fun h=>ck (b+(Û h)) fun c=>ifb (ilt c 0) (none) (ck (a+(1:Int)) fun i=>f c i)) (g b)
def Ģ (d:Val ag) (e:Int) (a:Int) (b:Val aa) (f:Int→Val aa→Option ρ) (g:Val aa→Option ρ):Option ρ :=
  ifb (ilt a e) (ě d a fun c=>ä (ê ((List.length b)+(List.length c))) (ck (a+(1:Int)) fun h=>f h (b++c))) (g b)
def lJ (a:Val ag) (k:Val aa→Option ρ):Option ρ :=
  Ë (fun(c:Val Ã) g=>Ρ a (Û a) c.1 c.2 (fun h i=>g (h,i)) (fun d=>ifb (ilt d 0) (none) (ck (d-(0:Int)) fun b=>ifb (igt b 0) (ä ((ilt 0 b)&&(ê (Int.toNat b))) (ä (ile 0 (î (List.replicate (Int.toNat b) (0:Int)))) (Ë (fun(e:Val ŋ) j=>Ģ a (Û a) e.1 e.2 (fun l m=>j (l,m)) (fun n=>k n)) ((0:Int),(List.take 0 (List.replicate (Int.toNat b) (0:Int))))))) (Ë (fun(f:Val ŋ) o=>Ģ a (Û a) f.1 f.2 (fun p q=>o (p,q)) (fun r=>k r)) ((0:Int),[]))))) ((0:Int),(0:Int))
def Ī (a:Val ag):Option ((Val aa)):=lJ a some
def pX (al:Val ag) (rec:Val aa→Option ((Val ag))) (a:Int) (b:Val ag) (y:Val aa) (c:Val ag→Option ρ):Option ρ :=
  ä (ê ((List.length ([a]))+(List.length y))) (yg al (b++[(([a])++y)]) (c (b++[(([a])++y)])))
def pY (al:Val ag) (rec:Val aa→Option ((Val ag))) (e:Val aa) (f:Int) (b:Val aa) (a:Int) (d:Val ag) (g:Int→Val ag→Option ρ) (h:Val ag→Option ρ):Option ρ :=
  ifb (ilt a f) (ě e a fun i=>ä ((ile 0 a)&&(ile a (î b))) (ck (a+(1:Int)) fun c=>ä ((ile 0 c)&&(ile c (î b))) (Ä (Ī ([(List.take (Int.toNat a) b),(List.drop (Int.toNat c) b)])) fun j=>Ä (rec j) fun k=>yV (fun(l:Val ag) (m:Val aa) n=>pX al rec i l m (fun o=>n o)) k (d) (fun p=>ck (a+(1:Int)) fun q=>g q p)))) (h d)
def xY (al:Val ag) (rec:Val aa→Option ((Val ag))) (mm:Val aa) (k:((Val ag))×((Val aa))→Option ρ):Option ρ :=
  ifb (ieq (Û mm) 0) (yg al (([])++[[]]) (k ((([])++[[]]),mm))) (Ë (fun(a:Val bh) b=>pY al rec mm (Û mm) mm a.1 a.2 (fun c d=>b (c,d)) (fun e=>k (e,mm))) ((0:Int),[]))
def mI (al:Val aj) (rec:Val ai→Option ((Val aj))) (a:Val aa) (b:Val aj) (y:Val ag) (c:Val aj→Option ρ):Option ρ :=
  ä (ê ((List.length ([a]))+(List.length y))) (yg al (b++[(([a])++y)]) (c (b++[(([a])++y)])))
def mJ (al:Val aj) (rec:Val ai→Option ((Val aj))) (a:Val ai) (b:Val aj) (y:Val aa) (c:Val aj→Option ρ):Option ρ :=
  ä (ile 1 (î a)) (Ä (rec (List.drop 1 a)) fun d=>yV (fun(e:Val aj) (f:Val ag) g=>mI al rec y e f (fun h=>g h)) d (b) (fun i=>c i))
def sO (al:Val aj) (rec:Val ai→Option ((Val aj))) (mm:Val ai) (k:((Val aj))×((Val ai))→Option ρ):Option ρ :=
  ifb (ieq (Û mm) 0) (yg al (([])++[[]]) (k ((([])++[[]]),mm))) (ě mm (0:Int) fun a=>Ä (zK a.2) fun b=>yV (fun(c:Val aj) (d:Val aa) e=>mJ al rec mm c d (fun f=>e f)) b ([]) (fun g=>k (g,mm)))
def iI (al:Val aa) (rec:Val aa→Option ((Val aa))) (d:Val aa) (e:Int) (a:Int) (b:Val aa) (f:Int→Val aa→Option ρ) (g:Val aa→Option ρ):Option ρ :=
  ifb (ilt a e) (ě d a fun c=>yg al (b++[c]) (ck (a+(1:Int)) fun h=>f h (b++[c]))) (g b)
def jU (al:Val aa) (rec:Val aa→Option ((Val aa))) (mm:Val aa) (k:((Val aa))×((Val aa))→Option ρ):Option ρ :=
  Ë (fun(a:Val ŋ) b=>iI al rec mm (Û mm) a.1 a.2 (fun c d=>b (c,d)) (fun e=>k (e,mm))) ((0:Int),[])
def ο (b:Val aa) (c:Int) (d:Int) (a:Int) (e:Int→Option ρ) (f:Int→Option ρ) (g:Unit→Option ρ):Option ρ :=
  ifb (ilt a d) (ě b a fun h=>ifb (ieq c h) (f a) (ck (a+(1:Int)) fun i=>e i)) (g ())
def mL (a:Val aa) (b:Int) (k:Int→Option ρ):Option ρ :=
  Ë (fun(c:Int) d=>ο a b (Û a) c (fun e=>d e) (fun f=>k f) (fun _=>k (-1:Int))) (0:Int)
def iu (a:Val aa) (b:Int):Option (Int):=mL a b some
def jV (a:Val aa) (b:Int) (k:Bool→Option ρ):Option ρ :=
  Ä (iu a b) fun c=>k (ige c 0)
def Ü (a:Val aa) (b:Int):Option (Bool):=jV a b some
def we (f:Val ac) (g:Int) (d:Int) (a:Int) (b:Val aa) (e:Int→Val aa→Option ρ) (h:Val aa→Option ρ):Option ρ :=
  ifb (ilt a g) (ě f a fun c=>Ä (Ü c.2.2.1 d) fun i=>Ä (Ü c.2.2.2.1 d) fun j=>ifb (!(i==j)) (ä (ê ((List.length b)+(List.length ([c.2.1])))) (ck (a+(1:Int)) fun k=>e k (b++([c.2.1])))) (ck (a+(1:Int)) fun l=>e l b)) (h b)
def wd (e:Val ab) (f:Int) (g:Int) (a:Int) (b:Val aa) (d:Int→Val aa→Option ρ) (h:Val aa→Option ρ):Option ρ :=
  ifb (ilt a f) (ě e a fun c=>ifb (ieq c.1 g) (ä (ê ((List.length b)+(List.length ([c.2])))) (ck (a+(1:Int)) fun i=>d i (b++([c.2])))) (ck (a+(1:Int)) fun j=>d j b)) (h b)
def SV (a:Val É) (b:Val Ö) (k:Val aa→Option ρ):Option ρ :=
  Ë (fun(d:Val ŋ) f=>we a.2.2.2.2.1 (Û a.2.2.2.2.1) b.1 d.1 d.2 (fun g h=>f (g,h)) (fun i=>Ë (fun(e:Val ŋ) j=>wd a.2.2.2.2.2 (Û a.2.2.2.2.2) b.1 e.1 e.2 (fun l m=>j (l,m)) (fun c=>ä (ê (List.length c)) (ä (ê (List.length (xy c))) (k (zZ (xy c)))))) ((0:Int),i))) ((0:Int),[b.2.1])
def pr (a:Val É) (b:Val Ö):Option ((Val aa)):=SV a b some
def se (e:Val aa) (f:Int) (c:Int) (a:Int) (b:Val ab) (g:Int→Val ab→Option ρ) (h:Val ab→Option ρ):Option ρ :=
  ifb (ilt a f) (ě e a fun d=>ä (ê ((List.length b)+(List.length ([(c,d)])))) (ck (a+(1:Int)) fun i=>g i (b++([(c,d)])))) (h b)
def sf (f:Val ae) (g:Int) (h:Int) (i:Int) (j:Val ae) (k:Val ab) (l:Val af) (m:Val ac) (n:Val ab) (a:Int) (b:Val ab) (o:Int→Val ab→Option ρ) (p:Val ab→Option ρ):Option ρ :=
  ifb (ilt a g) (ě f a fun c=>Ä (pr ((h,i),j,k,l,m,n) c) fun d=>Ë (fun(e:Val bf) q=>se d (Û d) c.1 e.1 e.2 (fun r s=>q (r,s)) (fun t=>ck (a+(1:Int)) fun u=>o u t)) ((0:Int),b)) (p b)
def Mc (a:Val É) (k:Val ab→Option ρ):Option ρ :=
  Ë (fun(b:Val bf) c=>sf a.2.1 (Û a.2.1) a.1.1 a.1.2 a.2.1 a.2.2.1 a.2.2.2.1 a.2.2.2.2.1 a.2.2.2.2.2 b.1 b.2 (fun d e=>c (d,e)) (fun f=>k f)) ((0:Int),[])
def ox (a:Val É):Option ((Val ab)):=Mc a some
def GU (a:Val Ã) (b:Int) (c:Int) (k:Bool→Option ρ):Option ρ :=
  ifb (ile b a.1) (ifb (ile a.1 a.2) (k (ile a.2 c)) (k false)) (k false)
def Λ (a:Val Ã) (b:Int) (c:Int):Option (Bool):=GU a b c some
def GJ (a:Int) (b:Int) (c:Int) (k:Bool→Option ρ):Option ρ :=
  ifb (ile b a) (k (ile a c)) (k false)
def ę (a:Int) (b:Int) (c:Int):Option (Bool):=GJ a b c some
def Mj (a:Int) (k:Bool→Option ρ):Option ρ :=
  Ä (ę a (0:Int) (20000:Int)) fun b=>k b
def lT (a:Int):Option (Bool):=Mj a some
def Sj (a:Int) (k:Int→Option ρ):Option ρ :=
  ifb (ilt a 0) (k (IntKind.wrap .u64 (0-(IntKind.wrap .u64 a)))) (k (IntKind.wrap .u64 a))
def sG (a:Int):Option (Int):=Sj a some
def zE (b:Int) (a:Int) (c:Int→Int→Option ρ) (d:Int→Option ρ):Option ρ :=
  ifb (ine a 0) (ifb (xc a 0) (none) (c a (Int.tmod b a))) (d b)
def YJ (b:Int) (c:Int) (k:Int→Option ρ):Option ρ :=
  Ë (fun(a:Val bm) d=>zE a.1 a.2 (fun e f=>d (e,f)) (fun g=>k g)) (b,c)
def M7 (a:Int) (b:Int):Option (Int):=YJ a b some
def LX (a:Val Ã) (k:Bool→Option ρ):Option ρ :=
  ifb (ige a.2 1) (ifb (ile a.2 2147483647) (Ä (sG a.1) fun b=>ifb (ile b 2147483647) (Ä (sG a.1) fun c=>Ä (sG a.2) fun d=>Ä (M7 c d) fun e=>k (ieq e 1)) (k false)) (k false)) (k false)
def uR (a:Val Ã):Option (Bool):=LX a some
def Cw (a:Val Ö) (k:Bool→Option ρ):Option ρ :=
  Ä (uR a.2.2.2.2.1) fun b=>ifb b (Ä (ę a.2.2.2.2.1.1 (-1000:Int) (1000:Int)) fun c=>ifb c (Ä (ę a.1 (1:Int) (1099511627776:Int)) fun d=>ifb d (Ä (lT a.2.1) fun e=>ifb e (Ä (ę a.2.2.1 (1:Int) (1125899906842624:Int)) fun f=>ifb f (Ä (Λ a.2.2.2.1 (-1073741824:Int) (1073741824:Int)) fun g=>ifb g (ifb (ile a.2.2.2.2.1.2 100) (Ä (ę a.2.2.2.2.2 (0:Int) (1048576:Int)) fun h=>k h) (k false)) (k false)) (k false)) (k false)) (k false)) (Ä (ę a.1 (1:Int) (1099511627776:Int)) fun i=>ifb i (Ä (lT a.2.1) fun j=>ifb j (Ä (ę a.2.2.1 (1:Int) (1125899906842624:Int)) fun l=>ifb l (Ä (Λ a.2.2.2.1 (-1073741824:Int) (1073741824:Int)) fun m=>ifb m (k false) (k false)) (k false)) (k false)) (k false))) (Ä (ę a.1 (1:Int) (1099511627776:Int)) fun n=>ifb n (Ä (lT a.2.1) fun o=>ifb o (Ä (ę a.2.2.1 (1:Int) (1125899906842624:Int)) fun p=>ifb p (Ä (Λ a.2.2.2.1 (-1073741824:Int) (1073741824:Int)) fun q=>ifb q (k false) (k false)) (k false)) (k false)) (k false))
def wy (a:Val Ö):Option (Bool):=Cw a some
def jb (e:Val ae) (f:Int) (g:Val ae) (a:Int) (b:Int→Option ρ) (c:Int→Option ρ) (h:Unit→Option ρ):Option ρ :=
  ifb (ilt a f) (ě e a fun d=>Ä (wy d) fun i=>ifb (!i) (c (1:Int)) (ifb (igt a 0) (ck (a-(1:Int)) fun j=>ě g j fun k=>ifb (ile d.1 k.1) (c (6:Int)) (ck (a+(1:Int)) fun l=>b l)) (ck (a+(1:Int)) fun m=>b m))) (h ())
def qv (a:Val É) (k:Int→Option ρ):Option ρ :=
  Ë (fun(b:Int) c=>jb a.2.1 (Û a.2.1) a.2.1 b (fun d=>c d) (fun e=>k e) (fun _=>k (0:Int))) (0:Int)
def Α (a:Val É):Option (Int):=qv a some
def nl (d:Val ae) (e:Int) (a:Int) (b:Val am) (f:Int→Val am→Option ρ) (g:Val am→Option ρ):Option ρ :=
  ifb (ilt a e) (ě d a fun c=>ck (a+(1:Int)) fun h=>f h (Kx (k:=tI) (v:=Ö) c.1 c b)) (g b)
def Ct (a:Val É) (k:Val am→Option ρ):Option ρ :=
  Ë (fun(b:(Val (.pair tI am))) c=>nl a.2.1 (Û a.2.1) b.1 b.2 (fun d e=>c (d,e)) (fun f=>k f)) ((0:Int),[])
def Ń (a:Val É):Option ((Val am)):=Ct a some
def sZ (a:Val am) (b:Int) (c:Int) (k:Int→Option ρ):Option ρ :=
  NK (k:=tI) (v:=Ö) b a (fun d=>ifb (ilt c d.2.1) (k (4:Int)) (k (0:Int))) (k (5:Int))
def iV (a:Val am) (b:Int) (c:Int):Option (Int):=sZ a b c some
def Cv (b:Int) (a:Int) (c:(Val (.ptr am))) (k:Int→Option ρ):Option ρ :=
  Ä (lT a) fun d=>ifb (!d) (k (1:Int)) (Ä (iV c b a) fun e=>k e)
def ń (a:Int) (b:Int) (c:(Val (.ptr am))):Option (Int):=Cv a b c some
def kB (d:Val af) (e:Int) (f:Int) (g:Int) (h:Int) (a:Int) (b:Int→Option ρ) (i:Int→Option ρ) (j:Unit→Option ρ):Option ρ :=
  ifb (ilt a e) (ě d a fun c=>ifb (ieq c.1 f) (ifb (ile c.2.1.1 h) (ifb (ile g c.2.1.2) (i a) (ck (a+(1:Int)) fun k=>b k)) (ck (a+(1:Int)) fun l=>b l)) (ck (a+(1:Int)) fun m=>b m)) (j ())
def Κ (d:Val ab) (e:Int) (f:Int) (g:Int) (h:Int) (a:Int) (b:Int→Option ρ) (i:Int→Option ρ) (j:Unit→Option ρ):Option ρ :=
  ifb (ilt a e) (ě d a fun c=>ifb (ieq c.1 f) (Ä (ę c.2 g h) fun k=>ifb k (i a) (ck (a+(1:Int)) fun l=>b l)) (ck (a+(1:Int)) fun m=>b m)) (j ())
def wg (b:Val É) (e:Val am) (c:Int) (k:Int→Option ρ):Option ρ :=
  ě b.2.2.2.1 c fun a=>Ä (Λ a.2.1 (0:Int) (20000:Int)) fun f=>ifb (!f) (k (1:Int)) (Ä (ę a.2.2 (0:Int) (1048576:Int)) fun g=>ifb (!g) (k (1:Int)) (Ä (iV e a.1 a.2.1.1) fun d=>ifb (ine d 0) (k d) (ä ((ile 0 c)&&(ile c (î b.2.2.2.1))) (Ë (fun(h:Int) i=>kB (List.take (Int.toNat c) b.2.2.2.1) (Û (List.take (Int.toNat c) b.2.2.2.1)) a.1 a.2.1.1 a.2.1.2 h (fun j=>i j) (fun l=>ifb (ige l 0) (k (9:Int)) (Ë (fun(m:Int) n=>Κ b.2.2.1 (Û b.2.2.1) a.1 a.2.1.1 a.2.1.2 m (fun o=>n o) (fun p=>ifb (ige p 0) (k (9:Int)) (k (0:Int))) (fun _=>k (0:Int))) (0:Int))) (fun _=>Ë (fun(q:Int) r=>Κ b.2.2.1 (Û b.2.2.1) a.1 a.2.1.1 a.2.1.2 q (fun s=>r s) (fun t=>ifb (ige t 0) (k (9:Int)) (k (0:Int))) (fun _=>k (0:Int))) (0:Int))) (0:Int)))))
def Φ (a:Val É) (b:Val am) (c:Int):Option (Int):=wg a b c some
def vZ (c:Int) (d:Val aa) (b:Val aa) (a:Int) (e:Int→Option ρ) (f:Int→Option ρ) (g:Unit→Option ρ):Option ρ :=
  ifb (ilt a c) (ä ((ile 0 a)&&(ilt a (î b))) (ĸ b (Int.toNat a) fun h=>Ä (Ü d h) fun i=>ifb i (f a) (ck (a+(1:Int)) fun j=>e j))) (g ())
def kK (f:Val aa) (b:Int) (c:Int) (a:Val aa) (d:Int→Int→Val aa→Option ρ) (g:Val ŋ→Option ρ):Option ρ :=
  ifb (ilt c (Û a)) (ä ((ile 0 c)&&(ilt c (î a))) (ĸ a (Int.toNat c) fun e=>Ä (Ü f e) fun h=>ifb (!h) (ä ((ile 0 b)&&(ilt b (î a))) (ĸ a (Int.toNat b) fun l=>ck (b+(1:Int)) fun i=>ck (c+(1:Int)) fun j=>d i j (List.set a (Int.toNat b) e))) (ck (c+(1:Int)) fun k=>d b k a))) (g (b,a))
def SK (b:Val aa) (e:Val aa) (k:Val aa→Option ρ):Option ρ :=
  ä (ê (List.length b)) (Ë (fun(f:Int) g=>vZ (Û b) e b f (fun h=>g h) (fun c=>ifb (ieq c (-1:Int)) (k b) (ck (c+(1:Int)) fun i=>Ë (fun(d:Val aS) j=>kK e d.1 d.2.1 d.2.2 (fun l m n=>j (l,m,n)) (fun a=>ä ((ile 0 a.1)&&(ile a.1 (î a.2))) (ä ((ile 0 a.1)&&(ile a.1 (î (List.take (Int.toNat a.1) a.2++List.replicate (List.length a.2-(Int.toNat a.1)) (0:Int)++List.drop ((Int.toNat a.1)+(List.length a.2-(Int.toNat a.1))) a.2)))) (k (List.take (Int.toNat a.1) (List.drop 0 (List.take (Int.toNat a.1) a.2++List.replicate (List.length a.2-(Int.toNat a.1)) (0:Int)++List.drop ((Int.toNat a.1)+(List.length a.2-(Int.toNat a.1))) a.2))))))) (c,i,b))) (fun _=>k b)) (0:Int))
def Ů (a:Val aa) (b:Val aa):Option ((Val aa)):=SK a b some
def pl (e:Val aa) (f:Val aa) (g:Int) (a:Int) (b:Int→Option ρ) (c:Bool→Option ρ) (h:Unit→Option ρ):Option ρ :=
  ifb (ilt a g) (ě f a fun d=>Ä (ę d (1:Int) (1099511627776:Int)) fun i=>ifb (!i) (c false) (ifb (igt a 0) (ck (a-(1:Int)) fun j=>ě e j fun k=>ifb (ile d k) (c false) (ck (a+(1:Int)) fun l=>b l)) (ck (a+(1:Int)) fun m=>b m))) (h ())
def GS (a:Val aa) (k:Bool→Option ρ):Option ρ :=
  Ë (fun(b:Int) c=>pl a a (Û a) b (fun d=>c d) (fun e=>k e) (fun _=>k (ile (Û a) 6))) (0:Int)
def mY (a:Val aa):Option (Bool):=GS a some
def wi (d:Val af) (e:Int) (f:Int) (g:Int) (a:Int) (c:Int→Option ρ) (h:Int→Option ρ) (i:Unit→Option ρ):Option ρ :=
  ifb (ilt a e) (ě d a fun b=>ifb (ieq b.1 f) (Ä (ę g b.2.1.1 b.2.1.2) fun j=>ifb j (h a) (ck (a+(1:Int)) fun k=>c k)) (ck (a+(1:Int)) fun l=>c l)) (i ())
def SW (a:Val É) (c:Int) (d:Int) (k:(Val (.pair iy .bool))→Option ρ):Option ρ :=
  Ë (fun(e:Int) f=>wi a.2.2.2.1 (Û a.2.2.2.1) c d e (fun g=>f g) (fun b=>ifb (ilt b 0) (k (((0:Int),((0:Int),(0:Int)),(0:Int)),false)) (ě a.2.2.2.1 b fun h=>k (h,true))) (fun _=>k (((0:Int),((0:Int),(0:Int)),(0:Int)),false))) (0:Int)
def wz (a:Val É) (b:Int) (c:Int):Option ((Val (.pair iy .bool))):=SW a b c some
def iK (b:Val ac) (c:Int) (d:Int) (a:Int) (e:Int→Option ρ) (f:Int→Option ρ) (g:Unit→Option ρ):Option ρ :=
  ifb (ilt a c) (ě b a fun h=>ifb (ieq h.1 d) (f a) (ck (a+(1:Int)) fun i=>e i)) (g ())
def iJ (c:Val am) (b:Int) (d:Val aa) (e:Int) (f:Int) (a:Int) (g:Int→Option ρ) (h:Int→Option ρ) (i:Unit→Option ρ):Option ρ :=
  ifb (ilt a e) (ě d a fun j=>Ä (iV c j f) fun k=>ifb (ieq k b) (h b) (ck (a+(1:Int)) fun l=>g l)) (i ())
def œ (d:Val am) (b:Val aa) (e:Int) (f:Int) (c:Val aa) (a:Int) (g:Int→Option ρ) (h:Int→Option ρ) (i:Unit→Option ρ):Option ρ :=
  ifb (ilt a e) (ä ((ile 0 a)&&(ilt a (î c))) (ĸ c (Int.toNat a) fun j=>Ë (fun(k:Int) l=>iJ d j b (Û b) f k (fun m=>l m) (fun n=>h n) (fun _=>ck (a+(1:Int)) fun o=>g o)) (0:Int))) (i ())
def Œ (b:Val aa) (c:Int) (d:Int) (e:Int) (f:Val ae) (g:Val ab) (h:Val af) (i:Val ac) (j:Val ab) (k:Int) (a:Int) (l:Int→Option ρ) (m:Int→Option ρ) (n:Unit→Option ρ):Option ρ :=
  ifb (ilt a c) (ě b a fun o=>Ä (wz ((d,e),f,g,h,i,j) o k) fun p=>ifb p.2 (m (9:Int)) (ck (a+(1:Int)) fun q=>l q)) (n ())
def oJ (b:Val É) (f:Val am) (c:Int) (k:Int→Option ρ):Option ρ :=
  ě b.2.2.2.2.1 c fun a=>Ä (ę a.1 (1:Int) (1099511627776:Int)) fun l=>ifb (!l) (k (1:Int)) (Ä (lT a.2.1) fun m=>ifb (!m) (k (1:Int)) (Ä (ę a.2.2.2.2.1 (-1125899906842624:Int) (1125899906842624:Int)) fun n=>ifb (!n) (k (1:Int)) (Ä (ę a.2.2.2.2.2.1 (0:Int) (1073741824:Int)) fun o=>ifb (!o) (k (1:Int)) (Ä (Λ a.2.2.2.2.2.2 (-10000:Int) (10000:Int)) fun p=>ifb (!p) (k (1:Int)) (Ä (mY a.2.2.1) fun q=>ifb (!q) (k (1:Int)) (Ä (mY a.2.2.2.1) fun r=>ifb (!r) (k (1:Int)) (ä ((ile 0 c)&&(ile c (î b.2.2.2.2.1))) (Ë (fun(s:Int) t=>iK (List.take (Int.toNat c) b.2.2.2.2.1) (Û (List.take (Int.toNat c) b.2.2.2.2.1)) a.1 s (fun u=>t u) (fun v=>ifb (ige v 0) (k (6:Int)) (Ä (Ī ([a.2.2.1,a.2.2.2.1])) fun d=>Ë (fun(w:Int) x=>œ f d (Û ([(5:Int),(4:Int)])) a.2.1 ([(5:Int),(4:Int)]) w (fun y=>x y) (fun z=>k z) (fun _=>Ë (fun(A:Int) B=>Œ d (Û d) b.1.1 b.1.2 b.2.1 b.2.2.1 b.2.2.2.1 b.2.2.2.2.1 b.2.2.2.2.2 a.2.1 A (fun C=>B C) (fun D=>k D) (fun _=>Ä (Ů a.2.2.1 a.2.2.2.1) fun g=>Ä (Ů a.2.2.2.1 a.2.2.1) fun h=>ifb (igt (Û g) 1) (k (1:Int)) (ifb (igt (Û h) 1) (k (1:Int)) (ck ((Û g)+(Û h)) fun E=>ifb (ieq E 0) (k (1:Int)) (k (0:Int)))))) (0:Int))) (0:Int))) (fun _=>Ä (Ī ([a.2.2.1,a.2.2.2.1])) fun e=>Ë (fun(F:Int) G=>œ f e (Û ([(5:Int),(4:Int)])) a.2.1 ([(5:Int),(4:Int)]) F (fun H=>G H) (fun I=>k I) (fun _=>Ë (fun(J:Int) K=>Œ e (Û e) b.1.1 b.1.2 b.2.1 b.2.2.1 b.2.2.2.1 b.2.2.2.2.1 b.2.2.2.2.2 a.2.1 J (fun L=>K L) (fun M=>k M) (fun _=>Ä (Ů a.2.2.1 a.2.2.2.1) fun i=>Ä (Ů a.2.2.2.1 a.2.2.1) fun j=>ifb (igt (Û i) 1) (k (1:Int)) (ifb (igt (Û j) 1) (k (1:Int)) (ck ((Û i)+(Û j)) fun N=>ifb (ieq N 0) (k (1:Int)) (k (0:Int)))))) (0:Int))) (0:Int))) (0:Int)))))))))
def ŏ (a:Val É) (b:Val am) (c:Int):Option (Int):=oJ a b c some
def ot (b:Val É) (s:Val am):Option (List Int) :=
  Ä (KD (fun u=>ń u.1 u.2 s) (b.2.2.1:List (Int×Int))) fun a=>Ä (KD (fun i=>Φ b s i) (xu (b.2.2.2.1:List (Val iy)).length)) fun c =>
    Ä (KD (fun i=>ŏ b s i) (xu (b.2.2.2.2.1:List (Val Ù)).length)) fun d=>Ä (KD (fun u=>ń u.1 u.2 s) (b.2.2.2.2.2:List (Int×Int))) fun e=>some (a++(c++(d++e)))
def My (a:Val É) (k:Int→Option ρ):Option ρ :=
  Ä (Λ a.1 (0:Int) (1000000:Int)) fun d=>ifb (!d) (k (1:Int)) (ifb (igt (Û a.2.1) 12) (k (2:Int)) (ifb (igt (Û a.2.2.1) 40) (k (2:Int)) (ifb (igt (Û a.2.2.2.1) 12) (k (2:Int)) (ifb (igt (Û a.2.2.2.2.1) 40) (k (2:Int)) (ifb (igt (Û a.2.2.2.2.2) 10) (k (2:Int)) (Ä (Α a) fun b=>ifb (ine b 0) (k b) (Ä (Ń a) fun e=>UG (ot a e) (fun f=>k f) (Ä (ox a) fun c=>ifb (igt (Û c) 59) (k (2:Int)) (ck ((2:Int)*(Û a.2.1)) fun g=>ck ((Û c)-(Û a.2.1)) fun h=>ck ((2:Int)*h) fun i=>ck (g+i) fun j=>ck ((2:Int)*(Û a.2.2.2.2.1)) fun l=>ck (j+l) fun m=>ifb (igt m 300) (k (2:Int)) (k (0:Int)))))))))))
def ĕ (a:Val É):Option (Int):=My a some
def E8 (a:List Int):Option (Int×Int×Int×Int×Int):=some (a.getD 0 0,a.getD 1 0,a.getD 2 0,a.getD 3 0,a.getD 4 0)
def o8 (b:Val ac) (a:Int) (e:Int→Option ρ) (c:Bool→Option ρ) (d:Unit→Option ρ):Option ρ :=
  ifb (ilt a (Û b)) (ifb (ilt a 60) (ě b a fun f=>ifb (igt (Û f.2.2.1) 9) (c false) (ě b a fun g=>ifb (igt (Û g.2.2.2.1) 9) (c false) (ck (a+(1:Int)) fun h=>e h))) (d ())) (d ())
def ln (b:Val ai) (a:Int) (d:Int→Option ρ) (e:Bool→Option ρ) (c:Unit→Option ρ):Option ρ :=
  ifb (ilt a (Û b)) (ifb (ilt a 8) (ě b a fun f=>ifb (igt (Û f.2) 9) (e false) (ck (a+(1:Int)) fun g=>d g)) (c ())) (c ())
def Gb (a:Val Â) (k:Bool→Option ρ):Option ρ :=
  Ë (fun(b:Int) c=>o8 a.1.2.2.2.2.1 b (fun d=>c d) (fun e=>k e) (fun _=>Ë (fun(f:Int) g=>ln a.2 f (fun h=>g h) (fun i=>k i) (fun _=>ifb (ile (Û a.1.2.1) 6) (ifb (ile (Û a.1.2.2.1) 20) (ifb (ile (Û a.1.2.2.2.1) 6) (ifb (ile (Û a.1.2.2.2.2.1) 8) (ifb (ile (Û a.1.2.2.2.2.2) 6) (k (ile (Û a.2) 6)) (k false)) (k false)) (k false)) (k false)) (k false))) (0:Int))) (0:Int)
def zN (a:Val Â):Option (Bool):=Gb a some
def sk (b:Val aa) (c:Int) (a:Int) (d:Int→Option ρ) (e:Int→Option ρ) (f:Unit→Option ρ):Option ρ :=
  ifb (ilt a c) (ě b a fun g=>Ä (lT g) fun h=>ifb (!h) (e a) (ck (a+(1:Int)) fun i=>d i)) (f ())
def Mn (a:Val É) (b:Int) (c:Val aa) (k:Int→Option ρ):Option ρ :=
  Ä (ĕ a) fun d=>ifb (ine d 0) (k d) (Ë (fun(e:Int) f=>sk c (Û c) e (fun g=>f g) (fun h=>ifb (ige h 0) (k (1:Int)) (Ä (Ń a) fun i=>NK (k:=tI) (v:=Ö) b i (fun l=>k (0:Int)) (k (5:Int)))) (fun _=>Ä (Ń a) fun j=>NK (k:=tI) (v:=Ö) b j (fun m=>k (0:Int)) (k (5:Int)))) (0:Int))
def Fq (a:Val É) (b:Int) (c:Val aa):Option (Int):=Mn a b c some
def Te (a:Val É) (b:Int) (c:Int) (k:Val aG→Option ρ):Option ρ :=
  Ä (Fq a b ([c])) fun d=>ifb (ine d 0) (k (false,d)) (Ä (wz a b c) fun e=>k (e.2,(0:Int)))
def zU (a:Val É) (b:Int) (c:Int):Option ((Val aG)):=Te a b c some
def nM (b:Val aa) (a:Int) (c:Int→Option ρ) (d:Int→Option ρ) (e:Unit→Option ρ):Option ρ :=
  ifb (ilt a (Û b)) (ě b a fun f=>ck (a-(1:Int)) fun g=>ě b g fun h=>ifb (ile f h) (d (1:Int)) (ck (a+(1:Int)) fun i=>c i)) (e ())
def nJ (d:Val ae) (e:Int) (a:Int) (b:Val aZ) (f:Int→Val aZ→Option ρ) (g:Val aZ→Option ρ):Option ρ :=
  ifb (ilt a e) (ě d a fun c=>ck (a+(1:Int)) fun h=>f h (Kx (k:=tI) (v:=tI) c.1 c.2.1 b)) (g b)
def nI (b:Val aa) (c:Int) (d:Val aZ) (a:Int) (e:Int→Option ρ) (f:Int→Option ρ) (g:Unit→Option ρ):Option ρ :=
  ifb (ilt a c) (ě b a fun h=>NK (k:=tI) (v:=tI) h d (fun j=>ck (a+(1:Int)) fun i=>e i) (f a)) (g ())
def kQ (e:Val aa) (f:Int) (b:Int) (g:Val aZ) (a:Int) (c:Int→Option ρ) (d:Int→Option ρ) (h:Unit→Option ρ):Option ρ :=
  ifb (ilt a f) (ě e a fun i=>NK (k:=tI) (v:=tI) i g (fun j=>ifb (ilt b j) (d a) (ck (a+(1:Int)) fun l=>c l)) (ifb (ilt b 0) (d a) (ck (a+(1:Int)) fun m=>c m))) (h ())
def Ō (l:Val aa) (m:Int) (b:Int) (c:Int) (d:Val ae) (e:Val ab) (f:Val af) (g:Val ac) (h:Val ab) (i:Int) (a:Int) (n:Int→Option ρ) (j:Int→Option ρ) (o:Unit→Option ρ):Option ρ :=
  ifb (ilt a m) (ě l a fun k=>Ä (zU ((b,c),d,e,f,g,h) k i) fun p=>ck (i+(1:Int)) fun q=>Ä (zU ((b,c),d,e,f,g,h) k q) fun r=>ifb p.1 (j a) (ifb r.1 (j a) (ck (a+(1:Int)) fun s=>n s))) (o ())
def K9 (a:Val É) (d:Val ai) (c:Int) (k:Int→Option ρ):Option ρ :=
  ě d c fun b=>ifb (ilt b.1 0) (k (1:Int)) (ifb (ige b.1 20000) (k (1:Int)) (ifb (ilt (Û b.2) 2) (k (1:Int)) (ifb (igt (Û b.2) 5) (k (1:Int)) (Ë (fun(g:Int) h=>nM b.2 g (fun i=>h i) (fun j=>k j) (fun _=>Ë (fun(f:(Val (.pair tI aZ))) l=>nJ a.2.1 (Û a.2.1) f.1 f.2 (fun m n=>l (m,n)) (fun e=>Ë (fun(o:Int) p=>nI b.2 (Û b.2) e o (fun q=>p q) (fun r=>ifb (ige r 0) (k (5:Int)) (Ë (fun(s:Int) t=>kQ b.2 (Û b.2) b.1 e s (fun u=>t u) (fun v=>ifb (ige v 0) (k (4:Int)) (ifb (igt c 0) (ck (c-(1:Int)) fun w=>ě d w fun x=>ifb (ile b.1 x.1) (k (6:Int)) (Ë (fun(y:Int) z=>Ō b.2 (Û b.2) a.1.1 a.1.2 a.2.1 a.2.2.1 a.2.2.2.1 a.2.2.2.2.1 a.2.2.2.2.2 b.1 y (fun A=>z A) (fun B=>ifb (ige B 0) (k (9:Int)) (k (0:Int))) (fun _=>k (0:Int))) (0:Int))) (Ë (fun(C:Int) D=>Ō b.2 (Û b.2) a.1.1 a.1.2 a.2.1 a.2.2.1 a.2.2.2.1 a.2.2.2.2.1 a.2.2.2.2.2 b.1 C (fun E=>D E) (fun F=>ifb (ige F 0) (k (9:Int)) (k (0:Int))) (fun _=>k (0:Int))) (0:Int)))) (fun _=>ifb (igt c 0) (ck (c-(1:Int)) fun G=>ě d G fun H=>ifb (ile b.1 H.1) (k (6:Int)) (Ë (fun(I:Int) J=>Ō b.2 (Û b.2) a.1.1 a.1.2 a.2.1 a.2.2.1 a.2.2.2.1 a.2.2.2.2.1 a.2.2.2.2.2 b.1 I (fun K=>J K) (fun L=>ifb (ige L 0) (k (9:Int)) (k (0:Int))) (fun _=>k (0:Int))) (0:Int))) (Ë (fun(M:Int) N=>Ō b.2 (Û b.2) a.1.1 a.1.2 a.2.1 a.2.2.1 a.2.2.2.1 a.2.2.2.2.1 a.2.2.2.2.2 b.1 M (fun O=>N O) (fun P=>ifb (ige P 0) (k (9:Int)) (k (0:Int))) (fun _=>k (0:Int))) (0:Int)))) (0:Int))) (fun _=>Ë (fun(Q:Int) R=>kQ b.2 (Û b.2) b.1 e Q (fun S=>R S) (fun T=>ifb (ige T 0) (k (4:Int)) (ifb (igt c 0) (ck (c-(1:Int)) fun U=>ě d U fun V=>ifb (ile b.1 V.1) (k (6:Int)) (Ë (fun(W:Int) X=>Ō b.2 (Û b.2) a.1.1 a.1.2 a.2.1 a.2.2.1 a.2.2.2.1 a.2.2.2.2.1 a.2.2.2.2.2 b.1 W (fun Y=>X Y) (fun Z=>ifb (ige Z 0) (k (9:Int)) (k (0:Int))) (fun _=>k (0:Int))) (0:Int))) (Ë (fun(dc:Int) df=>Ō b.2 (Û b.2) a.1.1 a.1.2 a.2.1 a.2.2.1 a.2.2.2.1 a.2.2.2.2.1 a.2.2.2.2.2 b.1 dc (fun dg=>df dg) (fun dh=>ifb (ige dh 0) (k (9:Int)) (k (0:Int))) (fun _=>k (0:Int))) (0:Int)))) (fun _=>ifb (igt c 0) (ck (c-(1:Int)) fun di=>ě d di fun dj=>ifb (ile b.1 dj.1) (k (6:Int)) (Ë (fun(dk:Int) dl=>Ō b.2 (Û b.2) a.1.1 a.1.2 a.2.1 a.2.2.1 a.2.2.2.1 a.2.2.2.2.1 a.2.2.2.2.2 b.1 dk (fun dm=>dl dm) (fun dt=>ifb (ige dt 0) (k (9:Int)) (k (0:Int))) (fun _=>k (0:Int))) (0:Int))) (Ë (fun(du:Int) dv=>Ō b.2 (Û b.2) a.1.1 a.1.2 a.2.1 a.2.2.1 a.2.2.2.1 a.2.2.2.2.1 a.2.2.2.2.2 b.1 du (fun dw=>dv dw) (fun dz=>ifb (ige dz 0) (k (9:Int)) (k (0:Int))) (fun _=>k (0:Int))) (0:Int)))) (0:Int))) (0:Int))) ((0:Int),[]))) (1:Int)))))
def Fc (a:Val É) (b:Val ai) (c:Int):Option (Int):=K9 a b c some
def nN (c:Int) (b:Int) (a:Int) (d:Int→Int→Option ρ) (e:Int→Option ρ):Option ρ :=
  ifb (ilt a c) (ck (a+(1:Int)) fun f=>ck (b*f) fun g=>ck (a+(1:Int)) fun h=>d g h) (e b)
def rU (e:Val ai) (f:Int) (g:Int) (h:Int) (i:Val ae) (j:Val ab) (k:Val af) (l:Val ac) (m:Val ab) (n:Val ai) (b:Int) (a:Int) (o:Int→Int→Option ρ) (p:Int→Option ρ) (q:Int→Option ρ):Option ρ :=
  ifb (ilt a f) (ě e a fun r=>Ä (Fc ((g,h),i,j,k,l,m) n a) fun c=>ifb (ine c 0) (p c) (Ë (fun(d:Val Ã) s=>nN (Û r.2) d.1 d.2 (fun t u=>s (t,u)) (fun v=>ck (a+(1:Int)) fun w=>o v w)) (b,(0:Int)))) (q b)
def Lt (a:Val Â) (k:Int→Option ρ):Option ρ :=
  Ä (ĕ a.1) fun b=>ifb (ine b 0) (k b) (ifb (igt (Û a.2) 4) (k (2:Int)) (Ë (fun(c:Val Ã) d=>rU a.2 (Û a.2) a.1.1.1 a.1.1.2 a.1.2.1 a.1.2.2.1 a.1.2.2.2.1 a.1.2.2.2.2.1 a.1.2.2.2.2.2 a.2 c.1 c.2 (fun e f=>d (e,f)) (fun g=>k g) (fun h=>ifb (igt h 150) (k (2:Int)) (k (0:Int)))) ((1:Int),(0:Int))))
def ir (a:Val Â):Option (Int):=Lt a some
def Ĩ (c:Val ab) (d:Int) (e:Int) (f:Int) (a:Int) (g:Int→Option ρ) (h:Int→Option ρ) (i:Unit→Option ρ):Option ρ :=
  ifb (ilt a d) (ě c a fun b=>ifb ((xc e b.1)&&((xc f b.2)&&true)) (h a) (ck (a+(1:Int)) fun j=>g j)) (i ())
def ż (a:Val ab) (b:Val Ã) (k:Int→Option ρ):Option ρ :=
  Ë (fun(c:Int) d=>Ĩ a (Û a) b.1 b.2 c (fun e=>d e) (fun f=>k f) (fun _=>k (-1:Int))) (0:Int)
def ó (a:Val ab) (b:Val Ã):Option (Int):=ż a b some
def yM (b:Val aD) (a:Val aa) (c:Int) (k:Int→Option ρ):Option ρ :=
  ifb (ieq (Û a) 0) (k (0:Int)) (ě a (0:Int) fun d=>Ä (ó b.2.1 (d,c)) fun e=>ck (e+(1:Int)) fun f=>k f)
def iA (a:Val aD) (b:Val aa) (c:Int):Option (Int):=yM a b c some
def vY (f:Int) (g:Int) (h:Val af) (i:Int) (j:Int) (b:Int) (a:Int) (d:Int→Int→Option ρ) (k:Int→Option ρ):Option ρ :=
  ifb (ilt a i) (ě h a fun c=>ck (g-(1:Int)) fun l=>ck ((aaR c.2.1.2 l)-(Zc c.2.1.1 f)) fun m=>ck (m+1) fun e=>ifb (ieq c.1 j) (ifb (igt e 0) (ck (e*c.2.2) fun n=>ck (b+n) fun o=>ck (a+(1:Int)) fun p=>d o p) (ck (a+(1:Int)) fun q=>d b q)) (ck (a+(1:Int)) fun r=>d b r)) (k b)
def vX (e:Int) (f:Int) (g:Val ab) (h:Int) (i:Int) (a:Int) (b:Val aa) (d:Int→Val aa→Option ρ) (j:Val aa→Option ρ):Option ρ :=
  ifb (ilt a h) (ě g a fun c=>ifb (ieq c.1 i) (ck (f-(1:Int)) fun k=>Ä (ę c.2 e k) fun l=>ifb l (ä (ê ((List.length b)+(List.length ([c.2])))) (ck (a+(1:Int)) fun m=>d m (b++([c.2])))) (ck (a+(1:Int)) fun n=>d n b)) (ck (a+(1:Int)) fun o=>d o b)) (j b)
def SI (a:Val É) (b:Val Ö) (d:Int) (e:Int) (k:Int→Option ρ):Option ρ :=
  Ë (fun(f:Val Ã) h=>vY d e a.2.2.2.1 (Û a.2.2.2.1) b.1 f.1 f.2 (fun i j=>h (i,j)) (fun l=>Ë (fun(g:Val ŋ) m=>vX d e a.2.2.1 (Û a.2.2.1) b.1 g.1 g.2 (fun n o=>m (n,o)) (fun c=>ä (ê (List.length c)) (ä (ê (List.length (xy c))) (ck ((Û (zZ (xy c)))*b.2.2.2.2.2) fun p=>ck (l+p) fun q=>k q)))) ((0:Int),[]))) ((0:Int),(0:Int))
def zT (a:Val É) (b:Val Ö) (c:Int) (d:Int):Option (Int):=SI a b c d some
def oI (b:Val am) (a:Val aa) (k:Val Ã→Option ρ):Option ρ :=
  ifb (ieq (Û a) 0) (k ((0:Int),(1:Int))) (ě a (0:Int) fun c=>NK (k:=tI) (v:=Ö) c b (fun d=>k d.2.2.2.2.1) (k ((0:Int),(0:Int))))
def iR (a:Val am) (b:Val aa):Option (Val Ã):=oI a b some
def sc (b:Val ab) (c:Int) (a:Int) (d:Int→Option ρ) (e:Int→Option ρ) (f:Unit→Option ρ):Option ρ :=
  ifb (ilt a c) (ě b a fun g=>Ä (uR g) fun h=>ifb (!h) (e (1:Int)) (ck (a+(1:Int)) fun i=>d i)) (f ())
def LP (a:Val ab) (k:Int→Option ρ):Option ρ :=
  Ë (fun(b:Int) c=>sc a (Û a) b (fun d=>c d) (fun e=>k e) (fun _=>k (0:Int))) (0:Int)
def j9 (a:Val ab):Option (Int):=LP a some
def Cp (d:Int) (e:Int) (k:Val tp→Option ρ):Option ρ :=
  Ä (sG d) fun b=>Ä (sG e) fun c=>Ä (M7 b c) fun a=>ifb (xc a 0) (none) (ifb (xc a 0) (none) (ifb (igt (IntKind.wrap .u64 (Int.tdiv b a)) 2147483647) (k (((0:Int),(0:Int)),(3:Int))) (ifb (igt (IntKind.wrap .u64 (Int.tdiv c a)) 2147483647) (k (((0:Int),(0:Int)),(3:Int))) (ifb (!((ilt d 0)==(ilt e 0))) (ck (0-(IntKind.wrap .i64 (IntKind.wrap .u64 (Int.tdiv b a)))) fun f=>k ((f,(IntKind.wrap .i64 (IntKind.wrap .u64 (Int.tdiv c a)))),(0:Int))) (k (((IntKind.wrap .i64 (IntKind.wrap .u64 (Int.tdiv b a))),(IntKind.wrap .i64 (IntKind.wrap .u64 (Int.tdiv c a)))),(0:Int)))))))
def qB (a:Int) (b:Int):Option (Val tp):=Cp a b some
def YP (a:Val Ã) (b:Val Ã) (k:Val tp→Option ρ):Option ρ :=
  Ä (j9 ([a,b])) fun c=>ifb (ine c 0) (k (((0:Int),(0:Int)),c)) (ck (a.1*b.2) fun e=>ck (b.1*a.2) fun f=>ck (e-f) fun g=>ck (a.2*b.2) fun h=>Ä (qB g h) fun d=>k (d.1,d.2))
def TA (a:Val Ã) (b:Val Ã):Option (Val tp):=YP a b some
def vR (a:Val Ã) (b:Val Ã) (k:Val Ã→Option ρ):Option ρ :=
  Ä (TA a b) fun c=>k c.1
def wx (a:Val Ã) (b:Val Ã):Option (Val Ã):=vR a b some
def YM (a:Val Ã) (b:Val Ã) (k:Int→Option ρ):Option ρ :=
  ck (a.1*b.2) fun c=>ck (b.1*a.2) fun d=>ifb ((xc a.1 b.1)&&((xc a.2 b.2)&&true)) (k (0:Int)) (ifb (ilt c d) (k (-1:Int)) (ifb (igt c d) (k (1:Int)) (k (0:Int))))
def M8 (a:Val Ã) (b:Val Ã):Option (Int):=YM a b some
def sY (a:Val Ě) (k:Bool→Option ρ):Option ρ :=
  Ä (j9 ([a.1,a.2])) fun b=>ifb (ieq b 0) (Ä (M8 a.1 a.2) fun c=>k (ile c 0)) (k false)
def tg (a:Val Ě):Option (Bool):=sY a some
def YS (a:Val Ã) (b:Val Ã) (k:Val tp→Option ρ):Option ρ :=
  Ä (j9 ([a,b])) fun c=>ifb (ine c 0) (k (((0:Int),(0:Int)),c)) (ck (a.1*b.1) fun e=>ck (a.2*b.2) fun f=>Ä (qB e f) fun d=>k (d.1,d.2))
def Na (a:Val Ã) (b:Val Ã):Option (Val tp):=YS a b some
def LY (c:Val Ě) (d:Val Ã) (k:Val adk→Option ρ):Option ρ :=
  Ä (tg c) fun e=>ifb (!e) (k ((((0:Int),(0:Int)),(0:Int),(0:Int)),(1:Int))) (Ä (uR d) fun f=>ifb (!f) (k ((((0:Int),(0:Int)),(0:Int),(0:Int)),(1:Int))) (Ä (Na d c.1) fun a=>ifb (ine a.2 0) (k ((((0:Int),(0:Int)),(0:Int),(0:Int)),a.2)) (Ä (Na d c.2) fun b=>ifb (ine b.2 0) (k ((((0:Int),(0:Int)),(0:Int),(0:Int)),b.2)) (Ä (M8 a.1 b.1) fun g=>ifb (igt g 0) (k ((b.1,a.1),(0:Int))) (k ((a.1,b.1),(0:Int)))))))
def M9 (a:Val Ě) (b:Val Ã):Option (Val adk):=LY a b some
def vQ (b:Val Ã) (a:Val Ã) (k:Val Ě→Option ρ):Option ρ :=
  Ä (M9 ((a.1,(1:Int)),a.2,(1:Int)) b) fun c=>k c.1
def pq (a:Val Ã) (b:Val Ã):Option (Val Ě):=vQ a b some
def GV (c:Val É) (a:Val Ù) (k:Val Ě→Option ρ):Option ρ :=
  Ä (Ń c) fun b=>Ä (Ů a.2.2.1 a.2.2.2.1) fun d=>Ä (iR b d) fun e=>Ä (Ů a.2.2.2.1 a.2.2.1) fun f=>Ä (iR b f) fun g=>Ä (wx e g) fun h=>Ä (pq h a.2.2.2.2.2.2) fun i=>k i
def pL (a:Val É) (b:Val Ù):Option (Val Ě):=GV a b some
def Ml (a:Val É) (b:Val Ù) (k:Val Ã→Option ρ):Option ρ :=
  ck ((Û b.2.2.1)-(1:Int)) fun c=>ck ((Û b.2.2.2.1)-(1:Int)) fun d=>ck ((Zc (0:Int) c)*a.1.1) fun e=>ck ((Zc (0:Int) d)*a.1.2) fun f=>ck (e-f) fun g=>ck ((Zc (0:Int) c)*a.1.2) fun h=>ck ((Zc (0:Int) d)*a.1.1) fun i=>ck (h-i) fun j=>k (g,j)
def uS (a:Val É) (b:Val Ù):Option (Val Ã):=Ml a b some
def LV (b:Int) (a:Int) (k:Int→Option ρ):Option ρ :=
  ifb (xc a 0) (none) (ck (Int.tdiv b a) fun c=>ifb (xc a 0) (none) (ifb (ilt (Int.tmod b a) 0) (ck (c-1) fun d=>k d) (k c)))
def yX (a:Int) (b:Int):Option (Int):=LV a b some
def Sw (a:Val Ã) (k:Val Ã→Option ρ):Option ρ :=
  Ä (j9 ([a])) fun b=>ifb (ine b 0) (k ((0:Int),b)) (ck (0-a.1) fun c=>Ä (yX c a.2) fun d=>ck (0-d) fun e=>k (e,(0:Int)))
def Fm (a:Val Ã):Option (Val Ã):=Sw a some
def L1 (a:Val Ã) (k:Val Ã→Option ρ):Option ρ :=
  Ä (j9 ([a])) fun b=>ifb (ine b 0) (k ((0:Int),b)) (Ä (yX a.1 a.2) fun c=>k (c,(0:Int)))
def yY (a:Val Ã):Option (Val Ã):=L1 a some
def SE (b:Val É) (a:Val Ù) (k:Val Ã→Option ρ):Option ρ :=
  Ä (pL b a) fun c=>Ä (uS b a) fun d=>Ä (yY c.2) fun e=>Ä (Fm c.1) fun f=>ck (a.2.2.2.2.1-a.2.2.2.2.2.1) fun g=>ck (g-d.2) fun h=>ck (h-e.1) fun i=>ck (a.2.2.2.2.1+a.2.2.2.2.2.1) fun j=>ck (j-d.1) fun l=>ck (l-f.1) fun m=>k (i,m)
def zR (a:Val É) (b:Val Ù):Option (Val Ã):=SE a b some
def vV (b:Int) (e:Val aa) (h:Int) (j:Int) (k:Int) (l:Val ae) (m:Val ab) (n:Val af) (o:Val ac) (p:Val ab) (q:Int) (r:Int) (s:Int) (t:Int) (u:Int) (v:Int) (w:Int) (x:Int) (a:Int) (f:Val ak) (g:Val ab) (y:Int→Val ak→Val ab→Option ρ) (z:Val C1→Option ρ):Option ρ :=
  ifb (ilt a (Û e)) (ck (h+a) fun A=>ck (A-1) fun c=>ck (h+a) fun d=>ck (a-(1:Int)) fun B=>ě e B fun C=>ě e a fun D=>Ä (zT ((j,k),l,m,n,o,p) (q,r,s,(t,u),(v,w),x) C D) fun E=>ck (0-E) fun F=>ck (0-F) fun i=>ä (ê ((List.length f)+(List.length ([(c,d,(0:Int)),(d,c,i)])))) (ä (ê ((List.length g)+(List.length ([((2:Int),b),((2:Int),b)])))) (ck (a+(1:Int)) fun G=>y G (f++([(c,d,(0:Int)),(d,c,i)])) (g++([((2:Int),b),((2:Int),b)]))))) (z (f,g))
def vW (q:Val ae) (r:Int) (f:Int) (g:Int) (h:Val ae) (i:Val ab) (j:Val af) (k:Val ac) (l:Val ab) (s:Val ab) (t:Int) (b:Int) (d:Val ak) (e:Val ab) (u:Int→Val ak→Val ab→Option ρ) (v:Val C1→Option ρ):Option ρ :=
  ifb (ilt b r) (ě q b fun a=>Ä (pr ((f,g),h,i,j,k,l) a) fun w=>Ä (iA (((f,g),h,i,j,k,l),s,(t,d),e) ([a.1]) a.2.1) fun c=>ck (a.2.2.1+a.2.2.2.1.1) fun x=>ck (a.2.2.1+a.2.2.2.1.2) fun n=>ck (0-x) fun o=>ä (ê ((List.length d)+(List.length ([((0:Int),c,n),(c,(0:Int),o)])))) (ä (ê ((List.length e)+(List.length ([((1:Int),b),((1:Int),b)])))) (Ë (fun(m:(Val (.pair tI C1))) y=>vV b w c f g h i j k l a.1 a.2.1 a.2.2.1 a.2.2.2.1.1 a.2.2.2.1.2 a.2.2.2.2.1.1 a.2.2.2.2.1.2 a.2.2.2.2.2 m.1 m.2.1 m.2.2 (fun z A B=>y (z,A,B)) (fun p=>ck (b+(1:Int)) fun C=>u C p.1 p.2)) ((1:Int),(d++([((0:Int),c,n),(c,(0:Int),o)])),(e++([((1:Int),b),((1:Int),b)])))))) (v (d,e))
def vU (r:Val ac) (s:Int) (g:Int) (h:Int) (i:Val ae) (j:Val ab) (k:Val af) (l:Val ac) (m:Val ab) (o:Val ab) (p:Int) (a:Int) (c:Val ak) (d:Val ab) (t:Int→Val ak→Val ab→Option ρ) (u:Val C1→Option ρ):Option ρ :=
  ifb (ilt a s) (ě r a fun b=>Ä (Ů b.2.2.2.1 b.2.2.1) fun v=>Ä (iA (((g,h),i,j,k,l,m),o,(p,c),d) v b.2.1) fun e=>Ä (Ů b.2.2.1 b.2.2.2.1) fun w=>Ä (iA (((g,h),i,j,k,l,m),o,(p,c),d) w b.2.1) fun f=>Ä (zR ((g,h),i,j,k,l,m) b) fun n=>ck (0-n.1) fun q=>ä (ê ((List.length c)+(List.length ([(e,f,n.2),(f,e,q)])))) (ä (ê ((List.length d)+(List.length ([((3:Int),a),((3:Int),a)])))) (ck (a+(1:Int)) fun x=>t x (c++([(e,f,n.2),(f,e,q)])) (d++([((3:Int),a),((3:Int),a)]))))) (u (c,d))
def SH (a:Val É) (k:Val aD→Option ρ):Option ρ :=
  Ä (ox a) fun b=>ck ((Û b)+(1:Int)) fun c=>Ë (fun(d:(Val (.pair tI C1))) h=>vW a.2.1 (Û a.2.1) a.1.1 a.1.2 a.2.1 a.2.2.1 a.2.2.2.1 a.2.2.2.2.1 a.2.2.2.2.2 b c d.1 d.2.1 d.2.2 (fun i j l=>h (i,j,l)) (fun f=>Ë (fun(e:(Val (.pair tI C1))) m=>vU a.2.2.2.2.1 (Û a.2.2.2.2.1) a.1.1 a.1.2 a.2.1 a.2.2.1 a.2.2.2.1 a.2.2.2.2.1 a.2.2.2.2.2 b c e.1 e.2.1 e.2.2 (fun n o p=>m (n,o,p)) (fun g=>k (a,b,(c,g.1),g.2))) ((0:Int),f.1,f.2))) ((0:Int),[],[])
def zS (a:Val É):Option ((Val aD)):=SH a some
def G5 (a:Val É) (k:(Val (.pair Î aW))→Option ρ):Option ρ :=
  Ä (ĕ a) fun b=>ifb (ine b 0) (k (((0:Int),[]),[],b)) (Ä (zS a) fun c=>k (c.2.2.1,c.2.2.2,(0:Int)))
def iW (a:Val É):Option ((Val (.pair Î aW))):=G5 a some
def zy (f:Val ag) (g:Int) (d:Val ai) (b:Int) (a:Int) (c:Int→Int→Option ρ) (h:Int→Option ρ):Option ρ :=
  ifb (ige a 0) (ě f a fun i=>Ä (iu i b) fun e=>ifb (ige e 0) (ě d a fun j=>ifb (ilt j.1 g) (ě d a fun k=>ě k.2 e fun l=>ck (a-(1:Int)) fun m=>c l m) (ck (a-(1:Int)) fun n=>c b n)) (ck (a-(1:Int)) fun o=>c b o)) (h b)
def Yl (a:Val Â) (c:Val ag) (d:Int) (e:Int) (k:Int→Option ρ):Option ρ :=
  ck ((Û a.2)-(1:Int)) fun f=>Ë (fun(b:Val Ã) g=>zy c e a.2 b.1 b.2 (fun h i=>g (h,i)) (fun j=>k j)) (d,f)
def tf (a:Val Â) (b:Val ag) (c:Int) (d:Int):Option (Int):=Yl a b c d some
def ja (d:Int) (e:Val au) (f:Val aH) (g:Val aa) (h:Int) (a:Int) (b:Val aa) (i:Int→Val aa→Option ρ) (j:Val aa→Option ρ):Option ρ :=
  ifb (ilt a h) (ě g a fun k=>Ä (tf e f k d) fun c=>ä (ê ((List.length b)+(List.length ([c])))) (ck (a+(1:Int)) fun l=>i l (b++([c])))) (j b)
def pW (a:Val aa) (d:Int) (e:Val au) (f:Val aH) (k:Val aa→Option ρ):Option ρ :=
  Ë (fun(b:Val ŋ) g=>ja d e f a (Û a) b.1 b.2 (fun h i=>g (h,i)) (fun c=>ä (ê (List.length c)) (k (xy c)))) ((0:Int),[])
def jv (a:Val aa) (b:Int) (c:Val au) (d:Val aH):Option ((Val aa)):=pW a b c d some
def ku (e:Val au) (f:Val aH) (g:Val ab) (h:Int) (b:Int) (c:Val ab) (i:Int→Val ab→Option ρ) (j:Val ab→Option ρ):Option ρ :=
  ifb (ilt b h) (ě g b fun a=>Ä (tf e f a.1 a.2) fun d=>ä (ê ((List.length c)+(List.length ([(d,a.2)])))) (ck (b+(1:Int)) fun k=>i k (c++([(d,a.2)])))) (j c)
def ks (e:Val au) (f:Val aH) (g:Val af) (h:Int) (b:Int) (c:Val af) (i:Int→Val af→Option ρ) (j:Val af→Option ρ):Option ρ :=
  ifb (ilt b h) (ě g b fun a=>Ä (tf e f a.1 a.2.1.1) fun d=>ä (ê ((List.length c)+(List.length ([(d,a.2)])))) (ck (b+(1:Int)) fun k=>i k (c++([(d,a.2)])))) (j c)
def kr (d:Val au) (e:Val aH) (h:Val ac) (i:Int) (b:Int) (c:Val ac) (j:Int→Val ac→Option ρ) (k:Val ac→Option ρ):Option ρ :=
  ifb (ilt b i) (ě h b fun a=>Ä (jv a.2.2.1 a.2.1 d e) fun f=>Ä (jv a.2.2.2.1 a.2.1 d e) fun g=>ä (ê ((List.length c)+(List.length ([(a.1,a.2.1,f,g,a.2.2.2.2)])))) (ck (b+(1:Int)) fun l=>j l (c++([(a.1,a.2.1,f,g,a.2.2.2.2)])))) (k c)
def kq (e:Val au) (f:Val aH) (g:Val ab) (h:Int) (b:Int) (c:Val ab) (i:Int→Val ab→Option ρ) (j:Val ab→Option ρ):Option ρ :=
  ifb (ilt b h) (ě g b fun a=>Ä (tf e f a.1 a.2) fun d=>ä (ê ((List.length c)+(List.length ([(d,a.2)])))) (ck (b+(1:Int)) fun k=>i k (c++([(d,a.2)])))) (j c)
def vu (a:Val Â) (b:Val ag) (k:Val É→Option ρ):Option ρ :=
  ä (ê (List.length a.1.2.1)) (Ë (fun(c:Val bf) g=>ku a b a.1.2.2.1 (Û a.1.2.2.1) c.1 c.2 (fun h i=>g (h,i)) (fun j=>Ë (fun(d:(Val (.pair tI af))) l=>ks a b a.1.2.2.2.1 (Û a.1.2.2.2.1) d.1 d.2 (fun m n=>l (m,n)) (fun o=>Ë (fun(e:Val aJ) p=>kr a b a.1.2.2.2.2.1 (Û a.1.2.2.2.2.1) e.1 e.2 (fun q r=>p (q,r)) (fun s=>Ë (fun(f:Val bf) t=>kq a b a.1.2.2.2.2.2 (Û a.1.2.2.2.2.2) f.1 f.2 (fun u v=>t (u,v)) (fun w=>k (a.1.1,a.1.2.1,j,o,s,w))) ((0:Int),[]))) ((0:Int),[]))) ((0:Int),[]))) ((0:Int),[]))
def Υ (a:Val Â) (b:Val ag):Option (Val É):=vu a b some
def RU (b:Val Î) (a:Int) (k:Bool→Option ρ):Option ρ :=
  ifb (ige a 0) (k (ilt a b.1)) (k false)
def zQ (a:Val Î) (b:Int):Option (Bool):=RU a b some
def sa (f:Val ak) (g:Int) (d:Int) (e:Val ak) (a:Int) (h:Int→Option ρ) (c:Val Ã→Option ρ) (i:Unit→Option ρ):Option ρ :=
  ifb (ilt a g) (ě f a fun b=>Ä (zQ (d,e) b.1) fun j=>ifb (!j) (c ((1:Int),a)) (Ä (zQ (d,e) b.2.1) fun k=>ifb (!k) (c ((1:Int),a)) (ifb (ieq b.1 b.2.1) (c ((1:Int),a)) (ifb (ilt b.2.2 (-4503599627370496:Int)) (c ((1:Int),a)) (ifb (igt b.2.2 4503599627370496) (c ((1:Int),a)) (ck (a+(1:Int)) fun l=>h l)))))) (i ())
def LN (a:Val Î) (k:Val Ã→Option ρ):Option ρ :=
  ifb (ilt a.1 1) (k ((1:Int),(-1:Int))) (ifb (igt a.1 60) (k ((1:Int),(-1:Int))) (ifb (igt (Û a.2) 300) (k ((2:Int),(-1:Int))) (Ë (fun(c:Int) d=>sa a.2 (Û a.2) a.1 a.2 c (fun e=>d e) (fun b=>k (b.1,b.2)) (fun _=>k ((0:Int),(-1:Int)))) (0:Int))))
def ow (a:Val Î):Option (Val Ã):=LN a some
def iq (c:Val ak) (d:Int) (b:Int) (a:Int) (e:Int→Int→Option ρ) (f:Int→Option ρ):Option ρ :=
  ifb (ilt a d) (ě c a fun g=>ck (b+(aaR g.2.2 (0:Int))) fun h=>ck (a+(1:Int)) fun i=>e h i) (f b)
def Ś (f:Int) (d:Val aa) (a:Int) (b:Val ar) (c:Val aa) (e:Int→Val ar→Val aa→Option ρ) (g:Val aP→Option ρ):Option ρ :=
  ifb (ilt a f) (ä ((ile 0 a)&&(ilt a (î d))) (ĸ d (Int.toNat a) fun h=>ifb (ine h 1152921504606846976) (ä (ê ((List.length c)+(List.length ([a])))) (ä ((ile 0 a)&&(ilt a (î b))) (ĸ b (Int.toNat a) fun k=>ck (a+(1:Int)) fun i=>e i (List.set b (Int.toNat a) true) (c++([a]))))) (ck (a+(1:Int)) fun j=>e j b c))) (g (b,c))
def jp (m:Val ao) (j:Int) (d:Int) (n:Val ak) (o:Int) (f:Int) (b:Val aa) (c:Val ar) (e:Val aa) (g:Int→Val aa→Val ar→Val aa→Option ρ) (l:(Val (.pair .bool (.pair aa aP)))→Option ρ) (p:(Val (.pair aa aP))→Option ρ):Option ρ :=
  ifb (ilt f o) (ě n f fun a=>ifb (ine a.1 d) (ck (f+(1:Int)) fun q=>g q b c e) (NK (k:=tI) (v:=.bool) f m (fun r=>ifb r (ck (f+(1:Int)) fun s=>g s b c e) (ä ((ile 0 d)&&(ilt d (î b))) (ĸ b (Int.toNat d) fun t=>ck (t+a.2.2) fun u=>ä ((ile 0 a.2.1)&&(ilt a.2.1 (î b))) (ĸ b (Int.toNat a.2.1) fun w=>ifb (ige u w) (ck (f+(1:Int)) fun x=>g x b c e) (ä ((ile 0 d)&&(ilt d (î b))) (ĸ b (Int.toNat d) fun y=>ck (y+a.2.2) fun h=>ä ((ile 0 a.2.1)&&(ilt a.2.1 (î b))) (ĸ b (Int.toNat a.2.1) fun M=>ä ((ile 0 a.2.1)&&(ilt a.2.1 (î (List.set b (Int.toNat a.2.1) h)))) (ĸ (List.set b (Int.toNat a.2.1) h) (Int.toNat a.2.1) fun z=>ifb (ilt z j) (l (false,(List.set b (Int.toNat a.2.1) h),c,e)) (ä ((ile 0 a.2.1)&&(ilt a.2.1 (î c))) (ĸ c (Int.toNat a.2.1) fun A=>ifb (!A) (ä (ê ((List.length e)+(List.length ([a.2.1])))) (ä ((ile 0 a.2.1)&&(ilt a.2.1 (î c))) (ĸ c (Int.toNat a.2.1) fun N=>ck (f+(1:Int)) fun B=>g B (List.set b (Int.toNat a.2.1) h) (List.set c (Int.toNat a.2.1) true) (e++([a.2.1]))))) (ck (f+(1:Int)) fun C=>g C (List.set b (Int.toNat a.2.1) h) c e))))))))))) (ä ((ile 0 d)&&(ilt d (î b))) (ĸ b (Int.toNat d) fun D=>ck (D+a.2.2) fun E=>ä ((ile 0 a.2.1)&&(ilt a.2.1 (î b))) (ĸ b (Int.toNat a.2.1) fun F=>ifb (ige E F) (ck (f+(1:Int)) fun G=>g G b c e) (ä ((ile 0 d)&&(ilt d (î b))) (ĸ b (Int.toNat d) fun H=>ck (H+a.2.2) fun i=>ä ((ile 0 a.2.1)&&(ilt a.2.1 (î b))) (ĸ b (Int.toNat a.2.1) fun O=>ä ((ile 0 a.2.1)&&(ilt a.2.1 (î (List.set b (Int.toNat a.2.1) i)))) (ĸ (List.set b (Int.toNat a.2.1) i) (Int.toNat a.2.1) fun I=>ifb (ilt I j) (l (false,(List.set b (Int.toNat a.2.1) i),c,e)) (ä ((ile 0 a.2.1)&&(ilt a.2.1 (î c))) (ĸ c (Int.toNat a.2.1) fun J=>ifb (!J) (ä (ê ((List.length e)+(List.length ([a.2.1])))) (ä ((ile 0 a.2.1)&&(ilt a.2.1 (î c))) (ĸ c (Int.toNat a.2.1) fun P=>ck (f+(1:Int)) fun K=>g K (List.set b (Int.toNat a.2.1) i) (List.set c (Int.toNat a.2.1) true) (e++([a.2.1]))))) (ck (f+(1:Int)) fun L=>g L (List.set b (Int.toNat a.2.1) i) c e)))))))))))) (p (b,c,e))
def Ĭ (l:Val ao) (m:Int) (n:Int) (k:Val ak) (h:Val aa) (d:Val ar) (b:Val aa) (c:Val aa) (o:Val aa→Val ar→Val aa→Val aa→Option ρ) (i:(Val (.pair .bool aQ))→Option ρ):Option ρ :=
  ifb (ieq (Û c) 0) (i (true,h,d,b,c)) (ä (ilt 0 (î c)) (ĸ c 0 fun a=>ä (ile 1 (î c)) (ä (decide (1+(List.length c-1)=List.length c)) (ä ((ile 0 a)&&(ilt a (î d))) (ĸ d (Int.toNat a) fun x=>ä ((ile 0 a)&&(ilt a (î b))) (ĸ b (Int.toNat a) fun p=>ck (p+(1:Int)) fun e=>ä ((ile 0 a)&&(ilt a (î b))) (ĸ b (Int.toNat a) fun y=>ä ((ile 0 a)&&(ilt a (î (List.set b (Int.toNat a) e)))) (ĸ (List.set b (Int.toNat a) e) (Int.toNat a) fun q=>ck (n+(1:Int)) fun r=>ifb (igt q r) (i (false,h,(List.set d (Int.toNat a) false),(List.set b (Int.toNat a) e),(List.drop 1 c))) (Ë (fun(f:(Val (.pair tI (.pair aa aP)))) s=>jp l m a k (Û k) f.1 f.2.1 f.2.2.1 f.2.2.2 (fun t u v w=>s (t,u,v,w)) (fun g=>i (g.1,g.2.1,g.2.2.1,(List.set b (Int.toNat a) e),g.2.2.2)) (fun j=>o j.1 j.2.1 (List.set b (Int.toNat a) e) j.2.2)) ((0:Int),h,(List.set d (Int.toNat a) false),(List.drop 1 c)))))))))))
def jo (c:Int) (d:Int) (a:Int) (b:Val aa) (e:Int→Val aa→Option ρ) (f:Val aa→Option ρ):Option ρ :=
  ifb (ilt a d) (ä ((ile 0 a)&&(ilt a (î b))) (ĸ b (Int.toNat a) fun g=>ck (g-c) fun h=>ä ((ile 0 a)&&(ilt a (î b))) (ĸ b (Int.toNat a) fun j=>ck (a+(1:Int)) fun i=>e i (List.set b (Int.toNat a) h)))) (f b)
def yv (a:Val Î) (h:Val ao) (k:(Val (.pair aa .bool))→Option ρ):Option ρ :=
  ä ((ile 0 a.1)&&(ê (Int.toNat a.1))) (ä ((ile 0 a.1)&&(ê (Int.toNat a.1))) (ä ((ile 0 a.1)&&(ê (Int.toNat a.1))) (Ë (fun(e:Val Ã) i=>iq a.2 (Û a.2) e.1 e.2 (fun j l=>i (j,l)) (fun m=>Ë (fun(d:(Val (.pair tI aP))) n=>Ś a.1 (List.replicate (Int.toNat a.1) (0:Int)) d.1 d.2.1 d.2.2 (fun o p q=>n (o,p,q)) (fun f=>Ë (fun(c:Val aQ) r=>Ĭ h m a.1 a.2 c.1 c.2.1 c.2.2.1 c.2.2.2 (fun s t u v=>r (s,t,u,v)) (fun b=>ifb (!b.1) (k ([],false)) (ä (ilt 0 (î b.2.1)) (ĸ b.2.1 0 fun w=>Ë (fun(g:Val ŋ) x=>jo w (Û b.2.1) g.1 g.2 (fun y z=>x (y,z)) (fun A=>k (A,true))) ((0:Int),b.2.1))))) ((List.replicate (Int.toNat a.1) (0:Int)),f.1,(List.replicate (Int.toNat a.1) (0:Int)),f.2))) ((0:Int),(List.replicate (Int.toNat a.1) false),[]))) ((0:Int),(0:Int)))))
def kT (a:Val Î) (b:Val ao):Option ((Val (.pair aa .bool))):=yv a b some
def sW (a:Val Î) (k:Val aG→Option ρ):Option ρ :=
  Ä (ow a) fun b=>ifb (ine b.1 0) (k (false,b.1)) (Ä (kT a ([])) fun c=>k (c.2,(0:Int)))
def nr (a:Val Î):Option ((Val aG)):=sW a some
def ya (a:Val Â) (b:Val ag) (k:Bool→Option ρ):Option ρ :=
  Ä (Υ a b) fun c=>Ä (iW c) fun d=>Ä (nr d.1) fun e=>k e.1
def Ų (a:Val Â) (b:Val ag):Option (Bool):=ya a b some
def o9 (d:Int) (e:Val aa) (f:Int) (g:Val ai) (b:Int) (a:Int) (c:Int→Int→Option ρ) (h:Int→Option ρ):Option ρ :=
  ifb (ilt a f) (ě e a fun i=>ě g d fun j=>ě j.2 a fun k=>ifb (ine k i) (ck (b+(1:Int)) fun l=>ck (a+(1:Int)) fun m=>c l m) (ck (a+(1:Int)) fun n=>c b n)) (h b)
def pb (e:Val ag) (f:Int) (g:Val ai) (b:Int) (a:Int) (h:Int→Int→Option ρ) (i:Int→Option ρ):Option ρ :=
  ifb (ilt a f) (ě e a fun c=>Ë (fun(d:Val Ã) j=>o9 a c (Û c) g d.1 d.2 (fun k l=>j (k,l)) (fun m=>ck (a+(1:Int)) fun n=>h m n)) (b,(0:Int))) (i b)
def Gf (c:Val Â) (a:Val ag) (k:Int→Option ρ):Option ρ :=
  Ë (fun(b:Val Ã) d=>pb a (Û a) c.2 b.1 b.2 (fun e f=>d (e,f)) (fun g=>k g)) ((0:Int),(0:Int))
def ĵ (a:Val Â) (b:Val ag):Option (Int):=Gf a b some
def qt (a:Int) (k:Bool→Option ρ):Option ρ :=
  k (ine a a)
def lS (a:Int):Option (Bool):=qt a some
def mP (a:Int) (b:Int) (k:Int→Option ρ):Option ρ :=
  Ä (lS a) fun d=>Ä (lS b) fun c=>ifb d (ifb c (k (0:Int)) (k (-1:Int))) (ifb c (k (1:Int)) (ifb (ilt a b) (k (-1:Int)) (ifb (igt a b) (k (1:Int)) (k (0:Int)))))
def iv (a:Int) (b:Int):Option (Int):=mP a b some
def Gg (b:Val ag) (c:Val ag) (a:Val au) (k:Int→Option ρ):Option ρ :=
  Ä (ĵ a b) fun d=>Ä (ĵ a c) fun e=>Ä (iv d e) fun f=>k f
def jI (a:Val ag) (b:Val ag) (c:Val au):Option (Int):=Gg a b c some
def ç (h:Int) (i:Int) (j:Int) (k:Val ae) (l:Val ab) (m:Val af) (n:Val ac) (o:Val ab) (p:Val ai) (a:Int) (b:Val aj) (q:Int→Val aj→Option ρ) (g:Val aj→Option ρ):Option ρ :=
  ifb (igt a h) (ä ((ile 0 a)&&(ilt a (î b))) (ĸ b (Int.toNat a) fun r=>ck (a-(1:Int)) fun d=>ä ((ile 0 d)&&(ilt d (î b))) (ĸ b (Int.toNat d) fun s=>Ä (jI r s (((i,j),k,l,m,n,o),p)) fun t=>ifb (ilt t 0) (ck (a-(1:Int)) fun c=>ck (a-(1:Int)) fun e=>ä ((ile 0 e)&&(ilt e (î b))) (ĸ b (Int.toNat e) fun f=>ä ((ile 0 a)&&(ilt a (î b))) (ĸ b (Int.toNat a) fun u=>ä ((ile 0 a)&&(ilt a (î b))) (ĸ b (Int.toNat a) fun w=>ä ((ile 0 c)&&(ilt c (î (List.set b (Int.toNat a) f)))) (ĸ (List.set b (Int.toNat a) f) (Int.toNat c) fun x=>ck (a-(1:Int)) fun v=>q v (List.set (List.set b (Int.toNat a) f) (Int.toNat c) u)))))) (g b)))) (g b)
def č (d:Int) (e:Int) (f:Int) (g:Int) (h:Val ae) (i:Val ab) (j:Val af) (k:Val ac) (l:Val ab) (m:Val ai) (a:Int) (b:Val aj) (n:Int→Val aj→Option ρ) (o:Val aj→Option ρ):Option ρ :=
  ifb (ilt a e) (Ë (fun(c:Val aB) p=>ç d f g h i j k l m c.1 c.2 (fun q r=>p (q,r)) (fun s=>ck (a+(1:Int)) fun t=>n t s)) (a,b)) (o b)
def ū (c:Val aj) (a:Int) (d:Int) (mm:Val Â) (k:((Val aj))×(Val Â)→Option ρ):Option ρ :=
  ck (a+(1:Int)) fun e=>Ë (fun(b:Val aB) f=>č a d mm.1.1.1 mm.1.1.2 mm.1.2.1 mm.1.2.2.1 mm.1.2.2.2.1 mm.1.2.2.2.2.1 mm.1.2.2.2.2.2 mm.2 b.1 b.2 (fun g h=>f (g,h)) (fun i=>k (i,mm))) (e,c)
def æ (a:Val aj) (b:Int) (c:Int) (mm:Val Â):Option (((Val aj))×(Val Â)):=ū a b c mm some
def Č (h:Int) (i:Int) (j:Int) (b:Int) (a:Val aj) (k:Int→Val aj→Option ρ) (l:Val aj→Option ρ):Option ρ :=
  ifb (ilt b j) (ck (h+b) fun c=>ck (i+b) fun d=>ck (i+b) fun e=>ä ((ile 0 e)&&(ilt e (î a))) (ĸ a (Int.toNat e) fun f=>ck (h+b) fun g=>ä ((ile 0 g)&&(ilt g (î a))) (ĸ a (Int.toNat g) fun m=>ä ((ile 0 c)&&(ilt c (î a))) (ĸ a (Int.toNat c) fun o=>ä ((ile 0 d)&&(ilt d (î (List.set a (Int.toNat c) f)))) (ĸ (List.set a (Int.toNat c) f) (Int.toNat d) fun p=>ck (b+(1:Int)) fun n=>k n (List.set (List.set a (Int.toNat c) f) (Int.toNat d) m)))))) (l a)
def ip (h:Int) (i:Int) (j:Int) (b:Int) (a:Val aj) (k:Int→Val aj→Option ρ) (l:Val aj→Option ρ):Option ρ :=
  ifb (ilt b j) (ck (h+b) fun c=>ck (i+b) fun d=>ck (i+b) fun e=>ä ((ile 0 e)&&(ilt e (î a))) (ĸ a (Int.toNat e) fun f=>ck (h+b) fun g=>ä ((ile 0 g)&&(ilt g (î a))) (ĸ a (Int.toNat g) fun m=>ä ((ile 0 c)&&(ilt c (î a))) (ĸ a (Int.toNat c) fun o=>ä ((ile 0 d)&&(ilt d (î (List.set a (Int.toNat c) f)))) (ĸ (List.set a (Int.toNat c) f) (Int.toNat d) fun p=>ck (b+(1:Int)) fun n=>k n (List.set (List.set a (Int.toNat c) f) (Int.toNat d) m)))))) (l a)
def Ĵ (c:Int) (a:Int) (b:Int) (d:Val aj) (e:Int→Int→Val aj→Option ρ) (h:Val aB→Option ρ):Option ρ :=
  ifb (ine a b) (ifb (igt a b) (ck (c-a) fun i=>Ë (fun(f:Val aB) j=>Č i c b f.1 f.2 (fun k l=>j (k,l)) (fun m=>ck (a-b) fun n=>e n b m)) ((0:Int),d)) (ck (c-a) fun o=>ck (c+b) fun p=>ck (p-a) fun q=>Ë (fun(g:Val aB) r=>ip o q a g.1 g.2 (fun s t=>r (s,t)) (fun u=>ck (b-a) fun v=>e a v u)) ((0:Int),d))) (h (a,d))
def il (h:Int) (i:Int) (j:Int) (b:Int) (a:Val aj) (k:Int→Val aj→Option ρ) (l:Val aj→Option ρ):Option ρ :=
  ifb (ilt b j) (ck (h+b) fun c=>ck (i+b) fun d=>ck (i+b) fun e=>ä ((ile 0 e)&&(ilt e (î a))) (ĸ a (Int.toNat e) fun f=>ck (h+b) fun g=>ä ((ile 0 g)&&(ilt g (î a))) (ĸ a (Int.toNat g) fun m=>ä ((ile 0 c)&&(ilt c (î a))) (ĸ a (Int.toNat c) fun o=>ä ((ile 0 d)&&(ilt d (î (List.set a (Int.toNat c) f)))) (ĸ (List.set a (Int.toNat c) f) (Int.toNat d) fun p=>ck (b+(1:Int)) fun n=>k n (List.set (List.set a (Int.toNat c) f) (Int.toNat d) m)))))) (l a)
def jn (e:Val aj) (f:Int) (a:Int) (g:Int) (mm:Val Â) (k:((Val aj))×(Val Â)→Option ρ):Option ρ :=
  ck (a-f) fun h=>ck (g-a) fun i=>Ë (fun(b:(Val (.pair tI aB))) j=>Ĵ a b.1 b.2.1 b.2.2 (fun l m n=>j (l,m,n)) (fun c=>ck (a-c.1) fun o=>Ë (fun(d:Val aB) p=>il o a c.1 d.1 d.2 (fun q r=>p (q,r)) (fun s=>k (s,mm))) ((0:Int),c.2))) (h,i,e)
def ķ (a:Val aj) (b:Int) (c:Int) (d:Int) (mm:Val Â):Option (((Val aj))×(Val Â)):=jn a b c d mm some
def ú (rec:Val aj→Int→Int→Int→Val Â→Option ((Val aj)×(Val Â))) (d:Int) (b:Val aj) (g:Int) (h:Int) (i:Val ae) (j:Val ab) (k:Val af) (l:Val ac) (m:Val ab) (n:Val ai) (c:Int) (e:Int) (f:Int→Int→Option ρ) (o:Int→Option ρ):Option ρ :=
  ifb (ilt c e) (ck (c+e) fun a=>ä ((ile 0 (IntKind.wrap .i64 (iC .u64 (IntKind.wrap .u64 a) (1:Int))))&&(ilt (IntKind.wrap .i64 (iC .u64 (IntKind.wrap .u64 a) (1:Int))) (î b))) (ĸ b (Int.toNat (IntKind.wrap .i64 (iC .u64 (IntKind.wrap .u64 a) (1:Int)))) fun p=>ä ((ile 0 d)&&(ilt d (î b))) (ĸ b (Int.toNat d) fun q=>Ä (jI p q (((g,h),i,j,k,l,m),n)) fun r=>ifb (ilt r 0) (ck ((IntKind.wrap .i64 (iC .u64 (IntKind.wrap .u64 a) (1:Int)))+(1:Int)) fun s=>f s e) (f c (IntKind.wrap .i64 (iC .u64 (IntKind.wrap .u64 a) (1:Int))))))) (o c)
def í (rec:Val aj→Int→Int→Int→Val Â→Option ((Val aj)×(Val Â))) (f:Int) (a:Int) (b:Val aj) (g:Int→Val aj→Option ρ) (h:Val aj→Option ρ):Option ρ :=
  ck (f-(1:Int)) fun i=>ifb (ilt a i) (ck (a+(1:Int)) fun c=>ck (a+(1:Int)) fun d=>ä ((ile 0 d)&&(ilt d (î b))) (ĸ b (Int.toNat d) fun e=>ä ((ile 0 a)&&(ilt a (î b))) (ĸ b (Int.toNat a) fun j=>ä ((ile 0 a)&&(ilt a (î b))) (ĸ b (Int.toNat a) fun l=>ä ((ile 0 c)&&(ilt c (î (List.set b (Int.toNat a) e)))) (ĸ (List.set b (Int.toNat a) e) (Int.toNat c) fun m=>ck (a+(1:Int)) fun k=>g k (List.set (List.set b (Int.toNat a) e) (Int.toNat c) j)))))) (h b)
def ù (rec:Val aj→Int→Int→Int→Val Â→Option ((Val aj)×(Val Â))) (d:Int) (b:Val aj) (g:Int) (h:Int) (i:Val ae) (j:Val ab) (k:Val af) (l:Val ac) (m:Val ab) (n:Val ai) (c:Int) (e:Int) (f:Int→Int→Option ρ) (o:Int→Option ρ):Option ρ :=
  ifb (ilt c e) (ck (c+e) fun a=>ä ((ile 0 d)&&(ilt d (î b))) (ĸ b (Int.toNat d) fun p=>ä ((ile 0 (IntKind.wrap .i64 (iC .u64 (IntKind.wrap .u64 a) (1:Int))))&&(ilt (IntKind.wrap .i64 (iC .u64 (IntKind.wrap .u64 a) (1:Int))) (î b))) (ĸ b (Int.toNat (IntKind.wrap .i64 (iC .u64 (IntKind.wrap .u64 a) (1:Int)))) fun q=>Ä (jI p q (((g,h),i,j,k,l,m),n)) fun r=>ifb (!(ilt r 0)) (ck ((IntKind.wrap .i64 (iC .u64 (IntKind.wrap .u64 a) (1:Int)))+(1:Int)) fun s=>f s e) (f c (IntKind.wrap .i64 (iC .u64 (IntKind.wrap .u64 a) (1:Int))))))) (o c)
def ì (rec:Val aj→Int→Int→Int→Val Â→Option ((Val aj)×(Val Â))) (f:Int) (a:Int) (b:Val aj) (g:Int→Val aj→Option ρ) (h:Val aj→Option ρ):Option ρ :=
  ifb (igt a f) (ck (a-(1:Int)) fun c=>ck (a-(1:Int)) fun d=>ä ((ile 0 d)&&(ilt d (î b))) (ĸ b (Int.toNat d) fun e=>ä ((ile 0 a)&&(ilt a (î b))) (ĸ b (Int.toNat a) fun i=>ä ((ile 0 a)&&(ilt a (î b))) (ĸ b (Int.toNat a) fun k=>ä ((ile 0 c)&&(ilt c (î (List.set b (Int.toNat a) e)))) (ĸ (List.set b (Int.toNat a) e) (Int.toNat c) fun l=>ck (a-(1:Int)) fun j=>g j (List.set (List.set b (Int.toNat a) e) (Int.toNat c) i)))))) (h b)
def á (rec:Val aj→Int→Int→Int→Val Â→Option ((Val aj)×(Val Â))) (g:Int) (b:Val aj) (h:Int) (i:Int) (j:Val ae) (k:Val ab) (l:Val af) (m:Val ac) (n:Val ab) (o:Val ai) (c:Int) (d:Int) (f:Int→Int→Option ρ) (p:Int→Option ρ):Option ρ :=
  ifb (ilt c d) (ck (c+d) fun a=>ck (g-(IntKind.wrap .i64 (iC .u64 (IntKind.wrap .u64 a) (1:Int)))) fun e=>ä ((ile 0 e)&&(ilt e (î b))) (ĸ b (Int.toNat e) fun q=>ä ((ile 0 (IntKind.wrap .i64 (iC .u64 (IntKind.wrap .u64 a) (1:Int))))&&(ilt (IntKind.wrap .i64 (iC .u64 (IntKind.wrap .u64 a) (1:Int))) (î b))) (ĸ b (Int.toNat (IntKind.wrap .i64 (iC .u64 (IntKind.wrap .u64 a) (1:Int)))) fun r=>Ä (jI q r (((h,i),j,k,l,m,n),o)) fun s=>ifb (!(ilt s 0)) (ck ((IntKind.wrap .i64 (iC .u64 (IntKind.wrap .u64 a) (1:Int)))+(1:Int)) fun t=>f t d) (f c (IntKind.wrap .i64 (iC .u64 (IntKind.wrap .u64 a) (1:Int))))))) (p c)
def Ĥ (rec:Val aj→Int→Int→Int→Val Â→Option ((Val aj)×(Val Â))) (c:Val aj) (f:Int) (g:Int) (b:Int) (mm:Val Â) (k:((Val aj))×(Val Â)→Option ρ):Option ρ :=
  ck (g-f) fun R=>ifb (ieq R 1) (Ë (fun(t:Val Ã) S=>ú rec f c mm.1.1.1 mm.1.1.2 mm.1.2.1 mm.1.2.2.1 mm.1.2.2.2.1 mm.1.2.2.2.2.1 mm.1.2.2.2.2.2 mm.2 t.1 t.2 (fun T U=>S (T,U)) (fun V=>Ë (fun(u:Val aB) W=>í rec V u.1 u.2 (fun X Y=>W (X,Y)) (fun Z=>k (Z,mm))) (f,c))) (g,b)) (ck (b-g) fun dc=>ifb (ieq dc 1) (Ë (fun(v:Val Ã) df=>ù rec g c mm.1.1.1 mm.1.1.2 mm.1.2.1 mm.1.2.2.1 mm.1.2.2.2.1 mm.1.2.2.2.2.1 mm.1.2.2.2.2.2 mm.2 v.1 v.2 (fun dg dh=>df (dg,dh)) (fun di=>Ë (fun(w:Val aB) dj=>ì rec di w.1 w.2 (fun dk dl=>dj (dk,dl)) (fun dm=>k (dm,mm))) (g,c))) (f,g)) (ck (f+b) fun a=>ck ((IntKind.wrap .i64 (iC .u64 (IntKind.wrap .u64 a) (1:Int)))+g) fun s=>ifb (igt g (IntKind.wrap .i64 (iC .u64 (IntKind.wrap .u64 a) (1:Int)))) (ck (s-b) fun dt=>ck (s-1) fun du=>Ë (fun(x:Val Ã) dv=>á rec du c mm.1.1.1 mm.1.1.2 mm.1.2.1 mm.1.2.2.1 mm.1.2.2.2.1 mm.1.2.2.2.2.1 mm.1.2.2.2.2.2 mm.2 x.1 x.2 (fun dw dz=>dv (dw,dz)) (fun j=>ck (s-j) fun d=>ifb (ilt j g) (ifb (ilt g d) (Ä (ķ c j g d mm) fun h=>ifb (ilt f j) (ifb (ilt j (IntKind.wrap .i64 (iC .u64 (IntKind.wrap .u64 a) (1:Int)))) (Ä (rec h.1 f j (IntKind.wrap .i64 (iC .u64 (IntKind.wrap .u64 a) (1:Int))) h.2) fun m=>ifb (ilt (IntKind.wrap .i64 (iC .u64 (IntKind.wrap .u64 a) (1:Int))) d) (ifb (ilt d b) (Ä (rec m.1 (IntKind.wrap .i64 (iC .u64 (IntKind.wrap .u64 a) (1:Int))) d b m.2) fun y=>k (y.1,y.2)) (k (m.1,m.2))) (k (m.1,m.2))) (ifb (ilt (IntKind.wrap .i64 (iC .u64 (IntKind.wrap .u64 a) (1:Int))) d) (ifb (ilt d b) (Ä (rec h.1 (IntKind.wrap .i64 (iC .u64 (IntKind.wrap .u64 a) (1:Int))) d b h.2) fun z=>k (z.1,z.2)) (k (h.1,h.2))) (k (h.1,h.2)))) (ifb (ilt (IntKind.wrap .i64 (iC .u64 (IntKind.wrap .u64 a) (1:Int))) d) (ifb (ilt d b) (Ä (rec h.1 (IntKind.wrap .i64 (iC .u64 (IntKind.wrap .u64 a) (1:Int))) d b h.2) fun A=>k (A.1,A.2)) (k (h.1,h.2))) (k (h.1,h.2)))) (ifb (ilt f j) (ifb (ilt j (IntKind.wrap .i64 (iC .u64 (IntKind.wrap .u64 a) (1:Int)))) (Ä (rec c f j (IntKind.wrap .i64 (iC .u64 (IntKind.wrap .u64 a) (1:Int))) mm) fun n=>ifb (ilt (IntKind.wrap .i64 (iC .u64 (IntKind.wrap .u64 a) (1:Int))) d) (ifb (ilt d b) (Ä (rec n.1 (IntKind.wrap .i64 (iC .u64 (IntKind.wrap .u64 a) (1:Int))) d b n.2) fun B=>k (B.1,B.2)) (k (n.1,n.2))) (k (n.1,n.2))) (ifb (ilt (IntKind.wrap .i64 (iC .u64 (IntKind.wrap .u64 a) (1:Int))) d) (ifb (ilt d b) (Ä (rec c (IntKind.wrap .i64 (iC .u64 (IntKind.wrap .u64 a) (1:Int))) d b mm) fun C=>k (C.1,C.2)) (k (c,mm))) (k (c,mm)))) (ifb (ilt (IntKind.wrap .i64 (iC .u64 (IntKind.wrap .u64 a) (1:Int))) d) (ifb (ilt d b) (Ä (rec c (IntKind.wrap .i64 (iC .u64 (IntKind.wrap .u64 a) (1:Int))) d b mm) fun D=>k (D.1,D.2)) (k (c,mm))) (k (c,mm))))) (ifb (ilt f j) (ifb (ilt j (IntKind.wrap .i64 (iC .u64 (IntKind.wrap .u64 a) (1:Int)))) (Ä (rec c f j (IntKind.wrap .i64 (iC .u64 (IntKind.wrap .u64 a) (1:Int))) mm) fun o=>ifb (ilt (IntKind.wrap .i64 (iC .u64 (IntKind.wrap .u64 a) (1:Int))) d) (ifb (ilt d b) (Ä (rec o.1 (IntKind.wrap .i64 (iC .u64 (IntKind.wrap .u64 a) (1:Int))) d b o.2) fun E=>k (E.1,E.2)) (k (o.1,o.2))) (k (o.1,o.2))) (ifb (ilt (IntKind.wrap .i64 (iC .u64 (IntKind.wrap .u64 a) (1:Int))) d) (ifb (ilt d b) (Ä (rec c (IntKind.wrap .i64 (iC .u64 (IntKind.wrap .u64 a) (1:Int))) d b mm) fun F=>k (F.1,F.2)) (k (c,mm))) (k (c,mm)))) (ifb (ilt (IntKind.wrap .i64 (iC .u64 (IntKind.wrap .u64 a) (1:Int))) d) (ifb (ilt d b) (Ä (rec c (IntKind.wrap .i64 (iC .u64 (IntKind.wrap .u64 a) (1:Int))) d b mm) fun G=>k (G.1,G.2)) (k (c,mm))) (k (c,mm)))))) (dt,(IntKind.wrap .i64 (iC .u64 (IntKind.wrap .u64 a) (1:Int))))) (ck (s-1) fun d8=>Ë (fun(H:Val Ã) d9=>á rec d8 c mm.1.1.1 mm.1.1.2 mm.1.2.1 mm.1.2.2.1 mm.1.2.2.2.1 mm.1.2.2.2.2.1 mm.1.2.2.2.2.2 mm.2 H.1 H.2 (fun ee eh=>d9 (ee,eh)) (fun l=>ck (s-l) fun e=>ifb (ilt l g) (ifb (ilt g e) (Ä (ķ c l g e mm) fun i=>ifb (ilt f l) (ifb (ilt l (IntKind.wrap .i64 (iC .u64 (IntKind.wrap .u64 a) (1:Int)))) (Ä (rec i.1 f l (IntKind.wrap .i64 (iC .u64 (IntKind.wrap .u64 a) (1:Int))) i.2) fun p=>ifb (ilt (IntKind.wrap .i64 (iC .u64 (IntKind.wrap .u64 a) (1:Int))) e) (ifb (ilt e b) (Ä (rec p.1 (IntKind.wrap .i64 (iC .u64 (IntKind.wrap .u64 a) (1:Int))) e b p.2) fun I=>k (I.1,I.2)) (k (p.1,p.2))) (k (p.1,p.2))) (ifb (ilt (IntKind.wrap .i64 (iC .u64 (IntKind.wrap .u64 a) (1:Int))) e) (ifb (ilt e b) (Ä (rec i.1 (IntKind.wrap .i64 (iC .u64 (IntKind.wrap .u64 a) (1:Int))) e b i.2) fun J=>k (J.1,J.2)) (k (i.1,i.2))) (k (i.1,i.2)))) (ifb (ilt (IntKind.wrap .i64 (iC .u64 (IntKind.wrap .u64 a) (1:Int))) e) (ifb (ilt e b) (Ä (rec i.1 (IntKind.wrap .i64 (iC .u64 (IntKind.wrap .u64 a) (1:Int))) e b i.2) fun K=>k (K.1,K.2)) (k (i.1,i.2))) (k (i.1,i.2)))) (ifb (ilt f l) (ifb (ilt l (IntKind.wrap .i64 (iC .u64 (IntKind.wrap .u64 a) (1:Int)))) (Ä (rec c f l (IntKind.wrap .i64 (iC .u64 (IntKind.wrap .u64 a) (1:Int))) mm) fun q=>ifb (ilt (IntKind.wrap .i64 (iC .u64 (IntKind.wrap .u64 a) (1:Int))) e) (ifb (ilt e b) (Ä (rec q.1 (IntKind.wrap .i64 (iC .u64 (IntKind.wrap .u64 a) (1:Int))) e b q.2) fun L=>k (L.1,L.2)) (k (q.1,q.2))) (k (q.1,q.2))) (ifb (ilt (IntKind.wrap .i64 (iC .u64 (IntKind.wrap .u64 a) (1:Int))) e) (ifb (ilt e b) (Ä (rec c (IntKind.wrap .i64 (iC .u64 (IntKind.wrap .u64 a) (1:Int))) e b mm) fun M=>k (M.1,M.2)) (k (c,mm))) (k (c,mm)))) (ifb (ilt (IntKind.wrap .i64 (iC .u64 (IntKind.wrap .u64 a) (1:Int))) e) (ifb (ilt e b) (Ä (rec c (IntKind.wrap .i64 (iC .u64 (IntKind.wrap .u64 a) (1:Int))) e b mm) fun N=>k (N.1,N.2)) (k (c,mm))) (k (c,mm))))) (ifb (ilt f l) (ifb (ilt l (IntKind.wrap .i64 (iC .u64 (IntKind.wrap .u64 a) (1:Int)))) (Ä (rec c f l (IntKind.wrap .i64 (iC .u64 (IntKind.wrap .u64 a) (1:Int))) mm) fun r=>ifb (ilt (IntKind.wrap .i64 (iC .u64 (IntKind.wrap .u64 a) (1:Int))) e) (ifb (ilt e b) (Ä (rec r.1 (IntKind.wrap .i64 (iC .u64 (IntKind.wrap .u64 a) (1:Int))) e b r.2) fun O=>k (O.1,O.2)) (k (r.1,r.2))) (k (r.1,r.2))) (ifb (ilt (IntKind.wrap .i64 (iC .u64 (IntKind.wrap .u64 a) (1:Int))) e) (ifb (ilt e b) (Ä (rec c (IntKind.wrap .i64 (iC .u64 (IntKind.wrap .u64 a) (1:Int))) e b mm) fun P=>k (P.1,P.2)) (k (c,mm))) (k (c,mm)))) (ifb (ilt (IntKind.wrap .i64 (iC .u64 (IntKind.wrap .u64 a) (1:Int))) e) (ifb (ilt e b) (Ä (rec c (IntKind.wrap .i64 (iC .u64 (IntKind.wrap .u64 a) (1:Int))) e b mm) fun Q=>k (Q.1,Q.2)) (k (c,mm))) (k (c,mm)))))) (f,g))))
def ģ:Nat→Val aj→Int→Int→Int→Val Â→Option ((Val aj)×(Val Â))
  |0=>fun _ _ _ _ _=>none
  |n+1=>fun a b c d mm=>Ĥ (ģ n) a b c d mm some
def Ĕ (a:Val aj) (b:Int) (c:Int) (d:Int) (mm:Val Â):Option (((Val aj))×(Val Â)):=ģ 100 a b c d mm
def ik (m:Int) (n:Int) (c:Int) (b:Int) (d:Val aj) (e:Int) (f:Int) (g:Val ae) (h:Val ab) (i:Val af) (j:Val ac) (k:Val ab) (l:Val ai) (o:Int→Int→Val aj→Int→Int→Val ae→Val ab→Val af→Val ac→Val ab→Val ai→Option ρ) (p:Val aw→Option ρ):Option ρ :=
  ifb (ile b m) (Ä (æ d c b (((e,f),g,h,i,j,k),l)) fun a=>ck (b+n) fun q=>o b q a.1 a.2.1.1.1 a.2.1.1.2 a.2.1.2.1 a.2.1.2.2.1 a.2.1.2.2.2.1 a.2.1.2.2.2.2.1 a.2.1.2.2.2.2.2 a.2.2) (p (c,d,e,f,g,h,i,j,k,l))
def ii (n:Int) (d:Int) (c:Int) (b:Int) (e:Val aj) (f:Int) (g:Int) (h:Val ae) (i:Val ab) (j:Val af) (k:Val ac) (l:Val ab) (m:Val ai) (o:Int→Int→Val aj→Int→Int→Val ae→Val ab→Val af→Val ac→Val ab→Val ai→Option ρ) (p:Val aw→Option ρ):Option ρ :=
  ifb (ile b n) (ck (c+d) fun q=>Ä (Ĕ e c q b (((f,g),h,i,j,k,l),m)) fun a=>ck ((2:Int)*d) fun r=>ck (b+r) fun s=>o b s a.1 a.2.1.1.1 a.2.1.1.2 a.2.1.2.1 a.2.1.2.2.1 a.2.1.2.2.2.1 a.2.1.2.2.2.2.1 a.2.1.2.2.2.2.2 a.2.2) (p (c,e,f,g,h,i,j,k,l,m))
def ij (e:Int) (d:Int) (f:Val aj) (g:Int) (h:Int) (i:Val ae) (j:Val ab) (k:Val af) (l:Val ac) (m:Val ab) (n:Val ai) (o:Int→Val aj→Int→Int→Val ae→Val ab→Val af→Val ac→Val ab→Val ai→Option ρ) (q:(Val (.pair aj ah))→Option ρ):Option ρ :=
  ifb (ilt d e) (ck ((2:Int)*d) fun r=>Ë (fun(b:(Val (.pair tI aw))) s=>ii e d b.1 b.2.1 b.2.2.1 b.2.2.2.1 b.2.2.2.2.1 b.2.2.2.2.2.1 b.2.2.2.2.2.2.1 b.2.2.2.2.2.2.2.1 b.2.2.2.2.2.2.2.2.1 b.2.2.2.2.2.2.2.2.2.1 b.2.2.2.2.2.2.2.2.2.2 (fun t u v w x y z A B C D=>s (t,u,v,w,x,y,z,A,B,C,D)) (fun a=>ck (a.1+d) fun p=>ifb (ilt p e) (Ä (Ĕ a.2.1 a.1 p e (((a.2.2.1,a.2.2.2.1),a.2.2.2.2.1,a.2.2.2.2.2.1,a.2.2.2.2.2.2.1,a.2.2.2.2.2.2.2.1,a.2.2.2.2.2.2.2.2.1),a.2.2.2.2.2.2.2.2.2)) fun c=>ck (d*(2:Int)) fun E=>o E c.1 c.2.1.1.1 c.2.1.1.2 c.2.1.2.1 c.2.1.2.2.1 c.2.1.2.2.2.1 c.2.1.2.2.2.2.1 c.2.1.2.2.2.2.2 c.2.2) (ck (d*(2:Int)) fun F=>o F a.2.1 a.2.2.1 a.2.2.2.1 a.2.2.2.2.1 a.2.2.2.2.2.1 a.2.2.2.2.2.2.1 a.2.2.2.2.2.2.2.1 a.2.2.2.2.2.2.2.2.1 a.2.2.2.2.2.2.2.2.2))) ((0:Int),r,f,g,h,i,j,k,l,m,n)) (q (f,g,h,i,j,k,l,m,n))
def jm (g:Val aj) (f:Int) (mm:Val Â) (k:((Val aj))×(Val Â)→Option ρ):Option ρ :=
  Ë (fun(a:(Val (.pair tI aw))) h=>ik f (20:Int) a.1 a.2.1 a.2.2.1 a.2.2.2.1 a.2.2.2.2.1 a.2.2.2.2.2.1 a.2.2.2.2.2.2.1 a.2.2.2.2.2.2.2.1 a.2.2.2.2.2.2.2.2.1 a.2.2.2.2.2.2.2.2.2.1 a.2.2.2.2.2.2.2.2.2.2 (fun i j l m n o p q r s t=>h (i,j,l,m,n,o,p,q,r,s,t)) (fun b=>Ä (æ b.2.1 b.1 f (((b.2.2.1,b.2.2.2.1),b.2.2.2.2.1,b.2.2.2.2.2.1,b.2.2.2.2.2.2.1,b.2.2.2.2.2.2.2.1,b.2.2.2.2.2.2.2.2.1),b.2.2.2.2.2.2.2.2.2)) fun d=>Ë (fun(c:Val aw) u=>ij f c.1 c.2.1 c.2.2.1 c.2.2.2.1 c.2.2.2.2.1 c.2.2.2.2.2.1 c.2.2.2.2.2.2.1 c.2.2.2.2.2.2.2.1 c.2.2.2.2.2.2.2.2.1 c.2.2.2.2.2.2.2.2.2 (fun v w x y z A B C D E=>u (v,w,x,y,z,A,B,C,D,E)) (fun e=>k (e.1,(((e.2.1,e.2.2.1),e.2.2.2.1,e.2.2.2.2.1,e.2.2.2.2.2.1,e.2.2.2.2.2.2.1,e.2.2.2.2.2.2.2.1),e.2.2.2.2.2.2.2.2)))) ((20:Int),d.1,d.2.1.1.1,d.2.1.1.2,d.2.1.2.1,d.2.1.2.2.1,d.2.1.2.2.2.1,d.2.1.2.2.2.2.1,d.2.1.2.2.2.2.2,d.2.2))) ((0:Int),(20:Int),g,mm.1.1.1,mm.1.1.2,mm.1.2.1,mm.1.2.2.1,mm.1.2.2.2.1,mm.1.2.2.2.2.1,mm.1.2.2.2.2.2,mm.2)
def Ķ (a:Val aj) (b:Int) (mm:Val Â):Option (((Val aj))×(Val Â)):=jm a b mm some
def Cf (a:Val aj) (y:Val ag) (b:Val aj→Option ρ):Option ρ :=
  ä (ê ((List.length a)+(List.length ([y])))) (b (a++([y])))
def vw (c:Int) (d:Int) (e:Int) (f:Val ae) (g:Val ab) (h:Val af) (i:Val ac) (j:Val ab) (k:Val ai) (b:Val aj) (a:Int) (l:Int→Option ρ) (m:Int→Option ρ) (n:Unit→Option ρ):Option ρ :=
  ifb (ilt a c) (ä ((ile 0 a)&&(ilt a (î b))) (ĸ b (Int.toNat a) fun o=>Ä (Ų (((d,e),f,g,h,i,j),k) o) fun p=>ifb (!p) (m a) (ck (a+(1:Int)) fun q=>l q))) (n ())
def mH (f:Int) (g:Int) (h:Val ae) (i:Val ab) (j:Val af) (k:Val ac) (l:Val ab) (m:Val ai) (b:Int) (c:Int) (a:Val aj) (d:Int→Int→Val aj→Option ρ) (n:Val aB→Option ρ):Option ρ :=
  ifb (ilt c (Û a)) (ä ((ile 0 c)&&(ilt c (î a))) (ĸ a (Int.toNat c) fun e=>Ä (Ų (((f,g),h,i,j,k,l),m) e) fun o=>ifb (!(!o)) (ä ((ile 0 b)&&(ilt b (î a))) (ĸ a (Int.toNat b) fun s=>ck (b+(1:Int)) fun p=>ck (c+(1:Int)) fun q=>d p q (List.set a (Int.toNat b) e))) (ck (c+(1:Int)) fun r=>d b r a))) (n (b,a))
def RB (b:Val Â) (k:Val aj→Option ρ):Option ρ :=
  Ä (mU b.2) fun g=>yV (fun(h:Val aj) (i:Val ag) j=>Cf h i (fun l=>j l)) g ([]) (fun f=>Ä (Ķ f (Û f) b) fun c=>Ë (fun(m:Int) n=>vw (Û c.1) b.1.1.1 b.1.1.2 b.1.2.1 b.1.2.2.1 b.1.2.2.2.1 b.1.2.2.2.2.1 b.1.2.2.2.2.2 b.2 c.1 m (fun o=>n o) (fun d=>ifb (ieq d (-1:Int)) (k c.1) (ck (d+(1:Int)) fun p=>Ë (fun(e:(Val (.pair tI aB))) q=>mH b.1.1.1 b.1.1.2 b.1.2.1 b.1.2.2.1 b.1.2.2.2.1 b.1.2.2.2.2.1 b.1.2.2.2.2.2 b.2 e.1 e.2.1 e.2.2 (fun r s t=>q (r,s,t)) (fun a=>ä ((ile 0 a.1)&&(ile a.1 (î a.2))) (ä ((ile 0 a.1)&&(ile a.1 (î (List.take (Int.toNat a.1) a.2++List.replicate (List.length a.2-(Int.toNat a.1)) ([])++List.drop ((Int.toNat a.1)+(List.length a.2-(Int.toNat a.1))) a.2)))) (k (List.take (Int.toNat a.1) (List.drop 0 (List.take (Int.toNat a.1) a.2++List.replicate (List.length a.2-(Int.toNat a.1)) ([])++List.drop ((Int.toNat a.1)+(List.length a.2-(Int.toNat a.1))) a.2))))))) (d,p,c.1))) (fun _=>k c.1)) (0:Int))
def Fe (a:Val Â):Option ((Val aj)):=RB a some
def Yy (a:Val Â) (k:(Val (.pair aj tI))→Option ρ):Option ρ :=
  Ä (ir a) fun b=>ifb (ine b 0) (k ([],b)) (Ä (Fe a) fun c=>k (c,(0:Int)))
def Tz (a:Val Â):Option ((Val (.pair aj tI))):=Yy a some
def B0 (a:Val aj) (y:Val ag) (b:Val aj→Option ρ):Option ρ :=
  ä (ê ((List.length a)+(List.length ([y])))) (b (a++([y])))
def Rt (a:Val Â) (k:Val aj→Option ρ):Option ρ :=
  Ä (mU a.2) fun c=>yV (fun(d:Val aj) (e:Val ag) f=>B0 d e (fun g=>f g)) c ([]) (fun b=>Ä (Ķ b (Û b) a) fun h=>k h.1)
def sv (a:Val Â):Option ((Val aj)):=Rt a some
def kv (c:Val aj) (d:Int) (e:Int) (f:Int) (g:Val ae) (h:Val ab) (i:Val af) (j:Val ac) (k:Val ab) (l:Val ai) (a:Int) (m:Int→Option ρ) (n:(Val (.pair ag .bool))→Option ρ) (o:Unit→Option ρ):Option ρ :=
  ifb (ilt a d) (ě c a fun b=>Ä (Ų (((e,f),g,h,i,j,k),l) b) fun p=>ifb p (n (b,true)) (ck (a+(1:Int)) fun q=>m q)) (o ())
def vx (a:Val Â) (k:(Val (.pair ag .bool))→Option ρ):Option ρ :=
  Ä (sv a) fun b=>Ë (fun(d:Int) e=>kv b (Û b) a.1.1.1 a.1.1.2 a.1.2.1 a.1.2.2.1 a.1.2.2.2.1 a.1.2.2.2.2.1 a.1.2.2.2.2.2 a.2 d (fun f=>e f) (fun c=>k (c.1,c.2)) (fun _=>k ([],false))) (0:Int)
def ā (a:Val Â):Option ((Val (.pair ag .bool))):=vx a some
def Lm (a:Val Â) (k:(Val (.pair ag tI))→Option ρ):Option ρ :=
  Ä (ir a) fun b=>ifb (ine b 0) (k ([],b)) (Ä (ā a) fun c=>ifb (!c.2) (k ([],(5:Int))) (k (c.1,(0:Int))))
def Fh (a:Val Â):Option ((Val (.pair ag tI))):=Lm a some
def kz (b:Val aa) (c:Val aa) (a:Int) (d:Int→Option ρ) (e:Bool→Option ρ) (f:Unit→Option ρ):Option ρ :=
  ifb (ilt a (Û b)) (ě b a fun g=>ě c a fun h=>ifb (ine g h) (e false) (ck (a+(1:Int)) fun i=>d i)) (f ())
def vG (a:Val aa) (b:Val aa) (k:Bool→Option ρ):Option ρ :=
  ifb (ine (Û a) (Û b)) (k false) (Ë (fun(c:Int) d=>kz a b c (fun e=>d e) (fun f=>k f) (fun _=>k true)) (0:Int))
def jJ (a:Val aa) (b:Val aa):Option (Bool):=vG a b some
def lK (b:Val ag) (c:Val ag) (a:Int) (d:Int→Option ρ) (e:Bool→Option ρ) (f:Unit→Option ρ):Option ρ :=
  ifb (ilt a (Û b)) (ě b a fun g=>ě c a fun h=>Ä (jJ g h) fun i=>ifb (!i) (e false) (ck (a+(1:Int)) fun j=>d j)) (f ())
def yu (a:Val ag) (b:Val ag) (k:Bool→Option ρ):Option ρ :=
  ifb (ine (Û a) (Û b)) (k false) (Ë (fun(c:Int) d=>lK a b c (fun e=>d e) (fun f=>k f) (fun _=>k true)) (0:Int))
def sF (a:Val ag) (b:Val ag):Option (Bool):=yu a b some
def rJ (b:Val ae) (c:Int) (d:Int) (a:Int) (e:Int→Option ρ) (f:Int→Option ρ) (g:Unit→Option ρ):Option ρ :=
  ifb (ilt a c) (ě b a fun h=>ifb (ieq h.1 d) (f a) (ck (a+(1:Int)) fun i=>e i)) (g ())
def KU (a:Val Â) (c:Int) (b:Int) (k:Int→Option ρ):Option ρ :=
  ifb (ilt b 0) (k (1:Int)) (ifb (igt b 20000) (k (1:Int)) (Ë (fun(d:Int) e=>rJ a.1.2.1 (Û a.1.2.1) c d (fun f=>e f) (fun g=>ifb (!(ige g 0)) (k (5:Int)) (k (0:Int))) (fun _=>k (5:Int))) (0:Int)))
def uM (a:Val Â) (b:Int) (c:Int):Option (Int):=KU a b c some
def G7 (a:Val aa) (b:Val aa) (k:(Val (.pair aa ax))→Option ρ):Option ρ :=
  Ä (mY a) fun c=>ifb (!c) (k ([],[],(1:Int))) (Ä (mY b) fun d=>ifb (!d) (k ([],[],(1:Int))) (Ä (Ů a b) fun e=>Ä (Ů b a) fun f=>k (e,f,(0:Int))))
def pM (a:Val aa) (b:Val aa):Option ((Val (.pair aa ax))):=G7 a b some
def ky (g:Int) (b:Int) (c:Val ac) (a:Int) (d:Int→Option ρ) (h:Int→Option ρ) (i:Unit→Option ρ):Option ρ :=
  ifb (ilt a g) (ä ((ile 0 a)&&(ilt a (î c))) (ĸ c (Int.toNat a) fun e=>Ä (pM e.2.2.1 e.2.2.2.1) fun f=>Ä (Ü f.1 b) fun j=>ifb j (ck (a+(1:Int)) fun k=>d k) (Ä (Ü f.2.1 b) fun l=>ifb (!l) (h a) (ck (a+(1:Int)) fun m=>d m)))) (i ())
def Ι (f:Int) (a:Int) (c:Int) (b:Val ac) (e:Int→Int→Val ac→Option ρ) (h:Val aJ→Option ρ):Option ρ :=
  ifb (ilt c (Û b)) (ä ((ile 0 c)&&(ilt c (î b))) (ĸ b (Int.toNat c) fun d=>Ä (pM d.2.2.1 d.2.2.2.1) fun g=>Ä (Ü g.1 f) fun i=>ifb i (ä ((ile 0 a)&&(ilt a (î b))) (ĸ b (Int.toNat a) fun p=>ck (a+(1:Int)) fun j=>ck (c+(1:Int)) fun k=>e j k (List.set b (Int.toNat a) d))) (Ä (Ü g.2.1 f) fun l=>ifb (!(!l)) (ä ((ile 0 a)&&(ilt a (î b))) (ĸ b (Int.toNat a) fun q=>ck (a+(1:Int)) fun m=>ck (c+(1:Int)) fun n=>e m n (List.set b (Int.toNat a) d))) (ck (c+(1:Int)) fun o=>e a o b)))) (h (a,b))
def vy (b:Val Â) (c:Int) (k:Val aG→Option ρ):Option ρ :=
  Ä (ir b) fun f=>ifb (ine f 0) (k (false,f)) (Ä (uM b c (0:Int)) fun g=>ifb (ine g 0) (k (false,g)) (ä (ê (List.length b.1.2.2.2.2.1)) (Ë (fun(h:Int) i=>ky (Û b.1.2.2.2.2.1) c b.1.2.2.2.2.1 h (fun j=>i j) (fun d=>ifb (ieq d (-1:Int)) (Ä (ā b) fun l=>k ((!l.2),(0:Int))) (ck (d+(1:Int)) fun m=>Ë (fun(e:(Val (.pair tI aJ))) n=>Ι c e.1 e.2.1 e.2.2 (fun o p q=>n (o,p,q)) (fun a=>ä ((ile 0 a.1)&&(ile a.1 (î a.2))) (ä ((ile 0 a.1)&&(ile a.1 (î (List.take (Int.toNat a.1) a.2++List.replicate (List.length a.2-(Int.toNat a.1)) ((0:Int),(0:Int),[],[],(0:Int),(0:Int),(0:Int),(0:Int))++List.drop ((Int.toNat a.1)+(List.length a.2-(Int.toNat a.1))) a.2)))) (Ä (ā ((b.1.1,b.1.2.1,b.1.2.2.1,b.1.2.2.2.1,(List.take (Int.toNat a.1) (List.drop 0 (List.take (Int.toNat a.1) a.2++List.replicate (List.length a.2-(Int.toNat a.1)) ((0:Int),(0:Int),[],[],(0:Int),(0:Int),(0:Int),(0:Int))++List.drop ((Int.toNat a.1)+(List.length a.2-(Int.toNat a.1))) a.2))),b.1.2.2.2.2.2),b.2)) fun r=>k ((!r.2),(0:Int)))))) (d,m,b.1.2.2.2.2.1))) (fun _=>Ä (ā b) fun s=>k ((!s.2),(0:Int)))) (0:Int))))
def po (a:Val Â) (b:Int):Option ((Val aG)):=vy a b some
def vv (c:Int) (d:Val aa) (b:Val ac) (a:Int) (e:Int→Option ρ) (f:Int→Option ρ) (g:Unit→Option ρ):Option ρ :=
  ifb (ilt a c) (ä ((ile 0 a)&&(ilt a (î b))) (ĸ b (Int.toNat a) fun h=>Ä (Ü d h.1) fun i=>ifb (!i) (f a) (ck (a+(1:Int)) fun j=>e j))) (g ())
def mG (f:Val aa) (b:Int) (c:Int) (a:Val ac) (d:Int→Int→Val ac→Option ρ) (g:Val aJ→Option ρ):Option ρ :=
  ifb (ilt c (Û a)) (ä ((ile 0 c)&&(ilt c (î a))) (ĸ a (Int.toNat c) fun e=>Ä (Ü f e.1) fun h=>ifb (!(!h)) (ä ((ile 0 b)&&(ilt b (î a))) (ĸ a (Int.toNat b) fun l=>ck (b+(1:Int)) fun i=>ck (c+(1:Int)) fun j=>d i j (List.set a (Int.toNat b) e))) (ck (c+(1:Int)) fun k=>d b k a))) (g (b,a))
def Ru (b:Val Â) (e:Val aa) (k:Val Â→Option ρ):Option ρ :=
  ä (ê (List.length b.1.2.2.2.2.1)) (Ë (fun(f:Int) g=>vv (Û b.1.2.2.2.2.1) e b.1.2.2.2.2.1 f (fun h=>g h) (fun c=>ifb (ieq c (-1:Int)) (k b) (ck (c+(1:Int)) fun i=>Ë (fun(d:(Val (.pair tI aJ))) j=>mG e d.1 d.2.1 d.2.2 (fun l m n=>j (l,m,n)) (fun a=>ä ((ile 0 a.1)&&(ile a.1 (î a.2))) (ä ((ile 0 a.1)&&(ile a.1 (î (List.take (Int.toNat a.1) a.2++List.replicate (List.length a.2-(Int.toNat a.1)) ((0:Int),(0:Int),[],[],(0:Int),(0:Int),(0:Int),(0:Int))++List.drop ((Int.toNat a.1)+(List.length a.2-(Int.toNat a.1))) a.2)))) (k ((b.1.1,b.1.2.1,b.1.2.2.1,b.1.2.2.2.1,(List.take (Int.toNat a.1) (List.drop 0 (List.take (Int.toNat a.1) a.2++List.replicate (List.length a.2-(Int.toNat a.1)) ((0:Int),(0:Int),[],[],(0:Int),(0:Int),(0:Int),(0:Int))++List.drop ((Int.toNat a.1)+(List.length a.2-(Int.toNat a.1))) a.2))),b.1.2.2.2.2.2),b.2))))) (c,i,b.1.2.2.2.2.1))) (fun _=>k b)) (0:Int))
def zO (a:Val Â) (b:Val aa):Option (Val Â):=Ru a b some
def vA (d:Val ac) (e:Int) (a:Int) (b:Val aa) (f:Int→Val aa→Option ρ) (g:Val aa→Option ρ):Option ρ :=
  ifb (ilt a e) (ě d a fun c=>ä (ê ((List.length b)+(List.length ([c.1])))) (ck (a+(1:Int)) fun h=>f h (b++([c.1])))) (g b)
def qd (f:Int) (g:Int) (h:Val ae) (i:Val ab) (j:Val af) (k:Val ac) (l:Val ab) (m:Val ai) (b:Val aa) (a:Int) (d:Val aa→Int→Option ρ) (n:Val aa→Option ρ):Option ρ :=
  ifb (ige a 0) (ä ((ile 0 a)&&(ile a (î b))) (ck (a+(1:Int)) fun c=>ä ((ile 0 c)&&(ile c (î b))) (Ä (Ī ([(List.take (Int.toNat a) b),(List.drop (Int.toNat c) b)])) fun e=>Ä (zO (((f,g),h,i,j,k,l),m) e) fun o=>Ä (ā o) fun p=>ifb (!p.2) (ck (a-(1:Int)) fun q=>d e q) (ck (a-(1:Int)) fun r=>d b r)))) (n b)
def RO (a:Val Â) (k:Val ax→Option ρ):Option ρ :=
  Ä (ir a) fun b=>ifb (ine b 0) (k ([],b)) (Ä (ā a) fun f=>ifb f.2 (k ([],(5:Int))) (Ë (fun(c:Val ŋ) g=>vA a.1.2.2.2.2.1 (Û a.1.2.2.2.2.1) c.1 c.2 (fun h i=>g (h,i)) (fun d=>ck ((Û d)-(1:Int)) fun j=>Ë (fun(e:Val ax) l=>qd a.1.1.1 a.1.1.2 a.1.2.1 a.1.2.2.1 a.1.2.2.2.1 a.1.2.2.2.2.1 a.1.2.2.2.2.2 a.2 e.1 e.2 (fun m n=>l (m,n)) (fun o=>k (o,(0:Int)))) (d,j))) ((0:Int),[])))
def JP (a:Val Â):Option ((Val ax)):=RO a some
def pf (e:Int) (f:Val aa) (g:Int) (a:Int) (b:Val aa) (c:Int→Val aa→Option ρ) (h:Val aa→Option ρ):Option ρ :=
  ifb (ilt a g) (ě f a fun d=>ä (ile 0 a) (ifb (ieq (andI .i64 (iC .i64 e a) (1:Int)) 1) (ä (ê ((List.length b)+(List.length ([d])))) (ck (a+(1:Int)) fun i=>c i (b++([d])))) (ck (a+(1:Int)) fun j=>c j b))) (h b)
def Gp (a:Val aa) (c:Int) (k:Val aa→Option ρ):Option ρ :=
  Ë (fun(b:Val ŋ) d=>pf c a (Û a) b.1 b.2 (fun e f=>d (e,f)) (fun g=>k g)) ((0:Int),[])
def iU (a:Val aa) (b:Int):Option ((Val aa)):=Gp a b some
def lB (b:Val ac) (c:Int) (d:Int) (a:Int) (e:Int→Option ρ) (f:Int→Option ρ) (g:Unit→Option ρ):Option ρ :=
  ifb (ilt a c) (ě b a fun h=>ifb (ieq h.1 d) (f a) (ck (a+(1:Int)) fun i=>e i)) (g ())
def ig (d:Val aa) (e:Int) (b:Val ac) (a:Int) (f:Int→Option ρ) (c:Int→Option ρ) (g:Unit→Option ρ):Option ρ :=
  ifb (ilt a e) (ě d a fun h=>Ë (fun(i:Int) j=>lB b (Û b) h i (fun k=>j k) (fun l=>ifb (!(ige l 0)) (c (5:Int)) (ck (a+(1:Int)) fun m=>f m)) (fun _=>c (5:Int))) (0:Int)) (g ())
def jk (b:Val aa) (a:Int) (c:Int→Option ρ) (d:Int→Option ρ) (e:Unit→Option ρ):Option ρ :=
  ifb (ilt a (Û b)) (ě b a fun f=>ck (a-(1:Int)) fun g=>ě b g fun h=>ifb (ile f h) (d (6:Int)) (ck (a+(1:Int)) fun i=>c i)) (e ())
def jj (c:Val aj) (d:Int) (e:Int) (f:Int) (g:Val ae) (h:Val ab) (i:Val af) (j:Val ac) (k:Val ab) (l:Val ai) (m:Val aa) (n:Int) (a:Int) (o:Int→Option ρ) (p:(Val (.pair ag .bool))→Option ρ) (q:Unit→Option ρ):Option ρ :=
  ifb (ilt a d) (ě c a fun b=>Ä (iU m n) fun r=>Ä (zO (((e,f),g,h,i,j,k),l) r) fun s=>Ä (Ų s b) fun t=>ifb (!(!t)) (p (b,true)) (ck (a+(1:Int)) fun u=>o u)) (q ())
def ź (b:Val aa) (e:Val aa) (f:Int) (a:Int) (g:Int→Option ρ) (c:Int→Option ρ) (h:Unit→Option ρ):Option ρ :=
  ifb (ilt a f) (ě e a fun i=>ifb (ige a (Û b)) (c (1:Int)) (ě b a fun j=>Ä (iv i j) fun d=>ifb (ine d 0) (c d) (ck (a+(1:Int)) fun k=>g k))) (h ())
def ř (c:Int) (d:Int) (b:Val aa) (a:Int) (e:Int→Option ρ) (f:Unit→Option ρ) (g:Unit→Option ρ):Option ρ :=
  ifb (ilt a d) (ä ((ile 0 a)&&(ilt a (î b))) (ĸ b (Int.toNat a) fun h=>ifb (ieq (Hz .i64 c h) 0) (f ()) (ck (a+(1:Int)) fun i=>e i))) (g ())
def Ř (b:Int) (d:Val aj) (e:Int) (f:Val aa) (g:Int) (h:Int) (i:Val ae) (j:Val ab) (k:Val af) (l:Val ac) (m:Val ab) (n:Val ai) (c:Int) (a:Val aa) (o:Int→Val aa→Option ρ) (p:Val aa→Option ρ) (q:Val aa→Option ρ):Option ρ :=
  ifb (ilt c e) (ě d c fun r=>Ä (iU f b) fun s=>Ä (zO (((g,h),i,j,k,l,m),n) s) fun t=>Ä (Ų t r) fun u=>ifb (!(!u)) (ä (ê ((List.length a)+(List.length ([b])))) (p (a++([b])))) (ck (c+(1:Int)) fun v=>o v a)) (q a)
def Ż (g:Val aj) (t:Int) (h:Val aa) (i:Int) (j:Int) (k:Val ae) (l:Val ab) (m:Val af) (n:Val ac) (o:Val ab) (p:Val ai) (c:Val aa) (e:Int) (a:Int) (b:Val aa) (d:Val aa→Int→Int→Val aa→Option ρ) (u:Val ŋ→Option ρ):Option ρ :=
  ifb (ilt a t) (Ä (iU h a) fun f=>ifb (igt (Û f) (Û c)) (ck (a+(1:Int)) fun v=>d c e v b) (ifb (ieq (Û f) (Û c)) (Ë (fun(w:Int) x=>ź c f (Û f) w (fun y=>x y) (fun z=>ifb (ige z 0) (ck (a+(1:Int)) fun A=>d c e A b) (Ë (fun(B:Int) C=>ř a (Û b) b B (fun D=>C D) (fun _=>ck (a+(1:Int)) fun E=>d c e E b) (fun _=>Ë (fun(q:Val ŋ) F=>Ř a g (Û g) h i j k l m n o p q.1 q.2 (fun G H=>F (G,H)) (fun I=>ck (a+(1:Int)) fun J=>d c e J I) (fun K=>ck (a+(1:Int)) fun L=>d f a L K)) ((0:Int),b))) (0:Int))) (fun _=>ifb (ilt (Û f) (Û c)) (Ë (fun(M:Int) N=>ř a (Û b) b M (fun O=>N O) (fun _=>ck (a+(1:Int)) fun P=>d c e P b) (fun _=>Ë (fun(r:Val ŋ) Q=>Ř a g (Û g) h i j k l m n o p r.1 r.2 (fun R S=>Q (R,S)) (fun T=>ck (a+(1:Int)) fun U=>d c e U T) (fun V=>ck (a+(1:Int)) fun W=>d f a W V)) ((0:Int),b))) (0:Int)) (ck (a+(1:Int)) fun X=>d c e X b))) (0:Int)) (Ë (fun(Y:Int) Z=>ř a (Û b) b Y (fun dc=>Z dc) (fun _=>ck (a+(1:Int)) fun df=>d c e df b) (fun _=>Ë (fun(s:Val ŋ) dg=>Ř a g (Û g) h i j k l m n o p s.1 s.2 (fun dh di=>dg (dh,di)) (fun dj=>ck (a+(1:Int)) fun dk=>d c e dk dj) (fun dl=>ck (a+(1:Int)) fun dm=>d f a dm dl)) ((0:Int),b))) (0:Int)))) (u (e,b))
def yj (a:Val Â) (b:Val aa) (k:Val ax→Option ρ):Option ρ :=
  Ä (ir a) fun g=>ifb (ine g 0) (k ([],g)) (ifb (igt (Û b) 8) (k ([],(2:Int))) (Ë (fun(h:Int) i=>ig b (Û b) a.1.2.2.2.2.1 h (fun j=>i j) (fun l=>k ([],l)) (fun _=>Ë (fun(m:Int) n=>jk b m (fun o=>n o) (fun p=>k ([],p)) (fun _=>Ä (sv a) fun d=>ä (ile 0 (Û b)) (ck ((shlI .i64 (1:Int) (Û b))-(1:Int)) fun c=>Ë (fun(q:Int) r=>jj d (Û d) a.1.1.1 a.1.1.2 a.1.2.1 a.1.2.2.1 a.1.2.2.2.1 a.1.2.2.2.2.1 a.1.2.2.2.2.2 a.2 b c q (fun s=>r s) (fun t=>ifb t.2 (k ([],(5:Int))) (Ë (fun(e:(Val (.pair aa aS))) u=>Ż d c b a.1.1.1 a.1.1.2 a.1.2.1 a.1.2.2.1 a.1.2.2.2.1 a.1.2.2.2.2.1 a.1.2.2.2.2.2 a.2 e.1 e.2.1 e.2.2.1 e.2.2.2 (fun v w x y=>u (v,w,x,y)) (fun z=>Ä (iU b z.1) fun A=>k (A,(0:Int)))) (b,c,(0:Int),[]))) (fun _=>Ë (fun(f:(Val (.pair aa aS))) B=>Ż d c b a.1.1.1 a.1.1.2 a.1.2.1 a.1.2.2.1 a.1.2.2.2.1 a.1.2.2.2.2.1 a.1.2.2.2.2.2 a.2 f.1 f.2.1 f.2.2.1 f.2.2.2 (fun C D E F=>B (C,D,E,F)) (fun G=>Ä (iU b G.1) fun H=>k (H,(0:Int)))) (b,c,(0:Int),[]))) (0:Int)))) (1:Int))) (0:Int)))
def sw (a:Val Â) (b:Val aa):Option ((Val ax)):=yj a b some
def RF (a:Val Â) (k:(Val (.pair aj tI))→Option ρ):Option ρ :=
  Ä (ir a) fun b=>ifb (ine b 0) (k ([],b)) (Ä (sv a) fun c=>k (c,(0:Int)))
def Ff (a:Val Â):Option ((Val (.pair aj tI))):=RF a some
def Mw (a:Val É) (d:Val Ã) (k:Val Ã→Option ρ):Option ρ :=
  Ä (ĕ a) fun b=>ifb (ine b 0) (k ((0:Int),b)) (Ä (ox a) fun e=>Ä (ó e d) fun c=>ifb (ilt c 0) (k ((0:Int),(5:Int))) (ck (c+(1:Int)) fun f=>k (f,(0:Int))))
def ka (a:Val É) (b:Val Ã):Option (Val Ã):=Mw a b some
def wj (f:Int) (a:Int) (c:Val ac) (g:Int→Val ac→Option ρ) (h:Val ac→Option ρ):Option ρ :=
  ifb (ilt a f) (ä ((ile 0 a)&&(ilt a (î c))) (ĸ c (Int.toNat a) fun d=>ä (ê (List.length d.2.2.1)) (ä (ê (List.length d.2.2.2.1)) (ä ((ile 0 a)&&(ilt a (î c))) (ĸ c (Int.toNat a) fun b=>ä ((ile 0 a)&&(ilt a (î (List.set c (Int.toNat a) (b.1,b.2.1,d.2.2.1,b.2.2.2))))) (ĸ (List.set c (Int.toNat a) (b.1,b.2.1,d.2.2.1,b.2.2.2)) (Int.toNat a) fun e=>ck (a+(1:Int)) fun i=>g i (List.set (List.set c (Int.toNat a) (b.1,b.2.1,d.2.2.1,b.2.2.2)) (Int.toNat a) (e.1,e.2.1,e.2.2.1,d.2.2.2.1,e.2.2.2.2)))))))) (h c)
def S9 (a:Val É) (b:Val Ã) (k:Val aU→Option ρ):Option ρ :=
  Ä (ĕ a) fun c=>ifb (ine c 0) (k ((((0:Int),(0:Int)),[],[],[],[],[]),c)) (ä (ê (List.length a.2.1)) (ä (ê (List.length a.2.2.1)) (ä (ê (List.length a.2.2.2.1)) (ä (ê (List.length a.2.2.2.2.2)) (ä (ê (List.length a.2.2.2.2.1)) (Ë (fun(d:Val aJ) g=>wj (Û a.2.2.2.2.1) d.1 d.2 (fun h i=>g (h,i)) (fun e=>ä (ê ((List.length a.2.2.2.2.2)+(List.length ([b])))) (Ä (ĕ (a.1,a.2.1,a.2.2.1,a.2.2.2.1,e,(a.2.2.2.2.2++([b])))) fun f=>ifb (ine f 0) (k ((((0:Int),(0:Int)),[],[],[],[],[]),f)) (k ((a.1,a.2.1,a.2.2.1,a.2.2.2.1,e,(a.2.2.2.2.2++([b]))),(0:Int)))))) ((0:Int),a.2.2.2.2.1)))))))
def wB (a:Val É) (b:Val Ã):Option ((Val aU)):=S9 a b some
def rW (b:Val aa) (c:Int) (d:Int) (e:Val ak) (a:Int) (f:Int→Option ρ) (g:Int→Option ρ) (h:Unit→Option ρ):Option ρ :=
  ifb (ilt a c) (ě b a fun i=>Ä (zQ (d,e) i) fun j=>ifb (!j) (g (1:Int)) (ck (a+(1:Int)) fun k=>f k)) (h ())
def LB (a:Val Î) (b:Val aa) (k:Int→Option ρ):Option ρ :=
  Ä (ow a) fun c=>ifb (ine c.1 0) (k c.1) (Ë (fun(d:Int) e=>rW b (Û b) a.1 a.2 d (fun f=>e f) (fun g=>k g) (fun _=>Ä (kT a ([])) fun h=>ifb (!h.2) (k (9:Int)) (k (0:Int)))) (0:Int))
def Fl (a:Val Î) (b:Val aa):Option (Int):=LB a b some
def pk (c:Int) (a:Int) (b:Val aa) (d:Int→Val aa→Option ρ) (e:Val aa→Option ρ):Option ρ :=
  ifb (ilt a c) (ä ((ile 0 a)&&(ilt a (î b))) (ĸ b (Int.toNat a) fun g=>ck (a+(1:Int)) fun f=>d f (List.set b (Int.toNat a) (1152921504606846976:Int)))) (e b)
def vL (c:Val ak) (d:Int) (b:Int) (a:Int) (e:Int→Int→Option ρ) (f:Int→Option ρ):Option ρ :=
  ifb (ilt a d) (ě c a fun g=>ck (b+(aaR g.2.2 (0:Int))) fun h=>ck (a+(1:Int)) fun i=>e h i) (f b)
def vK (f:Int) (d:Val aa) (a:Int) (b:Val ar) (c:Val aa) (e:Int→Val ar→Val aa→Option ρ) (g:Val aP→Option ρ):Option ρ :=
  ifb (ilt a f) (ä ((ile 0 a)&&(ilt a (î d))) (ĸ d (Int.toNat a) fun h=>ifb (ine h 1152921504606846976) (ä (ê ((List.length c)+(List.length ([a])))) (ä ((ile 0 a)&&(ilt a (î b))) (ĸ b (Int.toNat a) fun k=>ck (a+(1:Int)) fun i=>e i (List.set b (Int.toNat a) true) (c++([a]))))) (ck (a+(1:Int)) fun j=>e j b c))) (g (b,c))
def D8 (m:Val ao) (j:Int) (d:Int) (n:Val ak) (o:Int) (f:Int) (b:Val aa) (c:Val ar) (e:Val aa) (g:Int→Val aa→Val ar→Val aa→Option ρ) (l:(Val (.pair .bool (.pair aa aP)))→Option ρ) (p:(Val (.pair aa aP))→Option ρ):Option ρ :=
  ifb (ilt f o) (ě n f fun a=>ifb (ine a.1 d) (ck (f+(1:Int)) fun q=>g q b c e) (NK (k:=tI) (v:=.bool) f m (fun r=>ifb r (ck (f+(1:Int)) fun s=>g s b c e) (ä ((ile 0 d)&&(ilt d (î b))) (ĸ b (Int.toNat d) fun t=>ck (t+a.2.2) fun u=>ä ((ile 0 a.2.1)&&(ilt a.2.1 (î b))) (ĸ b (Int.toNat a.2.1) fun w=>ifb (ige u w) (ck (f+(1:Int)) fun x=>g x b c e) (ä ((ile 0 d)&&(ilt d (î b))) (ĸ b (Int.toNat d) fun y=>ck (y+a.2.2) fun h=>ä ((ile 0 a.2.1)&&(ilt a.2.1 (î b))) (ĸ b (Int.toNat a.2.1) fun M=>ä ((ile 0 a.2.1)&&(ilt a.2.1 (î (List.set b (Int.toNat a.2.1) h)))) (ĸ (List.set b (Int.toNat a.2.1) h) (Int.toNat a.2.1) fun z=>ifb (ilt z j) (l (false,(List.set b (Int.toNat a.2.1) h),c,e)) (ä ((ile 0 a.2.1)&&(ilt a.2.1 (î c))) (ĸ c (Int.toNat a.2.1) fun A=>ifb (!A) (ä (ê ((List.length e)+(List.length ([a.2.1])))) (ä ((ile 0 a.2.1)&&(ilt a.2.1 (î c))) (ĸ c (Int.toNat a.2.1) fun N=>ck (f+(1:Int)) fun B=>g B (List.set b (Int.toNat a.2.1) h) (List.set c (Int.toNat a.2.1) true) (e++([a.2.1]))))) (ck (f+(1:Int)) fun C=>g C (List.set b (Int.toNat a.2.1) h) c e))))))))))) (ä ((ile 0 d)&&(ilt d (î b))) (ĸ b (Int.toNat d) fun D=>ck (D+a.2.2) fun E=>ä ((ile 0 a.2.1)&&(ilt a.2.1 (î b))) (ĸ b (Int.toNat a.2.1) fun F=>ifb (ige E F) (ck (f+(1:Int)) fun G=>g G b c e) (ä ((ile 0 d)&&(ilt d (î b))) (ĸ b (Int.toNat d) fun H=>ck (H+a.2.2) fun i=>ä ((ile 0 a.2.1)&&(ilt a.2.1 (î b))) (ĸ b (Int.toNat a.2.1) fun O=>ä ((ile 0 a.2.1)&&(ilt a.2.1 (î (List.set b (Int.toNat a.2.1) i)))) (ĸ (List.set b (Int.toNat a.2.1) i) (Int.toNat a.2.1) fun I=>ifb (ilt I j) (l (false,(List.set b (Int.toNat a.2.1) i),c,e)) (ä ((ile 0 a.2.1)&&(ilt a.2.1 (î c))) (ĸ c (Int.toNat a.2.1) fun J=>ifb (!J) (ä (ê ((List.length e)+(List.length ([a.2.1])))) (ä ((ile 0 a.2.1)&&(ilt a.2.1 (î c))) (ĸ c (Int.toNat a.2.1) fun P=>ck (f+(1:Int)) fun K=>g K (List.set b (Int.toNat a.2.1) i) (List.set c (Int.toNat a.2.1) true) (e++([a.2.1]))))) (ck (f+(1:Int)) fun L=>g L (List.set b (Int.toNat a.2.1) i) c e)))))))))))) (p (b,c,e))
def vJ (l:Val ao) (m:Int) (n:Int) (k:Val ak) (h:Val aa) (d:Val ar) (b:Val aa) (c:Val aa) (o:Val aa→Val ar→Val aa→Val aa→Option ρ) (i:(Val (.pair .bool aQ))→Option ρ):Option ρ :=
  ifb (ieq (Û c) 0) (i (true,h,d,b,c)) (ä (ilt 0 (î c)) (ĸ c 0 fun a=>ä (ile 1 (î c)) (ä (decide (1+(List.length c-1)=List.length c)) (ä ((ile 0 a)&&(ilt a (î d))) (ĸ d (Int.toNat a) fun x=>ä ((ile 0 a)&&(ilt a (î b))) (ĸ b (Int.toNat a) fun p=>ck (p+(1:Int)) fun e=>ä ((ile 0 a)&&(ilt a (î b))) (ĸ b (Int.toNat a) fun y=>ä ((ile 0 a)&&(ilt a (î (List.set b (Int.toNat a) e)))) (ĸ (List.set b (Int.toNat a) e) (Int.toNat a) fun q=>ck (n+(1:Int)) fun r=>ifb (igt q r) (i (false,h,(List.set d (Int.toNat a) false),(List.set b (Int.toNat a) e),(List.drop 1 c))) (Ë (fun(f:(Val (.pair tI (.pair aa aP)))) s=>D8 l m a k (Û k) f.1 f.2.1 f.2.2.1 f.2.2.2 (fun t u v w=>s (t,u,v,w)) (fun g=>i (g.1,g.2.1,g.2.2.1,(List.set b (Int.toNat a) e),g.2.2.2)) (fun j=>o j.1 j.2.1 (List.set b (Int.toNat a) e) j.2.2)) ((0:Int),h,(List.set d (Int.toNat a) false),(List.drop 1 c)))))))))))
def GF (a:Val Î) (i:Val ao) (b:Int) (k:Val aa→Option ρ):Option ρ :=
  ä ((ile 0 a.1)&&(ê (Int.toNat a.1))) (Ë (fun(f:Val ŋ) j=>pk (Û (List.replicate (Int.toNat a.1) (0:Int))) f.1 f.2 (fun l m=>j (l,m)) (fun c=>ä ((ile 0 b)&&(ilt b (î c))) (ĸ c (Int.toNat b) fun B=>ä ((ile 0 a.1)&&(ê (Int.toNat a.1))) (ä ((ile 0 a.1)&&(ê (Int.toNat a.1))) (Ë (fun(g:Val Ã) n=>vL a.2 (Û a.2) g.1 g.2 (fun o p=>n (o,p)) (fun q=>Ë (fun(e:(Val (.pair tI aP))) r=>vK a.1 (List.set c (Int.toNat b) (0:Int)) e.1 e.2.1 e.2.2 (fun s t u=>r (s,t,u)) (fun h=>Ë (fun(d:Val aQ) v=>vJ i q a.1 a.2 d.1 d.2.1 d.2.2.1 d.2.2.2 (fun w x y z=>v (w,x,y,z)) (fun A=>k A.2.1)) ((List.set c (Int.toNat b) (0:Int)),h.1,(List.replicate (Int.toNat a.1) (0:Int)),h.2))) ((0:Int),(List.replicate (Int.toNat a.1) false),[]))) ((0:Int),(0:Int))))))) ((0:Int),(List.replicate (Int.toNat a.1) (0:Int))))
def uP (a:Val Î) (b:Val ao) (c:Int):Option ((Val aa)):=GF a b c some
def rY (c:Int) (d:Int) (e:Val ak) (a:Int) (b:Val aa) (f:Int→Val aa→Option ρ) (g:Val aa→Option ρ):Option ρ :=
  ifb (ilt a c) (Ä (uP (d,e) ([]) a) fun h=>ě h (0:Int) fun i=>ä ((ile 0 a)&&(ilt a (î b))) (ĸ b (Int.toNat a) fun k=>ck (a+(1:Int)) fun j=>f j (List.set b (Int.toNat a) i))) (g b)
def rX (f:Val aa) (g:Int) (c:Val aa) (a:Int) (b:Val ab) (h:Int→Val ab→Option ρ) (i:Val ab→Option ρ):Option ρ :=
  ifb (ilt a g) (ä ((ile 0 a)&&(ilt a (î c))) (ĸ c (Int.toNat a) fun j=>ck (0-j) fun d=>ě f a fun e=>ä (ê ((List.length b)+(List.length ([(d,e)])))) (ck (a+(1:Int)) fun k=>h k (b++([(d,e)]))))) (i b)
def LF (a:Val Î) (k:Val aW→Option ρ):Option ρ :=
  Ä (Fl a ([])) fun b=>ifb (ine b 0) (k ([],b)) (Ä (uP a ([]) (0:Int)) fun c=>ä ((ile 0 a.1)&&(ê (Int.toNat a.1))) (Ë (fun(d:Val ŋ) f=>rY (Û (List.replicate (Int.toNat a.1) (0:Int))) a.1 a.2 d.1 d.2 (fun g h=>f (g,h)) (fun i=>Ë (fun(e:Val bf) j=>rX c (Û c) i e.1 e.2 (fun l m=>j (l,m)) (fun n=>k (n,(0:Int)))) ((0:Int),[]))) ((0:Int),(List.replicate (Int.toNat a.1) (0:Int)))))
def uQ (a:Val Î):Option ((Val aW)):=LF a some
def Gj (a:Val É) (b:Val Ã) (k:Val tp→Option ρ):Option ρ :=
  Ä (ka a b) fun f=>ifb (ine f.2 0) (Ä (wB a b) fun c=>ifb (ine c.2 0) (k (((0:Int),(0:Int)),c.2)) (Ä (ka c.1 b) fun g=>Ä (iW c.1) fun h=>Ä (uQ h.1) fun d=>ifb (ine d.2 0) (k (((0:Int),(0:Int)),d.2)) (ě d.1 g.1 fun i=>k (i,(0:Int))))) (Ä (ka a b) fun j=>Ä (iW a) fun l=>Ä (uQ l.1) fun e=>ifb (ine e.2 0) (k (((0:Int),(0:Int)),e.2)) (ě e.1 j.1 fun m=>k (m,(0:Int))))
def zP (a:Val É) (b:Val Ã):Option (Val tp):=Gj a b some
def pj (r:Int) (e:Int) (s:Val aj) (t:Int) (f:Int) (g:Int) (h:Val ae) (i:Val ab) (j:Val af) (l:Val ac) (m:Val ab) (n:Val ai) (c:Int) (a:Val aT) (o:Int→Val aT→Option ρ) (u:(Val (.pair tI aT))→Option ρ) (w:Val aT→Option ρ):Option ρ :=
  ifb (ilt c t) (ě s c fun p=>Ä (tf (((f,g),h,i,j,l,m),n) p r e) fun d=>Ä (Υ (((f,g),h,i,j,l,m),n) p) fun x=>Ä (zP x (d,e)) fun b=>ifb (ine b.2 0) (u (b.2,a)) (NK (k:=tI) (v:=Ã) d a (fun q=>ck (c+(1:Int)) fun y=>o y (Kx (k:=tI) (v:=Ã) d ((aaR b.1.1 q.1),(Zc b.1.2 q.2)) a)) (ck (c+(1:Int)) fun z=>o z (Kx (k:=tI) (v:=Ã) d b.1 a)))) (w a)
def ph (f:Val ae) (g:Int) (h:Val aT) (a:Int) (b:Val ak) (d:Int→Val ak→Option ρ) (i:Val ak→Option ρ):Option ρ :=
  ifb (ilt a g) (ě f a fun c=>NK (k:=tI) (v:=Ã) c.1 h (fun e=>ä (ê ((List.length b)+(List.length ([(c.1,e)])))) (ck (a+(1:Int)) fun j=>d j (b++([(c.1,e)])))) (ck (a+(1:Int)) fun l=>d l b)) (i b)
def Gu (a:Val Â) (c:Int) (d:Int) (k:(Val (.pair ak tI))→Option ρ):Option ρ :=
  Ä (ir a) fun e=>ifb (ine e 0) (k ([],e)) (Ä (uM a c d) fun f=>ifb (ine f 0) (k ([],f)) (Ä (Fe a) fun b=>ifb (ieq (Û b) 0) (k ([],(5:Int))) (Ë (fun(g:(Val (.pair tI aT))) i=>pj c d b (Û b) a.1.1.1 a.1.1.2 a.1.2.1 a.1.2.2.1 a.1.2.2.2.1 a.1.2.2.2.2.1 a.1.2.2.2.2.2 a.2 g.1 g.2 (fun j l=>i (j,l)) (fun m=>k ([],m.1)) (fun n=>Ë (fun(h:Val Î) o=>ph a.1.2.1 (Û a.1.2.1) n h.1 h.2 (fun p q=>o (p,q)) (fun r=>k (r,(0:Int)))) ((0:Int),[]))) ((0:Int),[]))))
def uO (a:Val Â) (b:Int) (c:Int):Option ((Val (.pair ak tI))):=Gu a b c some
def xZ (a:Val aa) (y:Int) (b:Val aa→Option ρ):Option ρ :=
  ä (ê ((List.length a)+(List.length ([y])))) (b (a++([y])))
def rK (h:Val ag) (i:Int) (j:Val ai) (c:Int) (k:Int→Option ρ) (d:Bool→Option ρ) (l:Unit→Option ρ):Option ρ :=
  ifb (ilt c i) (ě h c fun e=>ě j c fun f=>ifb (ine (Û e) (Û f.2)) (d false) (Ä (zJ e) fun m=>yV (fun(n:Val aa) (o:Int) p=>xZ n o (fun q=>p q)) m ([]) (fun g=>ä (ê (List.length g)) (Ä (E8 (xy g)) fun a=>Ä (E8 f.2) fun b=>ifb (!((xc a.1 b.1)&&((xc a.2.1 b.2.1)&&((xc a.2.2.1 b.2.2.1)&&((xc a.2.2.2.1 b.2.2.2.1)&&((xc a.2.2.2.2 b.2.2.2.2)&&true)))))) (d false) (ck (c+(1:Int)) fun r=>k r))))) (l ())
def K3 (b:Val Â) (a:Val ag) (k:Bool→Option ρ):Option ρ :=
  ifb (ine (Û a) (Û b.2)) (k false) (Ë (fun(c:Int) d=>rK a (Û a) b.2 c (fun e=>d e) (fun f=>k f) (fun _=>k true)) (0:Int))
def E9 (a:Val Â) (b:Val ag):Option (Bool):=K3 a b some
def Lg (a:Val Â) (c:Val ag) (k:Int→Option ρ):Option ρ :=
  Ä (ir a) fun b=>ifb (ine b 0) (k b) (Ä (E9 a c) fun d=>ifb (!d) (k (1:Int)) (k (0:Int)))
def uN (a:Val Â) (b:Val ag):Option (Int):=Lg a b some
def Yt (a:Val Â) (b:Val ag) (c:Int) (d:Int) (k:Val Ã→Option ρ):Option ρ :=
  Ä (uN a b) fun e=>ifb (ine e 0) (k ((0:Int),e)) (Ä (uM a c d) fun f=>ifb (ine f 0) (k ((0:Int),f)) (Ä (tf a b c d) fun g=>k (g,(0:Int))))
def M6 (a:Val Â) (b:Val ag) (c:Int) (d:Int):Option (Val Ã):=Yt a b c d some
def zB (c:Int) (a:Int) (b:Val aa) (d:Int→Val aa→Option ρ) (e:Val aa→Option ρ):Option ρ :=
  ifb (ilt a c) (ä ((ile 0 a)&&(ilt a (î b))) (ĸ b (Int.toNat a) fun g=>ck (a+(1:Int)) fun f=>d f (List.set b (Int.toNat a) (1152921504606846976:Int)))) (e b)
def RV (c:Int) (a:Int) (b:Val aa) (d:Int→Val aa→Option ρ) (e:Val aa→Option ρ):Option ρ :=
  ifb (ilt a c) (ä ((ile 0 a)&&(ilt a (î b))) (ĸ b (Int.toNat a) fun g=>ck (a+(1:Int)) fun f=>d f (List.set b (Int.toNat a) (1152921504606846976:Int)))) (e b)
def D7 (d:Val aa) (f:Val ak) (g:Int) (c:Int) (b:Val aa) (e:Int→Val aa→Option ρ) (h:Val aa→Option ρ):Option ρ :=
  ifb (ilt c g) (ě f c fun a=>ě d a.2.1 fun i=>ifb (ine i 1152921504606846976) (ä ((ile 0 a.1)&&(ilt a.1 (î b))) (ĸ b (Int.toNat a.1) fun j=>ě d a.2.1 fun k=>ck (a.2.2+k) fun l=>ä ((ile 0 a.1)&&(ilt a.1 (î b))) (ĸ b (Int.toNat a.1) fun o=>ck (c+(1:Int)) fun m=>e m (List.set b (Int.toNat a.1) (aaR j l))))) (ck (c+(1:Int)) fun n=>e n b)) (h b)
def JF (i:Int) (b:Int) (d:Val ak) (e:Int) (a:Val ag) (j:Int→Val ag→Option ρ) (k:Val ag→Option ρ):Option ρ :=
  ifb (ilt e i) (ck ((Û a)-(1:Int)) fun c=>ä ((ile 0 c)&&(ilt c (î a))) (ĸ a (Int.toNat c) fun l=>ä ((ile 0 b)&&(ê (Int.toNat b))) (Ë (fun(f:Val ŋ) m=>RV (Û (List.replicate (Int.toNat b) (0:Int))) f.1 f.2 (fun n o=>m (n,o)) (fun p=>Ë (fun(g:Val ŋ) q=>D7 l d (Û d) g.1 g.2 (fun r s=>q (r,s)) (fun h=>ä (ê ((List.length a)+(List.length ([h])))) (ck (e+(1:Int)) fun t=>j t (a++([h]))))) ((0:Int),p))) ((0:Int),(List.replicate (Int.toNat b) (0:Int)))))) (k a)
def Ly (a:Val Î) (b:Int) (f:Int) (k:Val ag→Option ρ):Option ρ :=
  ä ((ile 0 a.1)&&(ê (Int.toNat a.1))) (Ë (fun(d:Val ŋ) g=>zB (Û (List.replicate (Int.toNat a.1) (0:Int))) d.1 d.2 (fun h i=>g (h,i)) (fun c=>ä ((ile 0 b)&&(ilt b (î c))) (ĸ c (Int.toNat b) fun o=>Ë (fun(e:Val bh) j=>JF f a.1 a.2 e.1 e.2 (fun l m=>j (l,m)) (fun n=>k n)) ((0:Int),[(List.set c (Int.toNat b) (0:Int))])))) ((0:Int),(List.replicate (Int.toNat a.1) (0:Int))))
def Fk (a:Val Î) (b:Int) (c:Int):Option ((Val ag)):=Ly a b c some
def oc (d:Int) (c:Int) (e:Val ak) (a:Int) (b:Val aj) (f:Int→Val aj→Option ρ) (g:Val aj→Option ρ):Option ρ :=
  ifb (ilt a d) (Ä (Fk (c,e) a c) fun h=>ä ((ile 0 a)&&(ilt a (î b))) (ĸ b (Int.toNat a) fun j=>ck (a+(1:Int)) fun i=>f i (List.set b (Int.toNat a) h))) (g b)
def H5 (g:Int) (h:Val ag) (j:Val ak) (k:Int) (e:Int) (b:Int) (a:Int) (c:Val aa) (f:Int→Int→Int→Val aa→Option ρ) (i:Val aS→Option ρ):Option ρ :=
  ifb (ilt a k) (ě j a fun d=>ifb (ieq d.1 e) (ck (g-(1:Int)) fun l=>ě h l fun m=>ě m d.2.1 fun n=>ifb (ine n 1152921504606846976) (ck (b+d.2.2) fun o=>ck (g-(1:Int)) fun p=>ě h p fun q=>ě q d.2.1 fun r=>ck (o+r) fun s=>ifb (ilt s 0) (ä (ê ((List.length c)+(List.length ([a])))) (ck (b+d.2.2) fun t=>i (d.2.1,t,(c++([a]))))) (ck (a+(1:Int)) fun u=>f e b u c)) (ck (a+(1:Int)) fun v=>f e b v c)) (ck (a+(1:Int)) fun w=>f e b w c)) (i (e,b,c))
def yF (f:Val ag) (d:Val ak) (g:Int) (b:Int) (h:Int) (e:Val aa) (i:Int→Int→Int→Val aa→Option ρ) (j:Val aa→Option ρ):Option ρ :=
  ifb (igt b 0) (Ë (fun(a:(Val (.pair tI aS))) k=>H5 b f d (Û d) a.1 a.2.1 a.2.2.1 a.2.2.2 (fun l m n o=>k (l,m,n,o)) (fun c=>ck (b-(1:Int)) fun p=>i c.1 p c.2.1 c.2.2)) (g,h,(0:Int),e)) (j e)
def ob (e:Int) (h:Val ak) (i:Int) (j:Int) (k:Val ak) (b:Val aj) (c:Int) (f:Int→Option ρ) (l:Unit→Option ρ) (m:Val ŋ→Option ρ) (n:Unit→Option ρ):Option ρ :=
  ifb (ilt c i) (ě h c fun a=>ä ((ile 0 a.1)&&(ilt a.1 (î b))) (ĸ b (Int.toNat a.1) fun o=>ck (e-(1:Int)) fun p=>ě o p fun q=>ě q a.2.1 fun g=>ifb (ieq g 1152921504606846976) (ck (c+(1:Int)) fun r=>f r) (ck (a.2.2+g) fun s=>ifb (ige s 0) (ck (c+(1:Int)) fun t=>f t) (ifb (igt e j) (l ()) (ä ((ile 0 a.1)&&(ilt a.1 (î b))) (ĸ b (Int.toNat a.1) fun u=>Ë (fun(d:(Val (.pair tI aS))) v=>yF u k d.1 d.2.1 d.2.2.1 d.2.2.2 (fun w x y z=>v (w,x,y,z)) (fun A=>m ((0:Int),A))) (a.1,e,(0:Int),[]))))))) (n ())
def rZ (d:Int) (a:Val ak) (e:Val aj) (b:Int) (f:Int→Option ρ) (g:Unit→Option ρ) (h:Val ŋ→Option ρ):Option ρ :=
  Ë (fun(i:Int) j=>ob b a (Û a) d a e i (fun k=>j k) (fun _=>g ()) (fun c=>h (c.1,c.2)) (fun _=>ck (b+(1:Int)) fun l=>f l)) (0:Int)
def Ee (a:Val Î) (k:Val ax→Option ρ):Option ρ :=
  Ä (ow a) fun b=>ifb (ine b.1 0) (k ([],b.1)) (Ä (kT a ([])) fun e=>ifb e.2 (k ([],(5:Int))) (ä ((ile 0 a.1)&&(ê (Int.toNat a.1))) (Ë (fun(c:Val aB) f=>oc (Û (List.replicate (Int.toNat a.1) ([]:Val ag))) a.1 a.2 c.1 c.2 (fun g h=>f (g,h)) (fun i=>Ë (fun(j:Int) l=>rZ a.1 a.2 i j (fun m=>l m) (fun _=>k ([],(5:Int))) (fun d=>k (d.2,d.1))) (1:Int))) ((0:Int),(List.replicate (Int.toNat a.1) ([]:Val ag))))))
def ov (a:Val Î):Option ((Val ax)):=Ee a some
def rR (d:Val aj) (e:Int) (f:Int) (g:Int) (h:Val ae) (i:Val ab) (j:Val af) (k:Val ac) (l:Val ab) (m:Val ai) (b:Int) (a:Val ag) (n:Int→Val ag→Option ρ) (o:Val bh→Option ρ) (p:Val ag→Option ρ):Option ρ :=
  ifb (ilt b e) (ě d b fun q=>Ä (Υ (((f,g),h,i,j,k,l),m) q) fun r=>Ä (iW r) fun s=>Ä (ov s.1) fun c=>ifb (ine c.2 0) (o ((5:Int),a)) (ä (ê ((List.length a)+(List.length ([c.1])))) (ck (b+(1:Int)) fun t=>n t (a++([c.1]))))) (p a)
def Lj (a:Val Â) (k:(Val (.pair ag tI))→Option ρ):Option ρ :=
  Ä (ir a) fun b=>ifb (ine b 0) (k ([],b)) (Ä (sv a) fun c=>Ë (fun(d:Val bh) e=>rR c (Û c) a.1.1.1 a.1.1.2 a.1.2.1 a.1.2.2.1 a.1.2.2.2.1 a.1.2.2.2.2.1 a.1.2.2.2.2.2 a.2 d.1 d.2 (fun f g=>e (f,g)) (fun h=>k ([],h.1)) (fun i=>k (i,(0:Int)))) ((0:Int),[]))
def Fg (a:Val Â):Option ((Val (.pair ag tI))):=Lj a some
def nk (d:Val aa) (e:Int) (f:Val ak) (a:Int) (g:Int→Option ρ) (b:Int→Option ρ) (h:Unit→Option ρ):Option ρ :=
  ifb (ilt a e) (ě d a fun c=>ifb (ilt c 0) (b a) (ifb (ige c (Û f)) (b a) (ck (a+(1:Int)) fun i=>g i))) (h ())
def Cl (b:Val Î) (a:Val aa) (k:Int→Option ρ):Option ρ :=
  ifb (igt (Û a) 80) (k (2:Int)) (Ë (fun(c:Int) d=>nk a (Û a) b.2 c (fun e=>d e) (fun f=>ifb (ige f 0) (k (1:Int)) (k (0:Int))) (fun _=>k (0:Int))) (0:Int))
def ww (a:Val Î) (b:Val aa):Option (Int):=Cl a b some
def vH (e:Val aa) (f:Int) (g:Val ak) (c:Int) (d:Int) (a:Int) (h:Int→Int→Int→Option ρ) (i:(Val (.pair tI (.pair tI .bool)))→Option ρ) (j:Val Ã→Option ρ):Option ρ :=
  ifb (ilt a f) (ě e a fun k=>ě g k fun b=>ifb (ine b.1 c) (i ((0:Int),(0:Int),false)) (ck (d+b.2.2) fun l=>ck (a+(1:Int)) fun m=>h b.2.1 l m)) (j (c,d))
def RT (e:Val Î) (f:Int) (c:Val aa) (k:(Val (.pair tI (.pair tI .bool)))→Option ρ):Option ρ :=
  Ë (fun(a:Val ŗ) g=>vH c (Û c) e.2 a.1 a.2.1 a.2.2 (fun h i j=>g (h,i,j)) (fun b=>k (b.1,b.2.1,b.2.2)) (fun d=>k (d.1,d.2,true))) (f,(0:Int),(0:Int))
def JQ (a:Val Î) (b:Int) (c:Val aa):Option ((Val (.pair tI (.pair tI .bool)))):=RT a b c some
def sX (a:Val Î) (b:Val aa) (k:Int→Option ρ):Option ρ :=
  Ä (ow a) fun d=>ifb (ine d.1 0) (k d.1) (Ä (ww a b) fun e=>ifb (ine e 0) (k e) (ifb (ieq (Û b) 0) (k (8:Int)) (ě b (0:Int) fun g=>ě a.2 g fun f=>Ä (JQ a f.1 b) fun c=>ifb (!c.2.2) (k (8:Int)) (ifb (ine c.1 f.1) (k (8:Int)) (ifb (ige c.2.1 0) (k (8:Int)) (k (0:Int)))))))
def nt (a:Val Î) (b:Val aa):Option (Int):=sX a b some
def jG (b:Val ag) (c:Val aj) (d:Int) (e:Int) (f:Int) (g:Val ae) (h:Val ab) (i:Val af) (j:Val ac) (k:Val ab) (l:Val ai) (a:Int) (m:Int→Option ρ) (n:Int→Option ρ) (o:Unit→Option ρ):Option ρ :=
  ifb (ilt a d) (ě c a fun p=>Ä (Υ (((e,f),g,h,i,j,k),l) p) fun q=>Ä (iW q) fun r=>ě b a fun s=>Ä (nt r.1 s) fun t=>ifb (ine t 0) (n (8:Int)) (ck (a+(1:Int)) fun u=>m u)) (o ())
def sP (a:Val Â) (c:Val ag) (k:Int→Option ρ):Option ρ :=
  Ä (ir a) fun d=>ifb (ine d 0) (k d) (Ä (sv a) fun b=>ifb (ine (Û c) (Û b)) (k (8:Int)) (Ë (fun(e:Int) f=>jG c b (Û b) a.1.1.1 a.1.1.2 a.1.2.1 a.1.2.2.1 a.1.2.2.2.1 a.1.2.2.2.2.1 a.1.2.2.2.2.2 a.2 e (fun g=>f g) (fun h=>k h) (fun _=>k (0:Int))) (0:Int)))
def j8 (a:Val Â) (b:Val ag):Option (Int):=sP a b some
def HU (a:Val ac) (k:Val Â→Option ρ):Option ρ :=
  ä (ê ((List.length ([((7:Int),(10:Int),[(1:Int)],[(2:Int)],(-20:Int),(1:Int),(100:Int),(200:Int))]))+(List.length a))) (k ((((0:Int),(2:Int)),[((1:Int),(0:Int),(1000:Int),((-5:Int),(5:Int)),((1:Int),(10:Int)),(1:Int)),((2:Int),(0:Int),(1000:Int),((-50:Int),(50:Int)),((1:Int),(4:Int)),(0:Int)),((3:Int),(0:Int),(1100:Int),((-1:Int),(1:Int)),((0:Int),(1:Int)),(0:Int))],[((1:Int),(10:Int))],[((1:Int),((20:Int),(29:Int)),(3:Int))],(([((7:Int),(10:Int),[(1:Int)],[(2:Int)],(-20:Int),(1:Int),(100:Int),(200:Int))])++a),[]),[((12:Int),[(2:Int),(3:Int)])]))
def ű (a:Val ac):Option (Val Â):=HU a some
def BT (k:Bool→Option ρ):Option ρ :=
  Ä (ű ([])) fun m=>Ä (Ff m) fun b=>Ä (ű ([])) fun n=>Ä (Tz n) fun f=>Ä (ű ([((8:Int),(15:Int),[(2:Int)],[(1:Int)],(100:Int),(1:Int),(0:Int),(0:Int))])) fun o=>Ä (Fh o) fun g=>Ä (ű ([((8:Int),(15:Int),[(2:Int)],[(1:Int)],(100:Int),(1:Int),(0:Int),(0:Int))])) fun p=>Ä (uO p (2:Int) (15:Int)) fun c=>Ä (ű ([((8:Int),(15:Int),[(2:Int)],[(1:Int)],(100:Int),(1:Int),(0:Int),(0:Int)),((9:Int),(15:Int),[(3:Int)],[],(1100:Int),(0:Int),(0:Int),(0:Int))])) fun a=>Ä (JP a) fun h=>Ä (sw a ([(7:Int),(8:Int),(9:Int)])) fun i=>Ä (po a (2:Int)) fun j=>ifb (ine b.2 0) (k false) (ifb (ine f.2 0) (k false) (ifb (ine g.2 0) (k false) (ifb (ine c.2 0) (k false) (ifb (ine h.2 0) (k false) (ifb (ine i.2 0) (k false) (ifb (ine j.2 0) (k false) (ifb (ine (Û b.1) 2) (k false) (ifb (ine (Û f.1) 2) (k false) (ifb j.1 (k false) (Ä (Fg a) fun d=>ě b.1 (1:Int) fun q=>Ä (M6 a q (2:Int) (13:Int)) fun l=>ifb (ine d.2 0) (k false) (ifb (ine l.2 0) (k false) (ifb (ine l.1 3) (k false) (Ä (j8 a d.1) fun r=>ifb (ine r 0) (k false) (Ä (ű ([])) fun s=>Ä (j8 s d.1) fun t=>ifb (ine t 8) (k false) (Ä (sF g.1 ([[(3:Int),(2:Int)]])) fun u=>ifb u (ifb (ieq (Û c.1) 1) (ě c.1 (0:Int) fun e=>ifb ((xc e.1 (3:Int))&&((xc e.2.1 (1099:Int))&&((xc e.2.2 (1101:Int))&&true))) (Ä (jJ h.1 ([(8:Int),(9:Int)])) fun v=>ifb v (Ä (jJ i.1 ([(8:Int),(9:Int)])) fun w=>k w) (k false)) (k false)) (k false)) (k false))))))))))))))))
def Ĝ:Option (Bool):=BT some
def yk (a:Val Â) (b:Val ag) (k:Val aG→Option ρ):Option ρ :=
  Ä (uN a b) fun c=>ifb (ine c 0) (k (false,c)) (Ä (Ų a b) fun d=>k (d,(0:Int)))
def sE (a:Val Â) (b:Val ag):Option ((Val aG)):=yk a b some
def vz (a:Val Â) (b:Val ag) (k:Val aU→Option ρ):Option ρ :=
  Ä (uN a b) fun c=>ifb (ine c 0) (k ((((0:Int),(0:Int)),[],[],[],[],[]),c)) (Ä (Υ a b) fun d=>k (d,(0:Int)))
def pp (a:Val Â) (b:Val ag):Option ((Val aU)):=vz a b some
def Mu (a:Val É) (k:Val aW→Option ρ):Option ρ :=
  Ä (ĕ a) fun b=>ifb (ine b 0) (k ([],b)) (Ä (ox a) fun c=>k (c,(0:Int)))
def yZ (a:Val É):Option ((Val aW)):=Mu a some
def L3 (a:Val É) (b:Int) (k:(Val (.pair Ù tI))→Option ρ):Option ρ :=
  Ä (ĕ a) fun c=>ifb (ine c 0) (k (((0:Int),(0:Int),[],[],(0:Int),(0:Int),(0:Int),(0:Int)),c)) (ifb (ilt b 0) (k (((0:Int),(0:Int),[],[],(0:Int),(0:Int),(0:Int),(0:Int)),(1:Int))) (ifb (ige b (Û a.2.2.2.2.1)) (k (((0:Int),(0:Int),[],[],(0:Int),(0:Int),(0:Int),(0:Int)),(1:Int))) (ě a.2.2.2.2.1 b fun d=>k (d,(0:Int)))))
def Fo (a:Val É) (b:Int):Option ((Val (.pair Ù tI))):=L3 a b some
def ς (b:Val aa) (c:Int) (a:Int) (d:Int→Option ρ) (e:Int→Option ρ) (f:Unit→Option ρ):Option ρ :=
  ifb (ilt a c) (ě b a fun g=>Ä (ę g (-4503599627370496:Int) (4503599627370496:Int)) fun h=>ifb (!h) (e a) (ck (a+(1:Int)) fun i=>d i)) (f ())
def mQ (b:Val aD) (a:Val aa) (k:Int→Option ρ):Option ρ :=
  ifb (ine (Û a) (Û b.2.1)) (k (1:Int)) (Ë (fun(c:Int) d=>ς a (Û a) c (fun e=>d e) (fun f=>ifb (ige f 0) (k (1:Int)) (k (0:Int))) (fun _=>k (0:Int))) (0:Int))
def iw (a:Val aD) (b:Val aa):Option (Int):=mQ a b some
def L5 (b:Val É) (a:Val Ù) (c:Val Ã) (k:Val tp→Option ρ):Option ρ :=
  Ä (pL b a) fun d=>Ä (uS b a) fun e=>Ä (Fm d.1) fun h=>Ä (yY d.2) fun i=>ck (h.1+e.1) fun j=>ck (j-a.2.2.2.2.2.1) fun f=>ck (i.1+e.2) fun l=>ck (l+a.2.2.2.2.2.1) fun g=>ifb (igt f g) (k (((0:Int),(0:Int)),(5:Int))) (ck (c.1+f) fun m=>ck (c.2+g) fun n=>k ((m,n),(0:Int)))
def Fp (a:Val É) (b:Val Ù) (c:Val Ã):Option (Val tp):=L5 a b c some
def Mr (c:Val É) (j:Int) (b:Val aa) (k:Val tp→Option ρ):Option ρ :=
  Ä (Fo c j) fun a=>ifb (ine a.2 0) (k (((0:Int),(0:Int)),a.2)) (Ä (zS c) fun d=>Ä (iw d b) fun g=>ifb (ine g 0) (k (((0:Int),(0:Int)),g)) (ä (ê ((List.length ([(0:Int)]))+(List.length b))) (Ä (Ů a.1.2.2.1 a.1.2.2.2.1) fun l=>Ä (iA d l a.1.2.1) fun e=>ä ((ile 0 e)&&(ilt e (î (([(0:Int)])++b)))) (ĸ (([(0:Int)])++b) (Int.toNat e) fun m=>Ä (Ů a.1.2.2.2.1 a.1.2.2.1) fun n=>Ä (iA d n a.1.2.1) fun f=>ä ((ile 0 f)&&(ilt f (î (([(0:Int)])++b)))) (ĸ (([(0:Int)])++b) (Int.toNat f) fun o=>ck (m-o) fun h=>Ä (Fp c a.1 (h,h)) fun i=>k (i.1,i.2))))))
def uT (a:Val É) (b:Int) (c:Val aa):Option (Val tp):=Mr a b c some
def nq (f:Int) (a:Int) (c:Val ac) (g:Int→Val ac→Option ρ) (h:Val ac→Option ρ):Option ρ :=
  ifb (ilt a f) (ä ((ile 0 a)&&(ilt a (î c))) (ĸ c (Int.toNat a) fun d=>ä (ê (List.length d.2.2.1)) (ä (ê (List.length d.2.2.2.1)) (ä ((ile 0 a)&&(ilt a (î c))) (ĸ c (Int.toNat a) fun b=>ä ((ile 0 a)&&(ilt a (î (List.set c (Int.toNat a) (b.1,b.2.1,d.2.2.1,b.2.2.2))))) (ĸ (List.set c (Int.toNat a) (b.1,b.2.1,d.2.2.1,b.2.2.2)) (Int.toNat a) fun e=>ck (a+(1:Int)) fun i=>g i (List.set (List.set c (Int.toNat a) (b.1,b.2.1,d.2.2.1,b.2.2.2)) (Int.toNat a) (e.1,e.2.1,e.2.2.1,d.2.2.2.1,e.2.2.2.2)))))))) (h c)
def np (c:Int) (d:Val aa) (b:Val ac) (a:Int) (e:Int→Option ρ) (f:Int→Option ρ) (g:Unit→Option ρ):Option ρ :=
  ifb (ilt a c) (ä ((ile 0 a)&&(ilt a (î b))) (ĸ b (Int.toNat a) fun h=>Ä (Ü d h.1) fun i=>ifb i (f a) (ck (a+(1:Int)) fun j=>e j))) (g ())
def ε (f:Val aa) (b:Int) (c:Int) (a:Val ac) (d:Int→Int→Val ac→Option ρ) (g:Val aJ→Option ρ):Option ρ :=
  ifb (ilt c (Û a)) (ä ((ile 0 c)&&(ilt c (î a))) (ĸ a (Int.toNat c) fun e=>Ä (Ü f e.1) fun h=>ifb (!h) (ä ((ile 0 b)&&(ilt b (î a))) (ĸ a (Int.toNat b) fun l=>ck (b+(1:Int)) fun i=>ck (c+(1:Int)) fun j=>d i j (List.set a (Int.toNat b) e))) (ck (c+(1:Int)) fun k=>d b k a))) (g (b,a))
def CD (a:Val É) (f:Val aa) (k:Val aU→Option ρ):Option ρ :=
  Ä (ĕ a) fun g=>ifb (ine g 0) (k ((((0:Int),(0:Int)),[],[],[],[],[]),g)) (ä (ê (List.length a.2.1)) (ä (ê (List.length a.2.2.1)) (ä (ê (List.length a.2.2.2.1)) (ä (ê (List.length a.2.2.2.2.2)) (ä (ê (List.length a.2.2.2.2.1)) (Ë (fun(h:Val aJ) m=>nq (Û a.2.2.2.2.1) h.1 h.2 (fun n o=>m (n,o)) (fun c=>Ë (fun(p:Int) q=>np (Û c) f c p (fun r=>q r) (fun d=>ifb (ieq d (-1:Int)) (Ä (ĕ (a.1,a.2.1,a.2.2.1,a.2.2.2.1,c,a.2.2.2.2.2)) fun i=>ifb (ine i 0) (k ((((0:Int),(0:Int)),[],[],[],[],[]),i)) (k ((a.1,a.2.1,a.2.2.1,a.2.2.2.1,c,a.2.2.2.2.2),(0:Int)))) (ck (d+(1:Int)) fun s=>Ë (fun(e:(Val (.pair tI aJ))) t=>ε f e.1 e.2.1 e.2.2 (fun u v w=>t (u,v,w)) (fun b=>ä ((ile 0 b.1)&&(ile b.1 (î b.2))) (ä ((ile 0 b.1)&&(ile b.1 (î (List.take (Int.toNat b.1) b.2++List.replicate (List.length b.2-(Int.toNat b.1)) ((0:Int),(0:Int),[],[],(0:Int),(0:Int),(0:Int),(0:Int))++List.drop ((Int.toNat b.1)+(List.length b.2-(Int.toNat b.1))) b.2)))) (Ä (ĕ (a.1,a.2.1,a.2.2.1,a.2.2.2.1,(List.take (Int.toNat b.1) (List.drop 0 (List.take (Int.toNat b.1) b.2++List.replicate (List.length b.2-(Int.toNat b.1)) ((0:Int),(0:Int),[],[],(0:Int),(0:Int),(0:Int),(0:Int))++List.drop ((Int.toNat b.1)+(List.length b.2-(Int.toNat b.1))) b.2))),a.2.2.2.2.2)) fun j=>ifb (ine j 0) (k ((((0:Int),(0:Int)),[],[],[],[],[]),j)) (k ((a.1,a.2.1,a.2.2.1,a.2.2.2.1,(List.take (Int.toNat b.1) (List.drop 0 (List.take (Int.toNat b.1) b.2++List.replicate (List.length b.2-(Int.toNat b.1)) ((0:Int),(0:Int),[],[],(0:Int),(0:Int),(0:Int),(0:Int))++List.drop ((Int.toNat b.1)+(List.length b.2-(Int.toNat b.1))) b.2))),a.2.2.2.2.2),(0:Int))))))) (d,s,c))) (fun _=>Ä (ĕ (a.1,a.2.1,a.2.2.1,a.2.2.2.1,c,a.2.2.2.2.2)) fun l=>ifb (ine l 0) (k ((((0:Int),(0:Int)),[],[],[],[],[]),l)) (k ((a.1,a.2.1,a.2.2.1,a.2.2.2.1,c,a.2.2.2.2.2),(0:Int))))) (0:Int))) ((0:Int),a.2.2.2.2.1)))))))
def wA (a:Val É) (b:Val aa):Option ((Val aU)):=CD a b some
def BU (c:Val ac) (a:Int) (b:Val aa) (e:Int→Val aa→Option ρ) (f:Val aa→Option ρ):Option ρ :=
  ifb (ilt a (Û c)) (ě c a fun d=>ä (ê ((List.length b)+(List.length ([d.1])))) (ck (a+(1:Int)) fun g=>e g (b++([d.1])))) (f b)
def Rp (b:Val É) (k:Val aa→Option ρ):Option ρ :=
  Ë (fun(a:Val ŋ) c=>BU b.2.2.2.2.1 a.1 a.2 (fun d e=>c (d,e)) (fun f=>k f)) ((0:Int),[])
def JO (a:Val É):Option ((Val aa)):=Rp a some
def vN (d:Val aa) (e:Int) (a:Int) (f:Int→Option ρ) (b:Int→Option ρ) (g:Unit→Option ρ):Option ρ :=
  ifb (ilt a e) (ě d a fun c=>ifb (ilt c (-1152921504606846976:Int)) (b a) (ifb (igt c 1152921504606846976) (b a) (ck (a+(1:Int)) fun h=>f h))) (g ())
def mO (c:Val aa) (d:Val ak) (e:Int) (a:Int) (f:Int→Option ρ) (g:Val aG→Option ρ) (h:Unit→Option ρ):Option ρ :=
  ifb (ilt a e) (ě d a fun b=>ě c b.2.1 fun i=>ě c b.1 fun j=>ck (j+b.2.2) fun k=>ifb (igt i k) (g (false,(0:Int))) (ck (a+(1:Int)) fun l=>f l)) (h ())
def Sb (b:Val Î) (a:Val aa) (k:Val aG→Option ρ):Option ρ :=
  Ä (ow b) fun c=>ifb (ine c.1 0) (k (false,c.1)) (ifb (ine (Û a) b.1) (k (false,(1:Int))) (Ë (fun(f:Int) g=>vN a (Û a) f (fun h=>g h) (fun i=>ifb (ige i 0) (k (false,(1:Int))) (Ë (fun(j:Int) l=>mO a b.2 (Û b.2) j (fun m=>l m) (fun d=>k (d.1,d.2)) (fun _=>ě a (0:Int) fun n=>k (ieq n 0,(0:Int)))) (0:Int))) (fun _=>Ë (fun(o:Int) p=>mO a b.2 (Û b.2) o (fun q=>p q) (fun e=>k (e.1,e.2)) (fun _=>ě a (0:Int) fun r=>k (ieq r 0,(0:Int)))) (0:Int))) (0:Int)))
def JR (a:Val Î) (b:Val aa):Option ((Val aG)):=Sb a b some
def s7 (b:Val aD) (a:Val aa) (k:Bool→Option ρ):Option ρ :=
  ä (ê ((List.length ([(0:Int)]))+(List.length a))) (Ä (JR b.2.2.1 (([(0:Int)])++a)) fun c=>k c.1)
def nu (a:Val aD) (b:Val aa):Option (Bool):=s7 a b some
def Tc (a:Val É) (b:Val aa) (k:Val aG→Option ρ):Option ρ :=
  Ä (ĕ a) fun c=>ifb (ine c 0) (k (false,c)) (Ä (zS a) fun d=>Ä (iw d b) fun e=>ifb (ine e 0) (k (false,e)) (Ä (nu d b) fun f=>k (f,(0:Int))))
def JS (a:Val É) (b:Val aa):Option ((Val aG)):=Tc a b some
def kp (e:Val aa) (f:Int) (g:Int) (h:Val ae) (i:Val ab) (j:Val af) (b:Val ac) (k:Val ab) (a:Int) (l:Int→Option ρ) (c:Bool→Option ρ) (m:Unit→Option ρ):Option ρ :=
  ifb (ilt a (Û b)) (Ä (uT ((f,g),h,i,j,b,k) a e) fun d=>ifb (ine d.2 0) (Ä Ĝ fun n=>c n) (ě b a fun o=>ifb (ilt o.2.2.2.2.1 d.1.1) (Ä Ĝ fun p=>c p) (ě b a fun q=>ifb (igt q.2.2.2.2.1 d.1.2) (Ä Ĝ fun r=>c r) (ck (a+(1:Int)) fun s=>l s)))) (m ())
def iQ (j:Val ab) (b:Int) (c:Int) (d:Int) (e:Val ae) (f:Val ab) (g:Val af) (h:Val ac) (i:Val ab) (k:Int→Int→Int→Val ae→Val ab→Val af→Val ac→Val ab→Option ρ) (l:(Val (.pair .bool aq))→Option ρ) (m:Val aq→Option ρ):Option ρ :=
  ifb (ilt b (Û j)) (ě j b fun n=>Ä (ka ((c,d),e,f,g,h,i) n) fun o=>ifb (ieq o.2 0) (ck (b+(1:Int)) fun p=>k p c d e f g h i) (ě j b fun q=>Ä (wB ((c,d),e,f,g,h,i) q) fun a=>ifb (ine a.2 0) (Ä Ĝ fun r=>l (r,c,d,e,f,g,h,i)) (ck (b+(1:Int)) fun s=>k s a.1.1.1 a.1.1.2 a.1.2.1 a.1.2.2.1 a.1.2.2.2.1 a.1.2.2.2.2.1 a.1.2.2.2.2.2))) (m (c,d,e,f,g,h,i))
def km (b:Val aa) (i:Int) (c:Val ab) (d:Val ak) (j:Int) (e:Int) (a:Int) (f:Int→Option ρ) (g:Bool→Option ρ) (k:Unit→Option ρ):Option ρ :=
  ifb (ilt a (Û c)) (ě c a fun h=>ifb ((xc h.1 j)&&((xc h.2 i)&&true)) (ě b a fun l=>ě d e fun m=>ifb (ilt l m.2.1) (g false) (ě b a fun n=>ě d e fun o=>ifb (igt n o.2.2) (g false) (ck (a+(1:Int)) fun p=>f p))) (ck (a+(1:Int)) fun q=>f q)) (k ())
def iP (e:Val aa) (f:Int) (g:Val ab) (b:Val ak) (c:Int) (a:Int) (h:Int→Option ρ) (d:Bool→Option ρ) (i:Unit→Option ρ):Option ρ :=
  ifb (ilt a (Û b)) (ě b a fun j=>ifb (ine j.1 c) (ck (a+(1:Int)) fun k=>h k) (Ë (fun(l:Int) m=>km e f g b c a l (fun n=>m n) (fun o=>d o) (fun _=>Ä Ĝ fun p=>d p)) (0:Int))) (i ())
def vt (d:Val Â) (l:Int) (f:Val aa) (m:Int) (h:Int) (k:Bool→Option ρ):Option ρ :=
  Ä (zN d) fun s=>ifb (!s) (Ä Ĝ fun t=>k t) (ifb (igt (Û f) 70) (Ä Ĝ fun u=>k u) (ifb (ilt l 0) (Ä Ĝ fun v=>k v) (Ä (Ff d) fun e=>ifb (ine e.2 0) (Ä Ĝ fun w=>ifb w (k (ine e.2 0)) (k false)) (ifb (ieq (Û e.1) 0) (Ä Ĝ fun x=>ifb x (k (ine e.2 0)) (k false)) (ifb (xc (Û e.1) 0) (none) (ě e.1 (Int.tmod l (Û e.1)) fun i=>Ä (pp d i) fun a=>Ä (yZ a.1) fun g=>Ä (yZ d.1) fun n=>ifb (ine a.2 0) (k false) (Ä (ĕ a.1) fun y=>ifb (ine y 0) (k false) (ifb (ine g.2 0) (k false) (ifb (ine n.2 0) (k false) (ifb (ine (Û g.1) (Û n.1)) (k false) (ifb (ine (Û f) (Û g.1)) (Ä Ĝ fun z=>k z) (Ë (fun(A:Int) B=>kp f a.1.1.1 a.1.1.2 a.1.2.1 a.1.2.2.1 a.1.2.2.2.1 a.1.2.2.2.2.1 a.1.2.2.2.2.2 A (fun C=>B C) (fun D=>k D) (fun _=>Ä (JO a.1) fun E=>Ä (wA a.1 E) fun b=>ifb (ine b.2 0) (k false) (Ë (fun(c:(Val (.pair tI aq))) F=>iQ g.1 c.1 c.2.1 c.2.2.1 c.2.2.2.1 c.2.2.2.2.1 c.2.2.2.2.2.1 c.2.2.2.2.2.2.1 c.2.2.2.2.2.2.2 (fun G H I J K L M N=>F (G,H,I,J,K,L,M,N)) (fun O=>k O.1) (fun j=>Ä (JS ((j.1,j.2.1),j.2.2) f) fun o=>ifb (ine o.2 0) (Ä Ĝ fun P=>k P) (ifb (!o.1) (Ä Ĝ fun Q=>k Q) (Ä (sE d i) fun p=>ifb (ine p.2 0) (k false) (ifb (!p.1) (k false) (Ä (uO d m h) fun q=>Ä (M6 d i m h) fun r=>ifb (ine q.2 0) (Ä Ĝ fun R=>k R) (ifb (ine r.2 0) (Ä Ĝ fun S=>k S) (Ë (fun(T:Int) U=>iP f h g.1 q.1 r.1 T (fun V=>U V) (fun W=>k W) (fun _=>k false)) (0:Int))))))))) ((0:Int),b.1.1.1,b.1.1.2,b.1.2.1,b.1.2.2.1,b.1.2.2.2.1,b.1.2.2.2.2.1,b.1.2.2.2.2.2)))) (0:Int)))))))))))))
def wu (a:Val Â) (b:Int) (c:Val aa) (d:Int) (e:Int):Option (Bool):=vt a b c d e some
end Go.Proofs.ZzM
end
