/- lemmas -/
import Derived.Test.YtdmegkgjpgcfgaaGreatAmE
set_option linter.all false
set_option linter.unusedSectionVars false
set_option linter.unusedVariables false
set_option linter.unusedSimpArgs false
noncomputable section
variable {ρ:Type}
set_option maxRecDepth 100000
namespace Go.Proofs.ZzM
open Go Go.Am
abbrev tI:Ty:=.int .i64
abbrev Ä:Ty:=(.pair tI tI)
abbrev Œ:Ty:=(.pair tI Ä)
abbrev ŏ:Ty:=(.pair tI (.slice tI))
abbrev Ĕ:Ty:=(.pair Ä Ä)
abbrev Cb:Ty:=(.pair Ä tI)
abbrev iu:Ty:=(.pair tI Cb)
abbrev abq:Ty:=(.pair Ĕ tI)
abbrev Ë:Ty:=(.pair tI (.slice Œ))
abbrev Ca:Ty:=(.pair (.slice Œ) (.slice Ä))
abbrev Õ:Ty:=(.pair tI (.pair tI (.pair tI (.pair Ä Cb))))
abbrev â:Ty:=(.pair tI (.pair tI (.pair (.slice tI) (.pair (.slice tI) (.pair tI Œ)))))
abbrev É:Ty:=(.pair Ä (.pair (.slice Õ) (.pair (.slice Ä) (.pair (.slice iu) (.pair (.slice â) (.slice Ä))))))
abbrev Â:Ty:=(.pair É (.slice ŏ))
abbrev agt:Ty:=(.pair É (.pair (.slice Ä) (.pair Ë (.slice Ä))))
def yO (l:List Int):Option (List Int):=è (î l.length) (some l)
def Iq:Nat→List Int→List (List Int)
  |0,_=>[[]]
  |n+1,l=>if l.length=0 then[[]] else(List.range l.length).flatMap fun i=>(Iq n (l.take i++l.drop (i+1))).map (l.getD i 0::·)
def jA:List (Int×List Int)→List (List (List Int))
  |[]=>[[]]
  |m::r=>(Iq m.2.length m.2).flatMap fun x=>(jA r).map (x::·)
def yP (l:List Int):Option (List (List Int)):=è (decide (l.length≤9)) (some (Iq l.length l))
def me (l:List (Int×List Int)):Option (List (List (List Int))):=è (decide (l.length≤9)&&l.all fun m=>decide (m.2.length≤9)) (some (jA l))
abbrev aa:Ty:=(.slice tI)
abbrev ab:Ty:=(.slice Ä)
abbrev ac:Ty:=(.pair tI (.pair tI (.pair (.slice Õ) (.pair ab (.pair (.slice iu) (.pair (.slice â) (.pair ab (.slice ŏ))))))))
abbrev ae:Ty:=(.slice â)
abbrev af:Ty:=(.slice aa)
abbrev ag:Ty:=(.slice Õ)
abbrev ah:Ty:=(.slice iu)
abbrev ai:Ty:=(.slice ŏ)
abbrev aj:Ty:=(.slice af)
abbrev ak:Ty:=(.slice Œ)
abbrev am:Ty:=(.map tI Õ)
abbrev ao:Ty:=(.map tI .bool)
abbrev aq:Ty:=(.slice .bool)
abbrev ar:Ty:=(.ptr Â)
abbrev au:Ty:=(.pair tI (.pair aj ac))
abbrev aw:Ty:=(.pair aa tI)
abbrev ax:Ty:=(.pair tI (.pair tI (.pair ag (.pair ab (.pair ah (.pair ae (.pair ab (.pair ai ac))))))))
abbrev ay:Ty:=(.pair tI (.pair tI (.pair tI (.pair tI (.pair tI Œ)))))
abbrev az:Ty:=(.pair tI ac)
abbrev aB:Ty:=(.pair tI aj)
abbrev aD:Ty:=(.ptr agt)
abbrev aE:Ty:=(.pair tI (.pair tI (.pair ag (.pair ab (.pair ah (.pair ae ab))))))
abbrev aF:Ty:=(.pair aa (.pair tI (.pair tI (.pair tI (.pair ag (.pair ab (.pair ah (.pair ae (.pair ab (.pair tI (.pair aa (.map tI tI))))))))))))
abbrev aG:Ty:=(.pair .bool tI)
abbrev aH:Ty:=(.ptr af)
abbrev aI:Ty:=(.pair Â af)
abbrev aJ:Ty:=(.pair tI (.pair tI (.pair tI (.pair ag (.pair ab (.pair ah (.pair ae (.pair ab ay))))))))
abbrev aK:Ty:=(.pair É Ä)
abbrev aL:Ty:=(.pair tI Ë)
abbrev aM:Ty:=(.pair aq aa)
abbrev aO:Ty:=(.pair aa (.pair aq (.pair aa aa)))
abbrev aP:Ty:=(.pair tI (.pair tI (.pair tI (.pair tI (.pair tI au)))))
abbrev aQ:Ty:=(.pair tI ŏ)
abbrev aR:Ty:=(.map tI Ä)
abbrev aS:Ty:=(.pair aa (.pair tI (.pair tI aw)))
abbrev aT:Ty:=(.pair tI ae)
abbrev aU:Ty:=(.pair Ë aa)
abbrev aV:Ty:=(.pair aa ŏ)
abbrev aW:Ty:=(.map tI tI)
abbrev aX:Ty:=(.pair É â)
abbrev aY:Ty:=(.pair tI ab)
abbrev aZ:Ty:=(.pair af tI)
abbrev ba:Ty:=(.pair Â (.pair af Ä))
abbrev bc:Ty:=(.pair tI af)
abbrev bf:Ty:=(.pair ab tI)
abbrev bg:Ty:=(.pair aa (.pair ai aa))
abbrev bh:Ty:=(.pair tI (.pair tI az))
abbrev bi:Ty:=(.pair (.int .u64) (.int .u64))
abbrev bj:Ty:=(.pair Â (.pair af aa))
abbrev bm:Ty:=(.pair É (.pair am tI))
abbrev bn:Ty:=(.pair tI (.pair tI (.pair ak Ë)))
def Κ (d:Val af) (e:Int) (b:Int) (a:Int) (f:Int→Int→Option ρ) (g:Int→Option ρ):Option ρ :=
  ifb (ilt a e) (ĝ d a fun h=>ck (b+(Ù h)) fun c=>ifb (ilt c 0) (none) (ck (a+(1:Int)) fun i=>f c i)) (g b)
def Ĝ (d:Val af) (e:Int) (a:Int) (b:Val aa) (f:Int→Val aa→Option ρ) (g:Val aa→Option ρ):Option ρ :=
  ifb (ilt a e) (ĝ d a fun c=>è (î ((List.length b)+(List.length c))) (ck (a+(1:Int)) fun h=>f h (b++c))) (g b)
def kJ (a:Val af) (k:Val aa→Option ρ):Option ρ :=
  Ê (fun(c:Val Ä) g=>Κ a (Ù a) c.1 c.2 (fun h i=>g (h,i)) (fun d=>ifb (ilt d 0) (none) (ck (d-(0:Int)) fun b=>ifb (igt b 0) (è ((ilt 0 b)&&(î (Int.toNat b))) (è (ile 0 (ò (List.replicate (Int.toNat b) (0:Int)))) (Ê (fun(e:Val ŏ) j=>Ĝ a (Ù a) e.1 e.2 (fun l m=>j (l,m)) (fun n=>k n)) ((0:Int),(List.take 0 (List.replicate (Int.toNat b) (0:Int))))))) (Ê (fun(f:Val ŏ) o=>Ĝ a (Ù a) f.1 f.2 (fun p q=>o (p,q)) (fun r=>k r)) ((0:Int),[]))))) ((0:Int),(0:Int))
def Ģ (a:Val af):Option ((Val aa)):=kJ a some
def pk (al:Val af) (rec:Val aa→Option ((Val af))) (a:Int) (b:Val af) (y:Val aa) (c:Val af→Option ρ):Option ρ :=
  è (î ((List.length ([a]))+(List.length y))) (yg al (b++[(([a])++y)]) (c (b++[(([a])++y)])))
def pl (al:Val af) (rec:Val aa→Option ((Val af))) (e:Val aa) (f:Int) (b:Val aa) (a:Int) (d:Val af) (g:Int→Val af→Option ρ) (h:Val af→Option ρ):Option ρ :=
  ifb (ilt a f) (ĝ e a fun i=>è ((ile 0 a)&&(ile a (ò b))) (ck (a+(1:Int)) fun c=>è ((ile 0 c)&&(ile c (ò b))) (Ã (Ģ ([(List.take (Int.toNat a) b),(List.drop (Int.toNat c) b)])) fun j=>Ã (rec j) fun k=>ya (fun(l:Val af) (m:Val aa) n=>pk al rec i l m (fun o=>n o)) k (d) (fun p=>ck (a+(1:Int)) fun q=>g q p)))) (h d)
def wZ (al:Val af) (rec:Val aa→Option ((Val af))) (mm:Val aa) (k:((Val af))×((Val aa))→Option ρ):Option ρ :=
  ifb (ieq (Ù mm) 0) (yg al (([])++[[]]) (k ((([])++[[]]),mm))) (Ê (fun(a:Val bc) b=>pl al rec mm (Ù mm) mm a.1 a.2 (fun c d=>b (c,d)) (fun e=>k (e,mm))) ((0:Int),[]))
def lU (al:Val aj) (rec:Val ai→Option ((Val aj))) (a:Val aa) (b:Val aj) (y:Val af) (c:Val aj→Option ρ):Option ρ :=
  è (î ((List.length ([a]))+(List.length y))) (yg al (b++[(([a])++y)]) (c (b++[(([a])++y)])))
def lV (al:Val aj) (rec:Val ai→Option ((Val aj))) (a:Val ai) (b:Val aj) (y:Val aa) (c:Val aj→Option ρ):Option ρ :=
  è (ile 1 (ò a)) (Ã (rec (List.drop 1 a)) fun d=>ya (fun(e:Val aj) (f:Val af) g=>lU al rec y e f (fun h=>g h)) d (b) (fun i=>c i))
def rQ (al:Val aj) (rec:Val ai→Option ((Val aj))) (mm:Val ai) (k:((Val aj))×((Val ai))→Option ρ):Option ρ :=
  ifb (ieq (Ù mm) 0) (yg al (([])++[[]]) (k ((([])++[[]]),mm))) (ĝ mm (0:Int) fun a=>Ã (yP a.2) fun b=>ya (fun(c:Val aj) (d:Val aa) e=>lV al rec mm c d (fun f=>e f)) b ([]) (fun g=>k (g,mm)))
def gX (al:Val aa) (rec:Val aa→Option ((Val aa))) (d:Val aa) (e:Int) (a:Int) (b:Val aa) (f:Int→Val aa→Option ρ) (g:Val aa→Option ρ):Option ρ :=
  ifb (ilt a e) (ĝ d a fun c=>yg al (b++[c]) (ck (a+(1:Int)) fun h=>f h (b++[c]))) (g b)
def jo (al:Val aa) (rec:Val aa→Option ((Val aa))) (mm:Val aa) (k:((Val aa))×((Val aa))→Option ρ):Option ρ :=
  Ê (fun(a:Val ŏ) b=>gX al rec mm (Ù mm) a.1 a.2 (fun c d=>b (c,d)) (fun e=>k (e,mm))) ((0:Int),[])
def Ω (b:Val aa) (c:Int) (d:Int) (a:Int) (e:Int→Option ρ) (f:Int→Option ρ) (g:Unit→Option ρ):Option ρ :=
  ifb (ilt a d) (ĝ b a fun h=>ifb (ieq c h) (f a) (ck (a+(1:Int)) fun i=>e i)) (g ())
def lX (a:Val aa) (b:Int) (k:Int→Option ρ):Option ρ :=
  Ê (fun(c:Int) d=>Ω a b (Ù a) c (fun e=>d e) (fun f=>k f) (fun _=>k (-1:Int))) (0:Int)
def ω (a:Val aa) (b:Int):Option (Int):=lX a b some
def jp (a:Val aa) (b:Int) (k:Bool→Option ρ):Option ρ :=
  Ã (ω a b) fun c=>k (ige c 0)
def Ü (a:Val aa) (b:Int):Option (Bool):=jp a b some
def vf (f:Val ae) (g:Int) (d:Int) (a:Int) (b:Val aa) (e:Int→Val aa→Option ρ) (h:Val aa→Option ρ):Option ρ :=
  ifb (ilt a g) (ĝ f a fun c=>Ã (Ü c.2.2.1 d) fun i=>Ã (Ü c.2.2.2.1 d) fun j=>ifb (!(i==j)) (è (î ((List.length b)+(List.length ([c.2.1])))) (ck (a+(1:Int)) fun k=>e k (b++([c.2.1])))) (ck (a+(1:Int)) fun l=>e l b)) (h b)
def vd (e:Val ab) (f:Int) (g:Int) (a:Int) (b:Val aa) (d:Int→Val aa→Option ρ) (h:Val aa→Option ρ):Option ρ :=
  ifb (ilt a f) (ĝ e a fun c=>ifb (ieq c.1 g) (è (î ((List.length b)+(List.length ([c.2])))) (ck (a+(1:Int)) fun i=>d i (b++([c.2])))) (ck (a+(1:Int)) fun j=>d j b)) (h b)
def Rb (a:Val É) (b:Val Õ) (k:Val aa→Option ρ):Option ρ :=
  Ê (fun(d:Val ŏ) f=>vf a.2.2.2.2.1 (Ù a.2.2.2.2.1) b.1 d.1 d.2 (fun g h=>f (g,h)) (fun i=>Ê (fun(e:Val ŏ) j=>vd a.2.2.2.2.2 (Ù a.2.2.2.2.2) b.1 e.1 e.2 (fun l m=>j (l,m)) (fun c=>è (î (List.length c)) (è (î (List.length (ww c))) (k (ze (ww c)))))) ((0:Int),i))) ((0:Int),[b.2.1])
def oE (a:Val É) (b:Val Õ):Option ((Val aa)):=Rb a b some
def qZ (e:Val aa) (f:Int) (c:Int) (a:Int) (b:Val ab) (g:Int→Val ab→Option ρ) (h:Val ab→Option ρ):Option ρ :=
  ifb (ilt a f) (ĝ e a fun d=>è (î ((List.length b)+(List.length ([(c,d)])))) (ck (a+(1:Int)) fun i=>g i (b++([(c,d)])))) (h b)
def rc (f:Val ag) (g:Int) (h:Int) (i:Int) (j:Val ag) (k:Val ab) (l:Val ah) (m:Val ae) (n:Val ab) (a:Int) (b:Val ab) (o:Int→Val ab→Option ρ) (p:Val ab→Option ρ):Option ρ :=
  ifb (ilt a g) (ĝ f a fun c=>Ã (oE ((h,i),j,k,l,m,n) c) fun d=>Ê (fun(e:Val aY) q=>qZ d (Ù d) c.1 e.1 e.2 (fun r s=>q (r,s)) (fun t=>ck (a+(1:Int)) fun u=>o u t)) ((0:Int),b)) (p b)
def KS (a:Val É) (k:Val ab→Option ρ):Option ρ :=
  Ê (fun(b:Val aY) c=>rc a.2.1 (Ù a.2.1) a.1.1 a.1.2 a.2.1 a.2.2.1 a.2.2.2.1 a.2.2.2.2.1 a.2.2.2.2.2 b.1 b.2 (fun d e=>c (d,e)) (fun f=>k f)) ((0:Int),[])
def pQ (a:Val É):Option ((Val ab)):=KS a some
def FK (a:Val Ä) (b:Int) (c:Int) (k:Bool→Option ρ):Option ρ :=
  ifb (ile b a.1) (ifb (ile a.1 a.2) (k (ile a.2 c)) (k false)) (k false)
def Δ (a:Val Ä) (b:Int) (c:Int):Option (Bool):=FK a b c some
def FB (a:Int) (b:Int) (c:Int) (k:Bool→Option ρ):Option ρ :=
  ifb (ile b a) (k (ile a c)) (k false)
def ē (a:Int) (b:Int) (c:Int):Option (Bool):=FB a b c some
def KY (a:Int) (k:Bool→Option ρ):Option ρ :=
  Ã (ē a (0:Int) (20000:Int)) fun b=>k b
def kT (a:Int):Option (Bool):=KY a some
def QK (a:Int) (k:Int→Option ρ):Option ρ :=
  ifb (ilt a 0) (k (IntKind.wrap .u64 (0-(IntKind.wrap .u64 a)))) (k (IntKind.wrap .u64 a))
def rG (a:Int):Option (Int):=QK a some
def yI (b:Int) (a:Int) (c:Int→Int→Option ρ) (d:Int→Option ρ):Option ρ :=
  ifb (ine a 0) (ifb (BX a 0) (none) (c a (Int.tmod b a))) (d b)
def WW (b:Int) (c:Int) (k:Int→Option ρ):Option ρ :=
  Ê (fun(a:Val bi) d=>yI a.1 a.2 (fun e f=>d (e,f)) (fun g=>k g)) (b,c)
def LK (a:Int) (b:Int):Option (Int):=WW a b some
def KI (a:Val Ä) (k:Bool→Option ρ):Option ρ :=
  ifb (ige a.2 1) (ifb (ile a.2 2147483647) (Ã (rG a.1) fun b=>ifb (ile b 2147483647) (Ã (rG a.1) fun c=>Ã (rG a.2) fun d=>Ã (LK c d) fun e=>k (ieq e 1)) (k false)) (k false)) (k false)
def tQ (a:Val Ä):Option (Bool):=KI a some
def BJ (a:Val Õ) (k:Bool→Option ρ):Option ρ :=
  Ã (tQ a.2.2.2.2.1) fun b=>ifb b (Ã (ē a.2.2.2.2.1.1 (-1000:Int) (1000:Int)) fun c=>ifb c (Ã (ē a.1 (1:Int) (1099511627776:Int)) fun d=>ifb d (Ã (kT a.2.1) fun e=>ifb e (Ã (ē a.2.2.1 (1:Int) (1125899906842624:Int)) fun f=>ifb f (Ã (Δ a.2.2.2.1 (-1073741824:Int) (1073741824:Int)) fun g=>ifb g (ifb (ile a.2.2.2.2.1.2 100) (Ã (ē a.2.2.2.2.2 (0:Int) (1048576:Int)) fun h=>k h) (k false)) (k false)) (k false)) (k false)) (k false)) (Ã (ē a.1 (1:Int) (1099511627776:Int)) fun i=>ifb i (Ã (kT a.2.1) fun j=>ifb j (Ã (ē a.2.2.1 (1:Int) (1125899906842624:Int)) fun l=>ifb l (Ã (Δ a.2.2.2.1 (-1073741824:Int) (1073741824:Int)) fun m=>ifb m (k false) (k false)) (k false)) (k false)) (k false))) (Ã (ē a.1 (1:Int) (1099511627776:Int)) fun n=>ifb n (Ã (kT a.2.1) fun o=>ifb o (Ã (ē a.2.2.1 (1:Int) (1125899906842624:Int)) fun p=>ifb p (Ã (Δ a.2.2.2.1 (-1073741824:Int) (1073741824:Int)) fun q=>ifb q (k false) (k false)) (k false)) (k false)) (k false))
def vv (a:Val Õ):Option (Bool):=BJ a some
def iA (e:Val ag) (f:Int) (g:Val ag) (a:Int) (b:Int→Option ρ) (c:Int→Option ρ) (h:Unit→Option ρ):Option ρ :=
  ifb (ilt a f) (ĝ e a fun d=>Ã (vv d) fun i=>ifb (!i) (c (1:Int)) (ifb (igt a 0) (ck (a-(1:Int)) fun j=>ĝ g j fun k=>ifb (ile d.1 k.1) (c (6:Int)) (ck (a+(1:Int)) fun l=>b l)) (ck (a+(1:Int)) fun m=>b m))) (h ())
def pH (a:Val É) (k:Int→Option ρ):Option ρ :=
  Ê (fun(b:Int) c=>iA a.2.1 (Ù a.2.1) a.2.1 b (fun d=>c d) (fun e=>k e) (fun _=>k (0:Int))) (0:Int)
def ŷ (a:Val É):Option (Int):=pH a some
def mw (d:Val ag) (e:Int) (a:Int) (b:Val am) (f:Int→Val am→Option ρ) (g:Val am→Option ρ):Option ρ :=
  ifb (ilt a e) (ĝ d a fun c=>ck (a+(1:Int)) fun h=>f h (Oz (k:=tI) (v:=Õ) c.1 c b)) (g b)
def BG (a:Val É) (k:Val am→Option ρ):Option ρ :=
  Ê (fun(b:(Val (.pair tI am))) c=>mw a.2.1 (Ù a.2.1) b.1 b.2 (fun d e=>c (d,e)) (fun f=>k f)) ((0:Int),[])
def Ķ (a:Val É):Option ((Val am)):=BG a some
def rZ (a:Val am) (b:Int) (c:Int) (k:Int→Option ρ):Option ρ :=
  Mn (k:=tI) (v:=Õ) b a (fun d=>ifb (ilt c d.2.1) (k (4:Int)) (k (0:Int))) (k (5:Int))
def il (a:Val am) (b:Int) (c:Int):Option (Int):=rZ a b c some
def BI (b:Int) (a:Int) (c:(Val (.ptr am))) (k:Int→Option ρ):Option ρ :=
  Ã (kT a) fun d=>ifb (!d) (k (1:Int)) (Ã (il c b a) fun e=>k e)
def ķ (a:Int) (b:Int) (c:(Val (.ptr am))):Option (Int):=BI a b c some
def jN (d:Val ah) (e:Int) (f:Int) (g:Int) (h:Int) (a:Int) (b:Int→Option ρ) (i:Int→Option ρ) (j:Unit→Option ρ):Option ρ :=
  ifb (ilt a e) (ĝ d a fun c=>ifb (ieq c.1 f) (ifb (ile c.2.1.1 h) (ifb (ile g c.2.1.2) (i a) (ck (a+(1:Int)) fun k=>b k)) (ck (a+(1:Int)) fun l=>b l)) (ck (a+(1:Int)) fun m=>b m)) (j ())
def Γ (d:Val ab) (e:Int) (f:Int) (g:Int) (h:Int) (a:Int) (b:Int→Option ρ) (i:Int→Option ρ) (j:Unit→Option ρ):Option ρ :=
  ifb (ilt a e) (ĝ d a fun c=>ifb (ieq c.1 f) (Ã (ē c.2 g h) fun k=>ifb k (i a) (ck (a+(1:Int)) fun l=>b l)) (ck (a+(1:Int)) fun m=>b m)) (j ())
def vg (b:Val É) (e:Val am) (c:Int) (k:Int→Option ρ):Option ρ :=
  ĝ b.2.2.2.1 c fun a=>Ã (Δ a.2.1 (0:Int) (20000:Int)) fun f=>ifb (!f) (k (1:Int)) (Ã (ē a.2.2 (0:Int) (1048576:Int)) fun g=>ifb (!g) (k (1:Int)) (Ã (il e a.1 a.2.1.1) fun d=>ifb (ine d 0) (k d) (è ((ile 0 c)&&(ile c (ò b.2.2.2.1))) (Ê (fun(h:Int) i=>jN (List.take (Int.toNat c) b.2.2.2.1) (Ù (List.take (Int.toNat c) b.2.2.2.1)) a.1 a.2.1.1 a.2.1.2 h (fun j=>i j) (fun l=>ifb (ige l 0) (k (9:Int)) (Ê (fun(m:Int) n=>Γ b.2.2.1 (Ù b.2.2.1) a.1 a.2.1.1 a.2.1.2 m (fun o=>n o) (fun p=>ifb (ige p 0) (k (9:Int)) (k (0:Int))) (fun _=>k (0:Int))) (0:Int))) (fun _=>Ê (fun(q:Int) r=>Γ b.2.2.1 (Ù b.2.2.1) a.1 a.2.1.1 a.2.1.2 q (fun s=>r s) (fun t=>ifb (ige t 0) (k (9:Int)) (k (0:Int))) (fun _=>k (0:Int))) (0:Int))) (0:Int)))))
def Μ (a:Val É) (b:Val am) (c:Int):Option (Int):=vg a b c some
def vc (c:Int) (d:Val aa) (b:Val aa) (a:Int) (e:Int→Option ρ) (f:Int→Option ρ) (g:Unit→Option ρ):Option ρ :=
  ifb (ilt a c) (è ((ile 0 a)&&(ilt a (ò b))) (Ľ b (Int.toNat a) fun h=>Ã (Ü d h) fun i=>ifb i (f a) (ck (a+(1:Int)) fun j=>e j))) (g ())
def jW (f:Val aa) (b:Int) (c:Int) (a:Val aa) (d:Int→Int→Val aa→Option ρ) (g:Val ŏ→Option ρ):Option ρ :=
  ifb (ilt c (Ù a)) (è ((ile 0 c)&&(ilt c (ò a))) (Ľ a (Int.toNat c) fun e=>Ã (Ü f e) fun h=>ifb (!h) (è ((ile 0 b)&&(ilt b (ò a))) (Ľ a (Int.toNat b) fun l=>ck (b+(1:Int)) fun i=>ck (c+(1:Int)) fun j=>d i j (List.set a (Int.toNat b) e))) (ck (c+(1:Int)) fun k=>d b k a))) (g (b,a))
def Q2 (b:Val aa) (e:Val aa) (k:Val aa→Option ρ):Option ρ :=
  è (î (List.length b)) (Ê (fun(f:Int) g=>vc (Ù b) e b f (fun h=>g h) (fun c=>ifb (ieq c (-1:Int)) (k b) (ck (c+(1:Int)) fun i=>Ê (fun(d:Val aQ) j=>jW e d.1 d.2.1 d.2.2 (fun l m n=>j (l,m,n)) (fun a=>è ((ile 0 a.1)&&(ile a.1 (ò a.2))) (è ((ile 0 a.1)&&(ile a.1 (ò (List.take (Int.toNat a.1) a.2++List.replicate (List.length a.2-(Int.toNat a.1)) (0:Int)++List.drop ((Int.toNat a.1)+(List.length a.2-(Int.toNat a.1))) a.2)))) (k (List.take (Int.toNat a.1) (List.drop 0 (List.take (Int.toNat a.1) a.2++List.replicate (List.length a.2-(Int.toNat a.1)) (0:Int)++List.drop ((Int.toNat a.1)+(List.length a.2-(Int.toNat a.1))) a.2))))))) (c,i,b))) (fun _=>k b)) (0:Int))
def Λ (a:Val aa) (b:Val aa):Option ((Val aa)):=Q2 a b some
def ox (e:Val aa) (f:Val aa) (g:Int) (a:Int) (b:Int→Option ρ) (c:Bool→Option ρ) (h:Unit→Option ρ):Option ρ :=
  ifb (ilt a g) (ĝ f a fun d=>Ã (ē d (1:Int) (1099511627776:Int)) fun i=>ifb (!i) (c false) (ifb (igt a 0) (ck (a-(1:Int)) fun j=>ĝ e j fun k=>ifb (ile d k) (c false) (ck (a+(1:Int)) fun l=>b l)) (ck (a+(1:Int)) fun m=>b m))) (h ())
def FJ (a:Val aa) (k:Bool→Option ρ):Option ρ :=
  Ê (fun(b:Int) c=>ox a a (Ù a) b (fun d=>c d) (fun e=>k e) (fun _=>k (ile (Ù a) 6))) (0:Int)
def mh (a:Val aa):Option (Bool):=FJ a some
def vh (d:Val ah) (e:Int) (f:Int) (g:Int) (a:Int) (c:Int→Option ρ) (h:Int→Option ρ) (i:Unit→Option ρ):Option ρ :=
  ifb (ilt a e) (ĝ d a fun b=>ifb (ieq b.1 f) (Ã (ē g b.2.1.1 b.2.1.2) fun j=>ifb j (h a) (ck (a+(1:Int)) fun k=>c k)) (ck (a+(1:Int)) fun l=>c l)) (i ())
def Rc (a:Val É) (c:Int) (d:Int) (k:(Val (.pair iu .bool))→Option ρ):Option ρ :=
  Ê (fun(e:Int) f=>vh a.2.2.2.1 (Ù a.2.2.2.1) c d e (fun g=>f g) (fun b=>ifb (ilt b 0) (k (((0:Int),((0:Int),(0:Int)),(0:Int)),false)) (ĝ a.2.2.2.1 b fun h=>k (h,true))) (fun _=>k (((0:Int),((0:Int),(0:Int)),(0:Int)),false))) (0:Int)
def vw (a:Val É) (b:Int) (c:Int):Option ((Val (.pair iu .bool))):=Rc a b c some
def gZ (b:Val ae) (c:Int) (d:Int) (a:Int) (e:Int→Option ρ) (f:Int→Option ρ) (g:Unit→Option ρ):Option ρ :=
  ifb (ilt a c) (ĝ b a fun h=>ifb (ieq h.1 d) (f a) (ck (a+(1:Int)) fun i=>e i)) (g ())
def gY (c:Val am) (b:Int) (d:Val aa) (e:Int) (f:Int) (a:Int) (g:Int→Option ρ) (h:Int→Option ρ) (i:Unit→Option ρ):Option ρ :=
  ifb (ilt a e) (ĝ d a fun j=>Ã (il c j f) fun k=>ifb (ieq k b) (h b) (ck (a+(1:Int)) fun l=>g l)) (i ())
def Ň (d:Val am) (b:Val aa) (e:Int) (f:Int) (c:Val aa) (a:Int) (g:Int→Option ρ) (h:Int→Option ρ) (i:Unit→Option ρ):Option ρ :=
  ifb (ilt a e) (è ((ile 0 a)&&(ilt a (ò c))) (Ľ c (Int.toNat a) fun j=>Ê (fun(k:Int) l=>gY d j b (Ù b) f k (fun m=>l m) (fun n=>h n) (fun _=>ck (a+(1:Int)) fun o=>g o)) (0:Int))) (i ())
def ņ (b:Val aa) (c:Int) (d:Int) (e:Int) (f:Val ag) (g:Val ab) (h:Val ah) (i:Val ae) (j:Val ab) (k:Int) (a:Int) (l:Int→Option ρ) (m:Int→Option ρ) (n:Unit→Option ρ):Option ρ :=
  ifb (ilt a c) (ĝ b a fun o=>Ã (vw ((d,e),f,g,h,i,j) o k) fun p=>ifb p.2 (m (9:Int)) (ck (a+(1:Int)) fun q=>l q)) (n ())
def nQ (b:Val É) (f:Val am) (c:Int) (k:Int→Option ρ):Option ρ :=
  ĝ b.2.2.2.2.1 c fun a=>Ã (ē a.1 (1:Int) (1099511627776:Int)) fun l=>ifb (!l) (k (1:Int)) (Ã (kT a.2.1) fun m=>ifb (!m) (k (1:Int)) (Ã (ē a.2.2.2.2.1 (-1125899906842624:Int) (1125899906842624:Int)) fun n=>ifb (!n) (k (1:Int)) (Ã (ē a.2.2.2.2.2.1 (0:Int) (1073741824:Int)) fun o=>ifb (!o) (k (1:Int)) (Ã (Δ a.2.2.2.2.2.2 (-10000:Int) (10000:Int)) fun p=>ifb (!p) (k (1:Int)) (Ã (mh a.2.2.1) fun q=>ifb (!q) (k (1:Int)) (Ã (mh a.2.2.2.1) fun r=>ifb (!r) (k (1:Int)) (è ((ile 0 c)&&(ile c (ò b.2.2.2.2.1))) (Ê (fun(s:Int) t=>gZ (List.take (Int.toNat c) b.2.2.2.2.1) (Ù (List.take (Int.toNat c) b.2.2.2.2.1)) a.1 s (fun u=>t u) (fun v=>ifb (ige v 0) (k (6:Int)) (Ã (Ģ ([a.2.2.1,a.2.2.2.1])) fun d=>Ê (fun(w:Int) x=>Ň f d (Ù ([(5:Int),(4:Int)])) a.2.1 ([(5:Int),(4:Int)]) w (fun y=>x y) (fun z=>k z) (fun _=>Ê (fun(A:Int) B=>ņ d (Ù d) b.1.1 b.1.2 b.2.1 b.2.2.1 b.2.2.2.1 b.2.2.2.2.1 b.2.2.2.2.2 a.2.1 A (fun C=>B C) (fun D=>k D) (fun _=>Ã (Λ a.2.2.1 a.2.2.2.1) fun g=>Ã (Λ a.2.2.2.1 a.2.2.1) fun h=>ifb (igt (Ù g) 1) (k (1:Int)) (ifb (igt (Ù h) 1) (k (1:Int)) (ck ((Ù g)+(Ù h)) fun E=>ifb (ieq E 0) (k (1:Int)) (k (0:Int)))))) (0:Int))) (0:Int))) (fun _=>Ã (Ģ ([a.2.2.1,a.2.2.2.1])) fun e=>Ê (fun(F:Int) G=>Ň f e (Ù ([(5:Int),(4:Int)])) a.2.1 ([(5:Int),(4:Int)]) F (fun H=>G H) (fun I=>k I) (fun _=>Ê (fun(J:Int) K=>ņ e (Ù e) b.1.1 b.1.2 b.2.1 b.2.2.1 b.2.2.2.1 b.2.2.2.2.1 b.2.2.2.2.2 a.2.1 J (fun L=>K L) (fun M=>k M) (fun _=>Ã (Λ a.2.2.1 a.2.2.2.1) fun i=>Ã (Λ a.2.2.2.1 a.2.2.1) fun j=>ifb (igt (Ù i) 1) (k (1:Int)) (ifb (igt (Ù j) 1) (k (1:Int)) (ck ((Ù i)+(Ù j)) fun N=>ifb (ieq N 0) (k (1:Int)) (k (0:Int)))))) (0:Int))) (0:Int))) (0:Int)))))))))
def Ń (a:Val É) (b:Val am) (c:Int):Option (Int):=nQ a b c some
def nt (b:Val É) (s:Val am):Option (List Int) :=
  Ã (Ju (fun u=>ķ u.1 u.2 s) (b.2.2.1:List (Int×Int))) fun a=>Ã (Ju (fun i=>Μ b s i) (wp (b.2.2.2.1:List (Val iu)).length)) fun c =>
    Ã (Ju (fun i=>Ń b s i) (wp (b.2.2.2.2.1:List (Val â)).length)) fun d=>Ã (Ju (fun u=>ķ u.1 u.2 s) (b.2.2.2.2.2:List (Int×Int))) fun e=>some (a++(c++(d++e)))
def K8 (a:Val É) (k:Int→Option ρ):Option ρ :=
  Ã (Δ a.1 (0:Int) (1000000:Int)) fun d=>ifb (!d) (k (1:Int)) (ifb (igt (Ù a.2.1) 12) (k (2:Int)) (ifb (igt (Ù a.2.2.1) 40) (k (2:Int)) (ifb (igt (Ù a.2.2.2.1) 12) (k (2:Int)) (ifb (igt (Ù a.2.2.2.2.1) 40) (k (2:Int)) (ifb (igt (Ù a.2.2.2.2.2) 10) (k (2:Int)) (Ã (ŷ a) fun b=>ifb (ine b 0) (k b) (Ã (Ķ a) fun e=>S0 (nt a e) (fun f=>k f) (Ã (pQ a) fun c=>ifb (igt (Ù c) 59) (k (2:Int)) (ck ((2:Int)*(Ù a.2.1)) fun g=>ck ((Ù c)-(Ù a.2.1)) fun h=>ck ((2:Int)*h) fun i=>ck (g+i) fun j=>ck ((2:Int)*(Ù a.2.2.2.2.1)) fun l=>ck (j+l) fun m=>ifb (igt m 300) (k (2:Int)) (k (0:Int)))))))))))
def Ÿ (a:Val É):Option (Int):=K8 a some
def Ee (a:List Int):Option (Int×Int×Int×Int×Int):=some (a.getD 0 0,a.getD 1 0,a.getD 2 0,a.getD 3 0,a.getD 4 0)
def oi (b:Val ae) (a:Int) (e:Int→Option ρ) (c:Bool→Option ρ) (d:Unit→Option ρ):Option ρ :=
  ifb (ilt a (Ù b)) (ifb (ilt a 60) (ĝ b a fun f=>ifb (igt (Ù f.2.2.1) 9) (c false) (ĝ b a fun g=>ifb (igt (Ù g.2.2.2.1) 9) (c false) (ck (a+(1:Int)) fun h=>e h))) (d ())) (d ())
def kv (b:Val ai) (a:Int) (d:Int→Option ρ) (e:Bool→Option ρ) (c:Unit→Option ρ):Option ρ :=
  ifb (ilt a (Ù b)) (ifb (ilt a 8) (ĝ b a fun f=>ifb (igt (Ù f.2) 9) (e false) (ck (a+(1:Int)) fun g=>d g)) (c ())) (c ())
def EY (a:Val Â) (k:Bool→Option ρ):Option ρ :=
  Ê (fun(b:Int) c=>oi a.1.2.2.2.2.1 b (fun d=>c d) (fun e=>k e) (fun _=>Ê (fun(f:Int) g=>kv a.2 f (fun h=>g h) (fun i=>k i) (fun _=>ifb (ile (Ù a.1.2.1) 6) (ifb (ile (Ù a.1.2.2.1) 20) (ifb (ile (Ù a.1.2.2.2.1) 6) (ifb (ile (Ù a.1.2.2.2.2.1) 8) (ifb (ile (Ù a.1.2.2.2.2.2) 6) (k (ile (Ù a.2) 6)) (k false)) (k false)) (k false)) (k false)) (k false))) (0:Int))) (0:Int)
def yS (a:Val Â):Option (Bool):=EY a some
def oj (b:Val af) (a:Int) (c:Int→Option ρ) (d:Bool→Option ρ) (e:Unit→Option ρ):Option ρ :=
  ifb (ilt a (Ù b)) (ĝ b a fun f=>ifb (igt (Ù f) 100) (d false) (ck (a+(1:Int)) fun g=>c g)) (e ())
def EZ (a:Val af) (b:Int) (k:Bool→Option ρ):Option ρ :=
  ifb (igt (Ù a) b) (k false) (Ê (fun(c:Int) d=>oj a c (fun e=>d e) (fun f=>k f) (fun _=>k true)) (0:Int))
def yT (a:Val af) (b:Int):Option (Bool):=EZ a b some
def rk (b:Val aa) (c:Int) (a:Int) (d:Int→Option ρ) (e:Int→Option ρ) (f:Unit→Option ρ):Option ρ :=
  ifb (ilt a c) (ĝ b a fun g=>Ã (kT g) fun h=>ifb (!h) (e a) (ck (a+(1:Int)) fun i=>d i)) (f ())
def K5 (a:Val É) (b:Int) (c:Val aa) (k:Int→Option ρ):Option ρ :=
  Ã (Ÿ a) fun d=>ifb (ine d 0) (k d) (Ê (fun(e:Int) f=>rk c (Ù c) e (fun g=>f g) (fun h=>ifb (ige h 0) (k (1:Int)) (Ã (Ķ a) fun i=>Mn (k:=tI) (v:=Õ) b i (fun l=>k (0:Int)) (k (5:Int)))) (fun _=>Ã (Ķ a) fun j=>Mn (k:=tI) (v:=Õ) b j (fun m=>k (0:Int)) (k (5:Int)))) (0:Int))
def El (a:Val É) (b:Int) (c:Val aa):Option (Int):=K5 a b c some
def Rm (a:Val É) (b:Int) (c:Int) (k:Val aG→Option ρ):Option ρ :=
  Ã (El a b ([c])) fun d=>ifb (ine d 0) (k (false,d)) (Ã (vw a b c) fun e=>k (e.2,(0:Int)))
def y0 (a:Val É) (b:Int) (c:Int):Option ((Val aG)):=Rm a b c some
def mM (b:Val aa) (a:Int) (c:Int→Option ρ) (d:Int→Option ρ) (e:Unit→Option ρ):Option ρ :=
  ifb (ilt a (Ù b)) (ĝ b a fun f=>ck (a-(1:Int)) fun g=>ĝ b g fun h=>ifb (ile f h) (d (1:Int)) (ck (a+(1:Int)) fun i=>c i)) (e ())
def mL (d:Val ag) (e:Int) (a:Int) (b:Val aW) (f:Int→Val aW→Option ρ) (g:Val aW→Option ρ):Option ρ :=
  ifb (ilt a e) (ĝ d a fun c=>ck (a+(1:Int)) fun h=>f h (Oz (k:=tI) (v:=tI) c.1 c.2.1 b)) (g b)
def mK (b:Val aa) (c:Int) (d:Val aW) (a:Int) (e:Int→Option ρ) (f:Int→Option ρ) (g:Unit→Option ρ):Option ρ :=
  ifb (ilt a c) (ĝ b a fun h=>Mn (k:=tI) (v:=tI) h d (fun j=>ck (a+(1:Int)) fun i=>e i) (f a)) (g ())
def ka (e:Val aa) (f:Int) (b:Int) (g:Val aW) (a:Int) (c:Int→Option ρ) (d:Int→Option ρ) (h:Unit→Option ρ):Option ρ :=
  ifb (ilt a f) (ĝ e a fun i=>Mn (k:=tI) (v:=tI) i g (fun j=>ifb (ilt b j) (d a) (ck (a+(1:Int)) fun l=>c l)) (ifb (ilt b 0) (d a) (ck (a+(1:Int)) fun m=>c m))) (h ())
def ľ (l:Val aa) (m:Int) (b:Int) (c:Int) (d:Val ag) (e:Val ab) (f:Val ah) (g:Val ae) (h:Val ab) (i:Int) (a:Int) (n:Int→Option ρ) (j:Int→Option ρ) (o:Unit→Option ρ):Option ρ :=
  ifb (ilt a m) (ĝ l a fun k=>Ã (y0 ((b,c),d,e,f,g,h) k i) fun p=>ck (i+(1:Int)) fun q=>Ã (y0 ((b,c),d,e,f,g,h) k q) fun r=>ifb p.1 (j a) (ifb r.1 (j a) (ck (a+(1:Int)) fun s=>n s))) (o ())
def JV (a:Val É) (d:Val ai) (c:Int) (k:Int→Option ρ):Option ρ :=
  ĝ d c fun b=>ifb (ilt b.1 0) (k (1:Int)) (ifb (ige b.1 20000) (k (1:Int)) (ifb (ilt (Ù b.2) 2) (k (1:Int)) (ifb (igt (Ù b.2) 5) (k (1:Int)) (Ê (fun(g:Int) h=>mM b.2 g (fun i=>h i) (fun j=>k j) (fun _=>Ê (fun(f:(Val (.pair tI aW))) l=>mL a.2.1 (Ù a.2.1) f.1 f.2 (fun m n=>l (m,n)) (fun e=>Ê (fun(o:Int) p=>mK b.2 (Ù b.2) e o (fun q=>p q) (fun r=>ifb (ige r 0) (k (5:Int)) (Ê (fun(s:Int) t=>ka b.2 (Ù b.2) b.1 e s (fun u=>t u) (fun v=>ifb (ige v 0) (k (4:Int)) (ifb (igt c 0) (ck (c-(1:Int)) fun w=>ĝ d w fun x=>ifb (ile b.1 x.1) (k (6:Int)) (Ê (fun(y:Int) z=>ľ b.2 (Ù b.2) a.1.1 a.1.2 a.2.1 a.2.2.1 a.2.2.2.1 a.2.2.2.2.1 a.2.2.2.2.2 b.1 y (fun A=>z A) (fun B=>ifb (ige B 0) (k (9:Int)) (k (0:Int))) (fun _=>k (0:Int))) (0:Int))) (Ê (fun(C:Int) D=>ľ b.2 (Ù b.2) a.1.1 a.1.2 a.2.1 a.2.2.1 a.2.2.2.1 a.2.2.2.2.1 a.2.2.2.2.2 b.1 C (fun E=>D E) (fun F=>ifb (ige F 0) (k (9:Int)) (k (0:Int))) (fun _=>k (0:Int))) (0:Int)))) (fun _=>ifb (igt c 0) (ck (c-(1:Int)) fun G=>ĝ d G fun H=>ifb (ile b.1 H.1) (k (6:Int)) (Ê (fun(I:Int) J=>ľ b.2 (Ù b.2) a.1.1 a.1.2 a.2.1 a.2.2.1 a.2.2.2.1 a.2.2.2.2.1 a.2.2.2.2.2 b.1 I (fun K=>J K) (fun L=>ifb (ige L 0) (k (9:Int)) (k (0:Int))) (fun _=>k (0:Int))) (0:Int))) (Ê (fun(M:Int) N=>ľ b.2 (Ù b.2) a.1.1 a.1.2 a.2.1 a.2.2.1 a.2.2.2.1 a.2.2.2.2.1 a.2.2.2.2.2 b.1 M (fun O=>N O) (fun P=>ifb (ige P 0) (k (9:Int)) (k (0:Int))) (fun _=>k (0:Int))) (0:Int)))) (0:Int))) (fun _=>Ê (fun(Q:Int) R=>ka b.2 (Ù b.2) b.1 e Q (fun S=>R S) (fun T=>ifb (ige T 0) (k (4:Int)) (ifb (igt c 0) (ck (c-(1:Int)) fun U=>ĝ d U fun V=>ifb (ile b.1 V.1) (k (6:Int)) (Ê (fun(W:Int) X=>ľ b.2 (Ù b.2) a.1.1 a.1.2 a.2.1 a.2.2.1 a.2.2.2.1 a.2.2.2.2.1 a.2.2.2.2.2 b.1 W (fun Y=>X Y) (fun Z=>ifb (ige Z 0) (k (9:Int)) (k (0:Int))) (fun _=>k (0:Int))) (0:Int))) (Ê (fun(cw:Int) cz=>ľ b.2 (Ù b.2) a.1.1 a.1.2 a.2.1 a.2.2.1 a.2.2.2.1 a.2.2.2.2.1 a.2.2.2.2.2 b.1 cw (fun dc=>cz dc) (fun df=>ifb (ige df 0) (k (9:Int)) (k (0:Int))) (fun _=>k (0:Int))) (0:Int)))) (fun _=>ifb (igt c 0) (ck (c-(1:Int)) fun dg=>ĝ d dg fun dh=>ifb (ile b.1 dh.1) (k (6:Int)) (Ê (fun(di:Int) dj=>ľ b.2 (Ù b.2) a.1.1 a.1.2 a.2.1 a.2.2.1 a.2.2.2.1 a.2.2.2.2.1 a.2.2.2.2.2 b.1 di (fun dk=>dj dk) (fun dl=>ifb (ige dl 0) (k (9:Int)) (k (0:Int))) (fun _=>k (0:Int))) (0:Int))) (Ê (fun(dm:Int) dt=>ľ b.2 (Ù b.2) a.1.1 a.1.2 a.2.1 a.2.2.1 a.2.2.2.1 a.2.2.2.2.1 a.2.2.2.2.2 b.1 dm (fun du=>dt du) (fun dv=>ifb (ige dv 0) (k (9:Int)) (k (0:Int))) (fun _=>k (0:Int))) (0:Int)))) (0:Int))) (0:Int))) ((0:Int),[]))) (1:Int)))))
def Eg (a:Val É) (b:Val ai) (c:Int):Option (Int):=JV a b c some
def mN (c:Int) (b:Int) (a:Int) (d:Int→Int→Option ρ) (e:Int→Option ρ):Option ρ :=
  ifb (ilt a c) (ck (a+(1:Int)) fun f=>ck (b*f) fun g=>ck (a+(1:Int)) fun h=>d g h) (e b)
def qQ (e:Val ai) (f:Int) (g:Int) (h:Int) (i:Val ag) (j:Val ab) (k:Val ah) (l:Val ae) (m:Val ab) (n:Val ai) (b:Int) (a:Int) (o:Int→Int→Option ρ) (p:Int→Option ρ) (q:Int→Option ρ):Option ρ :=
  ifb (ilt a f) (ĝ e a fun r=>Ã (Eg ((g,h),i,j,k,l,m) n a) fun c=>ifb (ine c 0) (p c) (Ê (fun(d:Val Ä) s=>mN (Ù r.2) d.1 d.2 (fun t u=>s (t,u)) (fun v=>ck (a+(1:Int)) fun w=>o v w)) (b,(0:Int)))) (q b)
def Kc (a:Val Â) (k:Int→Option ρ):Option ρ :=
  Ã (Ÿ a.1) fun b=>ifb (ine b 0) (k b) (ifb (igt (Ù a.2) 4) (k (2:Int)) (Ê (fun(c:Val Ä) d=>qQ a.2 (Ù a.2) a.1.1.1 a.1.1.2 a.1.2.1 a.1.2.2.1 a.1.2.2.2.1 a.1.2.2.2.2.1 a.1.2.2.2.2.2 a.2 c.1 c.2 (fun e f=>d (e,f)) (fun g=>k g) (fun h=>ifb (igt h 150) (k (2:Int)) (k (0:Int)))) ((1:Int),(0:Int))))
def ψ (a:Val Â):Option (Int):=Kc a some
def ġ (c:Val ab) (d:Int) (e:Int) (f:Int) (a:Int) (g:Int→Option ρ) (h:Int→Option ρ) (i:Unit→Option ρ):Option ρ :=
  ifb (ilt a d) (ĝ c a fun b=>ifb ((BX e b.1)&&((BX f b.2)&&true)) (h a) (ck (a+(1:Int)) fun j=>g j)) (i ())
def ŵ (a:Val ab) (b:Val Ä) (k:Int→Option ρ):Option ρ :=
  Ê (fun(c:Int) d=>ġ a (Ù a) b.1 b.2 c (fun e=>d e) (fun f=>k f) (fun _=>k (-1:Int))) (0:Int)
def ï (a:Val ab) (b:Val Ä):Option (Int):=ŵ a b some
def xQ (b:Val aD) (a:Val aa) (c:Int) (k:Int→Option ρ):Option ρ :=
  ifb (ieq (Ù a) 0) (k (0:Int)) (ĝ a (0:Int) fun d=>Ã (ï b.2.1 (d,c)) fun e=>ck (e+(1:Int)) fun f=>k f)
def kg (a:Val aD) (b:Val aa) (c:Int):Option (Int):=xQ a b c some
def uZ (f:Int) (g:Int) (h:Val ah) (i:Int) (j:Int) (b:Int) (a:Int) (d:Int→Int→Option ρ) (k:Int→Option ρ):Option ρ :=
  ifb (ilt a i) (ĝ h a fun c=>ck (g-(1:Int)) fun l=>ck ((Y3 c.2.1.2 l)-(Xr c.2.1.1 f)) fun m=>ck (m+1) fun e=>ifb (ieq c.1 j) (ifb (igt e 0) (ck (e*c.2.2) fun n=>ck (b+n) fun o=>ck (a+(1:Int)) fun p=>d o p) (ck (a+(1:Int)) fun q=>d b q)) (ck (a+(1:Int)) fun r=>d b r)) (k b)
def uY (e:Int) (f:Int) (g:Val ab) (h:Int) (i:Int) (a:Int) (b:Val aa) (d:Int→Val aa→Option ρ) (j:Val aa→Option ρ):Option ρ :=
  ifb (ilt a h) (ĝ g a fun c=>ifb (ieq c.1 i) (ck (f-(1:Int)) fun k=>Ã (ē c.2 e k) fun l=>ifb l (è (î ((List.length b)+(List.length ([c.2])))) (ck (a+(1:Int)) fun m=>d m (b++([c.2])))) (ck (a+(1:Int)) fun n=>d n b)) (ck (a+(1:Int)) fun o=>d o b)) (j b)
def QZ (a:Val É) (b:Val Õ) (d:Int) (e:Int) (k:Int→Option ρ):Option ρ :=
  Ê (fun(f:Val Ä) h=>uZ d e a.2.2.2.1 (Ù a.2.2.2.1) b.1 f.1 f.2 (fun i j=>h (i,j)) (fun l=>Ê (fun(g:Val ŏ) m=>uY d e a.2.2.1 (Ù a.2.2.1) b.1 g.1 g.2 (fun n o=>m (n,o)) (fun c=>è (î (List.length c)) (è (î (List.length (ww c))) (ck ((Ù (ze (ww c)))*b.2.2.2.2.2) fun p=>ck (l+p) fun q=>k q)))) ((0:Int),[]))) ((0:Int),(0:Int))
def yZ (a:Val É) (b:Val Õ) (c:Int) (d:Int):Option (Int):=QZ a b c d some
def nP (b:Val am) (a:Val aa) (k:Val Ä→Option ρ):Option ρ :=
  ifb (ieq (Ù a) 0) (k ((0:Int),(1:Int))) (ĝ a (0:Int) fun c=>Mn (k:=tI) (v:=Õ) c b (fun d=>k d.2.2.2.2.1) (k ((0:Int),(0:Int))))
def ii (a:Val am) (b:Val aa):Option (Val Ä):=nP a b some
def qX (b:Val ab) (c:Int) (a:Int) (d:Int→Option ρ) (e:Int→Option ρ) (f:Unit→Option ρ):Option ρ :=
  ifb (ilt a c) (ĝ b a fun g=>Ã (tQ g) fun h=>ifb (!h) (e (1:Int)) (ck (a+(1:Int)) fun i=>d i)) (f ())
def Kz (a:Val ab) (k:Int→Option ρ):Option ρ :=
  Ê (fun(b:Int) c=>qX a (Ù a) b (fun d=>c d) (fun e=>k e) (fun _=>k (0:Int))) (0:Int)
def jz (a:Val ab):Option (Int):=Kz a some
def BB (d:Int) (e:Int) (k:Val Cb→Option ρ):Option ρ :=
  Ã (rG d) fun b=>Ã (rG e) fun c=>Ã (LK b c) fun a=>ifb (BX a 0) (none) (ifb (BX a 0) (none) (ifb (igt (IntKind.wrap .u64 (Int.tdiv b a)) 2147483647) (k (((0:Int),(0:Int)),(3:Int))) (ifb (igt (IntKind.wrap .u64 (Int.tdiv c a)) 2147483647) (k (((0:Int),(0:Int)),(3:Int))) (ifb (!((ilt d 0)==(ilt e 0))) (ck (0-(IntKind.wrap .i64 (IntKind.wrap .u64 (Int.tdiv b a)))) fun f=>k ((f,(IntKind.wrap .i64 (IntKind.wrap .u64 (Int.tdiv c a)))),(0:Int))) (k (((IntKind.wrap .i64 (IntKind.wrap .u64 (Int.tdiv b a))),(IntKind.wrap .i64 (IntKind.wrap .u64 (Int.tdiv c a)))),(0:Int)))))))
def pP (a:Int) (b:Int):Option (Val Cb):=BB a b some
def W6 (a:Val Ä) (b:Val Ä) (k:Val Cb→Option ρ):Option ρ :=
  Ã (jz ([a,b])) fun c=>ifb (ine c 0) (k (((0:Int),(0:Int)),c)) (ck (a.1*b.2) fun e=>ck (b.1*a.2) fun f=>ck (e-f) fun g=>ck (a.2*b.2) fun h=>Ã (pP g h) fun d=>k (d.1,d.2))
def RK (a:Val Ä) (b:Val Ä):Option (Val Cb):=W6 a b some
def uS (a:Val Ä) (b:Val Ä) (k:Val Ä→Option ρ):Option ρ :=
  Ã (RK a b) fun c=>k c.1
def vu (a:Val Ä) (b:Val Ä):Option (Val Ä):=uS a b some
def WZ (a:Val Ä) (b:Val Ä) (k:Int→Option ρ):Option ρ :=
  ck (a.1*b.2) fun c=>ck (b.1*a.2) fun d=>ifb ((BX a.1 b.1)&&((BX a.2 b.2)&&true)) (k (0:Int)) (ifb (ilt c d) (k (-1:Int)) (ifb (igt c d) (k (1:Int)) (k (0:Int))))
def LL (a:Val Ä) (b:Val Ä):Option (Int):=WZ a b some
def rY (a:Val Ĕ) (k:Bool→Option ρ):Option ρ :=
  Ã (jz ([a.1,a.2])) fun b=>ifb (ieq b 0) (Ã (LL a.1 a.2) fun c=>k (ile c 0)) (k false)
def si (a:Val Ĕ):Option (Bool):=rY a some
def W9 (a:Val Ä) (b:Val Ä) (k:Val Cb→Option ρ):Option ρ :=
  Ã (jz ([a,b])) fun c=>ifb (ine c 0) (k (((0:Int),(0:Int)),c)) (ck (a.1*b.1) fun e=>ck (a.2*b.2) fun f=>Ã (pP e f) fun d=>k (d.1,d.2))
def LN (a:Val Ä) (b:Val Ä):Option (Val Cb):=W9 a b some
def KJ (c:Val Ĕ) (d:Val Ä) (k:Val abq→Option ρ):Option ρ :=
  Ã (si c) fun e=>ifb (!e) (k ((((0:Int),(0:Int)),(0:Int),(0:Int)),(1:Int))) (Ã (tQ d) fun f=>ifb (!f) (k ((((0:Int),(0:Int)),(0:Int),(0:Int)),(1:Int))) (Ã (LN d c.1) fun a=>ifb (ine a.2 0) (k ((((0:Int),(0:Int)),(0:Int),(0:Int)),a.2)) (Ã (LN d c.2) fun b=>ifb (ine b.2 0) (k ((((0:Int),(0:Int)),(0:Int),(0:Int)),b.2)) (Ã (LL a.1 b.1) fun g=>ifb (igt g 0) (k ((b.1,a.1),(0:Int))) (k ((a.1,b.1),(0:Int)))))))
def LM (a:Val Ĕ) (b:Val Ä):Option (Val abq):=KJ a b some
def uR (b:Val Ä) (a:Val Ä) (k:Val Ĕ→Option ρ):Option ρ :=
  Ã (LM ((a.1,(1:Int)),a.2,(1:Int)) b) fun c=>k c.1
def oD (a:Val Ä) (b:Val Ä):Option (Val Ĕ):=uR a b some
def FL (c:Val É) (a:Val â) (k:Val Ĕ→Option ρ):Option ρ :=
  Ã (Ķ c) fun b=>Ã (Λ a.2.2.1 a.2.2.2.1) fun d=>Ã (ii b d) fun e=>Ã (Λ a.2.2.2.1 a.2.2.1) fun f=>Ã (ii b f) fun g=>Ã (vu e g) fun h=>Ã (oD h a.2.2.2.2.2.2) fun i=>k i
def tR (a:Val É) (b:Val â):Option (Val Ĕ):=FL a b some
def K3 (a:Val É) (b:Val â) (k:Val Ä→Option ρ):Option ρ :=
  ck ((Ù b.2.2.1)-(1:Int)) fun c=>ck ((Ù b.2.2.2.1)-(1:Int)) fun d=>ck ((Xr (0:Int) c)*a.1.1) fun e=>ck ((Xr (0:Int) d)*a.1.2) fun f=>ck (e-f) fun g=>ck ((Xr (0:Int) c)*a.1.2) fun h=>ck ((Xr (0:Int) d)*a.1.1) fun i=>ck (h-i) fun j=>k (g,j)
def yh (a:Val É) (b:Val â):Option (Val Ä):=K3 a b some
def KE (b:Int) (a:Int) (k:Int→Option ρ):Option ρ :=
  ifb (BX a 0) (none) (ck (Int.tdiv b a) fun c=>ifb (BX a 0) (none) (ifb (ilt (Int.tmod b a) 0) (ck (c-1) fun d=>k d) (k c)))
def yf (a:Int) (b:Int):Option (Int):=KE a b some
def QT (a:Val Ä) (k:Val Ä→Option ρ):Option ρ :=
  Ã (jz ([a])) fun b=>ifb (ine b 0) (k ((0:Int),b)) (ck (0-a.1) fun c=>Ã (yf c a.2) fun d=>ck (0-d) fun e=>k (e,(0:Int)))
def II (a:Val Ä):Option (Val Ä):=QT a some
def KL (a:Val Ä) (k:Val Ä→Option ρ):Option ρ :=
  Ã (jz ([a])) fun b=>ifb (ine b 0) (k ((0:Int),b)) (Ã (yf a.1 a.2) fun c=>k (c,(0:Int)))
def Ej (a:Val Ä):Option (Val Ä):=KL a some
def QV (b:Val É) (a:Val â) (k:Val Ä→Option ρ):Option ρ :=
  Ã (tR b a) fun c=>Ã (yh b a) fun d=>Ã (Ej c.2) fun e=>Ã (II c.1) fun f=>ck (a.2.2.2.2.1-a.2.2.2.2.2.1) fun g=>ck (g-d.2) fun h=>ck (h-e.1) fun i=>ck (a.2.2.2.2.1+a.2.2.2.2.2.1) fun j=>ck (j-d.1) fun l=>ck (l-f.1) fun m=>k (i,m)
def yY (a:Val É) (b:Val â):Option (Val Ä):=QV a b some
def uW (b:Int) (e:Val aa) (h:Int) (j:Int) (k:Int) (l:Val ag) (m:Val ab) (n:Val ah) (o:Val ae) (p:Val ab) (q:Int) (r:Int) (s:Int) (t:Int) (u:Int) (v:Int) (w:Int) (x:Int) (a:Int) (f:Val ak) (g:Val ab) (y:Int→Val ak→Val ab→Option ρ) (z:Val Ca→Option ρ):Option ρ :=
  ifb (ilt a (Ù e)) (ck (h+a) fun A=>ck (A-1) fun c=>ck (h+a) fun d=>ck (a-(1:Int)) fun B=>ĝ e B fun C=>ĝ e a fun D=>Ã (yZ ((j,k),l,m,n,o,p) (q,r,s,(t,u),(v,w),x) C D) fun E=>ck (0-E) fun F=>ck (0-F) fun i=>è (î ((List.length f)+(List.length ([(c,d,(0:Int)),(d,c,i)])))) (è (î ((List.length g)+(List.length ([((2:Int),b),((2:Int),b)])))) (ck (a+(1:Int)) fun G=>y G (f++([(c,d,(0:Int)),(d,c,i)])) (g++([((2:Int),b),((2:Int),b)]))))) (z (f,g))
def uX (q:Val ag) (r:Int) (f:Int) (g:Int) (h:Val ag) (i:Val ab) (j:Val ah) (k:Val ae) (l:Val ab) (s:Val ab) (t:Int) (b:Int) (d:Val ak) (e:Val ab) (u:Int→Val ak→Val ab→Option ρ) (v:Val Ca→Option ρ):Option ρ :=
  ifb (ilt b r) (ĝ q b fun a=>Ã (oE ((f,g),h,i,j,k,l) a) fun w=>Ã (kg (((f,g),h,i,j,k,l),s,(t,d),e) ([a.1]) a.2.1) fun c=>ck (a.2.2.1+a.2.2.2.1.1) fun x=>ck (a.2.2.1+a.2.2.2.1.2) fun n=>ck (0-x) fun o=>è (î ((List.length d)+(List.length ([((0:Int),c,n),(c,(0:Int),o)])))) (è (î ((List.length e)+(List.length ([((1:Int),b),((1:Int),b)])))) (Ê (fun(m:(Val (.pair tI Ca))) y=>uW b w c f g h i j k l a.1 a.2.1 a.2.2.1 a.2.2.2.1.1 a.2.2.2.1.2 a.2.2.2.2.1.1 a.2.2.2.2.1.2 a.2.2.2.2.2 m.1 m.2.1 m.2.2 (fun z A B=>y (z,A,B)) (fun p=>ck (b+(1:Int)) fun C=>u C p.1 p.2)) ((1:Int),(d++([((0:Int),c,n),(c,(0:Int),o)])),(e++([((1:Int),b),((1:Int),b)])))))) (v (d,e))
def uV (r:Val ae) (s:Int) (g:Int) (h:Int) (i:Val ag) (j:Val ab) (k:Val ah) (l:Val ae) (m:Val ab) (o:Val ab) (p:Int) (a:Int) (c:Val ak) (d:Val ab) (t:Int→Val ak→Val ab→Option ρ) (u:Val Ca→Option ρ):Option ρ :=
  ifb (ilt a s) (ĝ r a fun b=>Ã (Λ b.2.2.2.1 b.2.2.1) fun v=>Ã (kg (((g,h),i,j,k,l,m),o,(p,c),d) v b.2.1) fun e=>Ã (Λ b.2.2.1 b.2.2.2.1) fun w=>Ã (kg (((g,h),i,j,k,l,m),o,(p,c),d) w b.2.1) fun f=>Ã (yY ((g,h),i,j,k,l,m) b) fun n=>ck (0-n.1) fun q=>è (î ((List.length c)+(List.length ([(e,f,n.2),(f,e,q)])))) (è (î ((List.length d)+(List.length ([((3:Int),a),((3:Int),a)])))) (ck (a+(1:Int)) fun x=>t x (c++([(e,f,n.2),(f,e,q)])) (d++([((3:Int),a),((3:Int),a)]))))) (u (c,d))
def QY (a:Val É) (k:Val aD→Option ρ):Option ρ :=
  Ã (pQ a) fun b=>ck ((Ù b)+(1:Int)) fun c=>Ê (fun(d:(Val (.pair tI Ca))) h=>uX a.2.1 (Ù a.2.1) a.1.1 a.1.2 a.2.1 a.2.2.1 a.2.2.2.1 a.2.2.2.2.1 a.2.2.2.2.2 b c d.1 d.2.1 d.2.2 (fun i j l=>h (i,j,l)) (fun f=>Ê (fun(e:(Val (.pair tI Ca))) m=>uV a.2.2.2.2.1 (Ù a.2.2.2.2.1) a.1.1 a.1.2 a.2.1 a.2.2.1 a.2.2.2.1 a.2.2.2.2.1 a.2.2.2.2.2 b c e.1 e.2.1 e.2.2 (fun n o p=>m (n,o,p)) (fun g=>k (a,b,(c,g.1),g.2))) ((0:Int),f.1,f.2))) ((0:Int),[],[])
def Ek (a:Val É):Option ((Val aD)):=QY a some
def FP (a:Val É) (k:(Val (.pair Ë bf))→Option ρ):Option ρ :=
  Ã (Ÿ a) fun b=>ifb (ine b 0) (k (((0:Int),[]),[],b)) (Ã (Ek a) fun c=>k (c.2.2.1,c.2.2.2,(0:Int)))
def gJ (a:Val É):Option ((Val (.pair Ë bf))):=FP a some
def yD (f:Val af) (g:Int) (d:Val ai) (b:Int) (a:Int) (c:Int→Int→Option ρ) (h:Int→Option ρ):Option ρ :=
  ifb (ige a 0) (ĝ f a fun i=>Ã (ω i b) fun e=>ifb (ige e 0) (ĝ d a fun j=>ifb (ilt j.1 g) (ĝ d a fun k=>ĝ k.2 e fun l=>ck (a-(1:Int)) fun m=>c l m) (ck (a-(1:Int)) fun n=>c b n)) (ck (a-(1:Int)) fun o=>c b o)) (h b)
def Ww (a:Val Â) (c:Val af) (d:Int) (e:Int) (k:Int→Option ρ):Option ρ :=
  ck ((Ù a.2)-(1:Int)) fun f=>Ê (fun(b:Val Ä) g=>yD c e a.2 b.1 b.2 (fun h i=>g (h,i)) (fun j=>k j)) (d,f)
def sh (a:Val Â) (b:Val af) (c:Int) (d:Int):Option (Int):=Ww a b c d some
def iz (d:Int) (e:Val ar) (f:Val aH) (g:Val aa) (h:Int) (a:Int) (b:Val aa) (i:Int→Val aa→Option ρ) (j:Val aa→Option ρ):Option ρ :=
  ifb (ilt a h) (ĝ g a fun k=>Ã (sh e f k d) fun c=>è (î ((List.length b)+(List.length ([c])))) (ck (a+(1:Int)) fun l=>i l (b++([c])))) (j b)
def pj (a:Val aa) (d:Int) (e:Val ar) (f:Val aH) (k:Val aa→Option ρ):Option ρ :=
  Ê (fun(b:Val ŏ) g=>iz d e f a (Ù a) b.1 b.2 (fun h i=>g (h,i)) (fun c=>è (î (List.length c)) (k (ww c)))) ((0:Int),[])
def iQ (a:Val aa) (b:Int) (c:Val ar) (d:Val aH):Option ((Val aa)):=pj a b c d some
def jJ (e:Val ar) (f:Val aH) (g:Val ab) (h:Int) (b:Int) (c:Val ab) (i:Int→Val ab→Option ρ) (j:Val ab→Option ρ):Option ρ :=
  ifb (ilt b h) (ĝ g b fun a=>Ã (sh e f a.1 a.2) fun d=>è (î ((List.length c)+(List.length ([(d,a.2)])))) (ck (b+(1:Int)) fun k=>i k (c++([(d,a.2)])))) (j c)
def jI (e:Val ar) (f:Val aH) (g:Val ah) (h:Int) (b:Int) (c:Val ah) (i:Int→Val ah→Option ρ) (j:Val ah→Option ρ):Option ρ :=
  ifb (ilt b h) (ĝ g b fun a=>Ã (sh e f a.1 a.2.1.1) fun d=>è (î ((List.length c)+(List.length ([(d,a.2)])))) (ck (b+(1:Int)) fun k=>i k (c++([(d,a.2)])))) (j c)
def jH (d:Val ar) (e:Val aH) (h:Val ae) (i:Int) (b:Int) (c:Val ae) (j:Int→Val ae→Option ρ) (k:Val ae→Option ρ):Option ρ :=
  ifb (ilt b i) (ĝ h b fun a=>Ã (iQ a.2.2.1 a.2.1 d e) fun f=>Ã (iQ a.2.2.2.1 a.2.1 d e) fun g=>è (î ((List.length c)+(List.length ([(a.1,a.2.1,f,g,a.2.2.2.2)])))) (ck (b+(1:Int)) fun l=>j l (c++([(a.1,a.2.1,f,g,a.2.2.2.2)])))) (k c)
def jG (e:Val ar) (f:Val aH) (g:Val ab) (h:Int) (b:Int) (c:Val ab) (i:Int→Val ab→Option ρ) (j:Val ab→Option ρ):Option ρ :=
  ifb (ilt b h) (ĝ g b fun a=>Ã (sh e f a.1 a.2) fun d=>è (î ((List.length c)+(List.length ([(d,a.2)])))) (ck (b+(1:Int)) fun k=>i k (c++([(d,a.2)])))) (j c)
def uq (a:Val Â) (b:Val af) (k:Val É→Option ρ):Option ρ :=
  è (î (List.length a.1.2.1)) (Ê (fun(c:Val aY) g=>jJ a b a.1.2.2.1 (Ù a.1.2.2.1) c.1 c.2 (fun h i=>g (h,i)) (fun j=>Ê (fun(d:(Val (.pair tI ah))) l=>jI a b a.1.2.2.2.1 (Ù a.1.2.2.2.1) d.1 d.2 (fun m n=>l (m,n)) (fun o=>Ê (fun(e:Val aT) p=>jH a b a.1.2.2.2.2.1 (Ù a.1.2.2.2.2.1) e.1 e.2 (fun q r=>p (q,r)) (fun s=>Ê (fun(f:Val aY) t=>jG a b a.1.2.2.2.2.2 (Ù a.1.2.2.2.2.2) f.1 f.2 (fun u v=>t (u,v)) (fun w=>k (a.1.1,a.1.2.1,j,o,s,w))) ((0:Int),[]))) ((0:Int),[]))) ((0:Int),[]))) ((0:Int),[]))
def ŧ (a:Val Â) (b:Val af):Option (Val É):=uq a b some
def Qv (b:Val Ë) (a:Int) (k:Bool→Option ρ):Option ρ :=
  ifb (ige a 0) (k (ilt a b.1)) (k false)
def yX (a:Val Ë) (b:Int):Option (Bool):=Qv a b some
def qW (f:Val ak) (g:Int) (d:Int) (e:Val ak) (a:Int) (h:Int→Option ρ) (c:Val Ä→Option ρ) (i:Unit→Option ρ):Option ρ :=
  ifb (ilt a g) (ĝ f a fun b=>Ã (yX (d,e) b.1) fun j=>ifb (!j) (c ((1:Int),a)) (Ã (yX (d,e) b.2.1) fun k=>ifb (!k) (c ((1:Int),a)) (ifb (ieq b.1 b.2.1) (c ((1:Int),a)) (ifb (ilt b.2.2 (-4503599627370496:Int)) (c ((1:Int),a)) (ifb (igt b.2.2 4503599627370496) (c ((1:Int),a)) (ck (a+(1:Int)) fun l=>h l)))))) (i ())
def Kx (a:Val Ë) (k:Val Ä→Option ρ):Option ρ :=
  ifb (ilt a.1 1) (k ((1:Int),(-1:Int))) (ifb (igt a.1 60) (k ((1:Int),(-1:Int))) (ifb (igt (Ù a.2) 300) (k ((2:Int),(-1:Int))) (Ê (fun(c:Int) d=>qW a.2 (Ù a.2) a.1 a.2 c (fun e=>d e) (fun b=>k (b.1,b.2)) (fun _=>k ((0:Int),(-1:Int)))) (0:Int))))
def nz (a:Val Ë):Option (Val Ä):=Kx a some
def χ (c:Val ak) (d:Int) (b:Int) (a:Int) (e:Int→Int→Option ρ) (f:Int→Option ρ):Option ρ :=
  ifb (ilt a d) (ĝ c a fun g=>ck (b+(Y3 g.2.2 (0:Int))) fun h=>ck (a+(1:Int)) fun i=>e h i) (f b)
def ŕ (f:Int) (d:Val aa) (a:Int) (b:Val aq) (c:Val aa) (e:Int→Val aq→Val aa→Option ρ) (g:Val aM→Option ρ):Option ρ :=
  ifb (ilt a f) (è ((ile 0 a)&&(ilt a (ò d))) (Ľ d (Int.toNat a) fun h=>ifb (ine h 1152921504606846976) (è (î ((List.length c)+(List.length ([a])))) (è ((ile 0 a)&&(ilt a (ò b))) (Ľ b (Int.toNat a) fun k=>ck (a+(1:Int)) fun i=>e i (List.set b (Int.toNat a) true) (c++([a]))))) (ck (a+(1:Int)) fun j=>e j b c))) (g (b,c))
def iL (m:Val ao) (j:Int) (d:Int) (n:Val ak) (o:Int) (f:Int) (b:Val aa) (c:Val aq) (e:Val aa) (g:Int→Val aa→Val aq→Val aa→Option ρ) (l:(Val (.pair .bool (.pair aa aM)))→Option ρ) (p:(Val (.pair aa aM))→Option ρ):Option ρ :=
  ifb (ilt f o) (ĝ n f fun a=>ifb (ine a.1 d) (ck (f+(1:Int)) fun q=>g q b c e) (Mn (k:=tI) (v:=.bool) f m (fun r=>ifb r (ck (f+(1:Int)) fun s=>g s b c e) (è ((ile 0 d)&&(ilt d (ò b))) (Ľ b (Int.toNat d) fun t=>ck (t+a.2.2) fun u=>è ((ile 0 a.2.1)&&(ilt a.2.1 (ò b))) (Ľ b (Int.toNat a.2.1) fun w=>ifb (ige u w) (ck (f+(1:Int)) fun x=>g x b c e) (è ((ile 0 d)&&(ilt d (ò b))) (Ľ b (Int.toNat d) fun y=>ck (y+a.2.2) fun h=>è ((ile 0 a.2.1)&&(ilt a.2.1 (ò b))) (Ľ b (Int.toNat a.2.1) fun M=>è ((ile 0 a.2.1)&&(ilt a.2.1 (ò (List.set b (Int.toNat a.2.1) h)))) (Ľ (List.set b (Int.toNat a.2.1) h) (Int.toNat a.2.1) fun z=>ifb (ilt z j) (l (false,(List.set b (Int.toNat a.2.1) h),c,e)) (è ((ile 0 a.2.1)&&(ilt a.2.1 (ò c))) (Ľ c (Int.toNat a.2.1) fun A=>ifb (!A) (è (î ((List.length e)+(List.length ([a.2.1])))) (è ((ile 0 a.2.1)&&(ilt a.2.1 (ò c))) (Ľ c (Int.toNat a.2.1) fun N=>ck (f+(1:Int)) fun B=>g B (List.set b (Int.toNat a.2.1) h) (List.set c (Int.toNat a.2.1) true) (e++([a.2.1]))))) (ck (f+(1:Int)) fun C=>g C (List.set b (Int.toNat a.2.1) h) c e))))))))))) (è ((ile 0 d)&&(ilt d (ò b))) (Ľ b (Int.toNat d) fun D=>ck (D+a.2.2) fun E=>è ((ile 0 a.2.1)&&(ilt a.2.1 (ò b))) (Ľ b (Int.toNat a.2.1) fun F=>ifb (ige E F) (ck (f+(1:Int)) fun G=>g G b c e) (è ((ile 0 d)&&(ilt d (ò b))) (Ľ b (Int.toNat d) fun H=>ck (H+a.2.2) fun i=>è ((ile 0 a.2.1)&&(ilt a.2.1 (ò b))) (Ľ b (Int.toNat a.2.1) fun O=>è ((ile 0 a.2.1)&&(ilt a.2.1 (ò (List.set b (Int.toNat a.2.1) i)))) (Ľ (List.set b (Int.toNat a.2.1) i) (Int.toNat a.2.1) fun I=>ifb (ilt I j) (l (false,(List.set b (Int.toNat a.2.1) i),c,e)) (è ((ile 0 a.2.1)&&(ilt a.2.1 (ò c))) (Ľ c (Int.toNat a.2.1) fun J=>ifb (!J) (è (î ((List.length e)+(List.length ([a.2.1])))) (è ((ile 0 a.2.1)&&(ilt a.2.1 (ò c))) (Ľ c (Int.toNat a.2.1) fun P=>ck (f+(1:Int)) fun K=>g K (List.set b (Int.toNat a.2.1) i) (List.set c (Int.toNat a.2.1) true) (e++([a.2.1]))))) (ck (f+(1:Int)) fun L=>g L (List.set b (Int.toNat a.2.1) i) c e)))))))))))) (p (b,c,e))
def ģ (l:Val ao) (m:Int) (n:Int) (k:Val ak) (h:Val aa) (d:Val aq) (b:Val aa) (c:Val aa) (o:Val aa→Val aq→Val aa→Val aa→Option ρ) (i:(Val (.pair .bool aO))→Option ρ):Option ρ :=
  ifb (ieq (Ù c) 0) (i (true,h,d,b,c)) (è (ilt 0 (ò c)) (Ľ c 0 fun a=>è (ile 1 (ò c)) (è (decide (1+(List.length c-1)=List.length c)) (è ((ile 0 a)&&(ilt a (ò d))) (Ľ d (Int.toNat a) fun x=>è ((ile 0 a)&&(ilt a (ò b))) (Ľ b (Int.toNat a) fun p=>ck (p+(1:Int)) fun e=>è ((ile 0 a)&&(ilt a (ò b))) (Ľ b (Int.toNat a) fun y=>è ((ile 0 a)&&(ilt a (ò (List.set b (Int.toNat a) e)))) (Ľ (List.set b (Int.toNat a) e) (Int.toNat a) fun q=>ck (n+(1:Int)) fun r=>ifb (igt q r) (i (false,h,(List.set d (Int.toNat a) false),(List.set b (Int.toNat a) e),(List.drop 1 c))) (Ê (fun(f:(Val (.pair tI (.pair aa aM)))) s=>iL l m a k (Ù k) f.1 f.2.1 f.2.2.1 f.2.2.2 (fun t u v w=>s (t,u,v,w)) (fun g=>i (g.1,g.2.1,g.2.2.1,(List.set b (Int.toNat a) e),g.2.2.2)) (fun j=>o j.1 j.2.1 (List.set b (Int.toNat a) e) j.2.2)) ((0:Int),h,(List.set d (Int.toNat a) false),(List.drop 1 c)))))))))))
def iK (c:Int) (d:Int) (a:Int) (b:Val aa) (e:Int→Val aa→Option ρ) (f:Val aa→Option ρ):Option ρ :=
  ifb (ilt a d) (è ((ile 0 a)&&(ilt a (ò b))) (Ľ b (Int.toNat a) fun g=>ck (g-c) fun h=>è ((ile 0 a)&&(ilt a (ò b))) (Ľ b (Int.toNat a) fun j=>ck (a+(1:Int)) fun i=>e i (List.set b (Int.toNat a) h)))) (f b)
def xx (a:Val Ë) (h:Val ao) (k:(Val (.pair aa .bool))→Option ρ):Option ρ :=
  è ((ile 0 a.1)&&(î (Int.toNat a.1))) (è ((ile 0 a.1)&&(î (Int.toNat a.1))) (è ((ile 0 a.1)&&(î (Int.toNat a.1))) (Ê (fun(e:Val Ä) i=>χ a.2 (Ù a.2) e.1 e.2 (fun j l=>i (j,l)) (fun m=>Ê (fun(d:(Val (.pair tI aM))) n=>ŕ a.1 (List.replicate (Int.toNat a.1) (0:Int)) d.1 d.2.1 d.2.2 (fun o p q=>n (o,p,q)) (fun f=>Ê (fun(c:Val aO) r=>ģ h m a.1 a.2 c.1 c.2.1 c.2.2.1 c.2.2.2 (fun s t u v=>r (s,t,u,v)) (fun b=>ifb (!b.1) (k ([],false)) (è (ilt 0 (ò b.2.1)) (Ľ b.2.1 0 fun w=>Ê (fun(g:Val ŏ) x=>iK w (Ù b.2.1) g.1 g.2 (fun y z=>x (y,z)) (fun A=>k (A,true))) ((0:Int),b.2.1))))) ((List.replicate (Int.toNat a.1) (0:Int)),f.1,(List.replicate (Int.toNat a.1) (0:Int)),f.2))) ((0:Int),(List.replicate (Int.toNat a.1) false),[]))) ((0:Int),(0:Int)))))
def ke (a:Val Ë) (b:Val ao):Option ((Val (.pair aa .bool))):=xx a b some
def rW (a:Val Ë) (k:Val aG→Option ρ):Option ρ :=
  Ã (nz a) fun b=>ifb (ine b.1 0) (k (false,b.1)) (Ã (ke a ([])) fun c=>k (c.2,(0:Int)))
def mz (a:Val Ë):Option ((Val aG)):=rW a some
def xb (a:Val Â) (b:Val af) (k:Bool→Option ρ):Option ρ :=
  Ã (ŧ a b) fun c=>Ã (gJ c) fun d=>Ã (mz d.1) fun e=>k e.1
def Ū (a:Val Â) (b:Val af):Option (Bool):=xb a b some
def ol (d:Int) (e:Val aa) (f:Int) (g:Val ai) (b:Int) (a:Int) (c:Int→Int→Option ρ) (h:Int→Option ρ):Option ρ :=
  ifb (ilt a f) (ĝ e a fun i=>ĝ g d fun j=>ĝ j.2 a fun k=>ifb (ine k i) (ck (b+(1:Int)) fun l=>ck (a+(1:Int)) fun m=>c l m) (ck (a+(1:Int)) fun n=>c b n)) (h b)
def om (e:Val af) (f:Int) (g:Val ai) (b:Int) (a:Int) (h:Int→Int→Option ρ) (i:Int→Option ρ):Option ρ :=
  ifb (ilt a f) (ĝ e a fun c=>Ê (fun(d:Val Ä) j=>ol a c (Ù c) g d.1 d.2 (fun k l=>j (k,l)) (fun m=>ck (a+(1:Int)) fun n=>h m n)) (b,(0:Int))) (i b)
def E4 (c:Val Â) (a:Val af) (k:Int→Option ρ):Option ρ :=
  Ê (fun(b:Val Ä) d=>om a (Ù a) c.2 b.1 b.2 (fun e f=>d (e,f)) (fun g=>k g)) ((0:Int),(0:Int))
def ĩ (a:Val Â) (b:Val af):Option (Int):=E4 a b some
def pF (a:Int) (k:Bool→Option ρ):Option ρ :=
  k (ine a a)
def kS (a:Int):Option (Bool):=pF a some
def l6 (a:Int) (b:Int) (k:Int→Option ρ):Option ρ :=
  Ã (kS a) fun d=>Ã (kS b) fun c=>ifb d (ifb c (k (0:Int)) (k (-1:Int))) (ifb c (k (1:Int)) (ifb (ilt a b) (k (-1:Int)) (ifb (igt a b) (k (1:Int)) (k (0:Int)))))
def gI (a:Int) (b:Int):Option (Int):=l6 a b some
def E5 (b:Val af) (c:Val af) (a:Val ar) (k:Int→Option ρ):Option ρ :=
  Ã (ĩ a b) fun d=>Ã (ĩ a c) fun e=>Ã (gI d e) fun f=>k f
def i8 (a:Val af) (b:Val af) (c:Val ar):Option (Int):=E5 a b c some
def å (h:Int) (i:Int) (j:Int) (k:Val ag) (l:Val ab) (m:Val ah) (n:Val ae) (o:Val ab) (p:Val ai) (a:Int) (b:Val aj) (q:Int→Val aj→Option ρ) (g:Val aj→Option ρ):Option ρ :=
  ifb (igt a h) (è ((ile 0 a)&&(ilt a (ò b))) (Ľ b (Int.toNat a) fun r=>ck (a-(1:Int)) fun d=>è ((ile 0 d)&&(ilt d (ò b))) (Ľ b (Int.toNat d) fun s=>Ã (i8 r s (((i,j),k,l,m,n,o),p)) fun t=>ifb (ilt t 0) (ck (a-(1:Int)) fun c=>ck (a-(1:Int)) fun e=>è ((ile 0 e)&&(ilt e (ò b))) (Ľ b (Int.toNat e) fun f=>è ((ile 0 a)&&(ilt a (ò b))) (Ľ b (Int.toNat a) fun u=>è ((ile 0 a)&&(ilt a (ò b))) (Ľ b (Int.toNat a) fun w=>è ((ile 0 c)&&(ilt c (ò (List.set b (Int.toNat a) f)))) (Ľ (List.set b (Int.toNat a) f) (Int.toNat c) fun x=>ck (a-(1:Int)) fun v=>q v (List.set (List.set b (Int.toNat a) f) (Int.toNat c) u)))))) (g b)))) (g b)
def Ć (d:Int) (e:Int) (f:Int) (g:Int) (h:Val ag) (i:Val ab) (j:Val ah) (k:Val ae) (l:Val ab) (m:Val ai) (a:Int) (b:Val aj) (n:Int→Val aj→Option ρ) (o:Val aj→Option ρ):Option ρ :=
  ifb (ilt a e) (Ê (fun(c:Val aB) p=>å d f g h i j k l m c.1 c.2 (fun q r=>p (q,r)) (fun s=>ck (a+(1:Int)) fun t=>n t s)) (a,b)) (o b)
def ť (c:Val aj) (a:Int) (d:Int) (mm:Val Â) (k:((Val aj))×(Val Â)→Option ρ):Option ρ :=
  ck (a+(1:Int)) fun e=>Ê (fun(b:Val aB) f=>Ć a d mm.1.1.1 mm.1.1.2 mm.1.2.1 mm.1.2.2.1 mm.1.2.2.2.1 mm.1.2.2.2.2.1 mm.1.2.2.2.2.2 mm.2 b.1 b.2 (fun g h=>f (g,h)) (fun i=>k (i,mm))) (e,c)
def ã (a:Val aj) (b:Int) (c:Int) (mm:Val Â):Option (((Val aj))×(Val Â)):=ť a b c mm some
def ą (h:Int) (i:Int) (j:Int) (b:Int) (a:Val aj) (k:Int→Val aj→Option ρ) (l:Val aj→Option ρ):Option ρ :=
  ifb (ilt b j) (ck (h+b) fun c=>ck (i+b) fun d=>ck (i+b) fun e=>è ((ile 0 e)&&(ilt e (ò a))) (Ľ a (Int.toNat e) fun f=>ck (h+b) fun g=>è ((ile 0 g)&&(ilt g (ò a))) (Ľ a (Int.toNat g) fun m=>è ((ile 0 c)&&(ilt c (ò a))) (Ľ a (Int.toNat c) fun o=>è ((ile 0 d)&&(ilt d (ò (List.set a (Int.toNat c) f)))) (Ľ (List.set a (Int.toNat c) f) (Int.toNat d) fun p=>ck (b+(1:Int)) fun n=>k n (List.set (List.set a (Int.toNat c) f) (Int.toNat d) m)))))) (l a)
def υ (h:Int) (i:Int) (j:Int) (b:Int) (a:Val aj) (k:Int→Val aj→Option ρ) (l:Val aj→Option ρ):Option ρ :=
  ifb (ilt b j) (ck (h+b) fun c=>ck (i+b) fun d=>ck (i+b) fun e=>è ((ile 0 e)&&(ilt e (ò a))) (Ľ a (Int.toNat e) fun f=>ck (h+b) fun g=>è ((ile 0 g)&&(ilt g (ò a))) (Ľ a (Int.toNat g) fun m=>è ((ile 0 c)&&(ilt c (ò a))) (Ľ a (Int.toNat c) fun o=>è ((ile 0 d)&&(ilt d (ò (List.set a (Int.toNat c) f)))) (Ľ (List.set a (Int.toNat c) f) (Int.toNat d) fun p=>ck (b+(1:Int)) fun n=>k n (List.set (List.set a (Int.toNat c) f) (Int.toNat d) m)))))) (l a)
def Ĩ (c:Int) (a:Int) (b:Int) (d:Val aj) (e:Int→Int→Val aj→Option ρ) (h:Val aB→Option ρ):Option ρ :=
  ifb (ine a b) (ifb (igt a b) (ck (c-a) fun i=>Ê (fun(f:Val aB) j=>ą i c b f.1 f.2 (fun k l=>j (k,l)) (fun m=>ck (a-b) fun n=>e n b m)) ((0:Int),d)) (ck (c-a) fun o=>ck (c+b) fun p=>ck (p-a) fun q=>Ê (fun(g:Val aB) r=>υ o q a g.1 g.2 (fun s t=>r (s,t)) (fun u=>ck (b-a) fun v=>e a v u)) ((0:Int),d))) (h (a,d))
def ς (h:Int) (i:Int) (j:Int) (b:Int) (a:Val aj) (k:Int→Val aj→Option ρ) (l:Val aj→Option ρ):Option ρ :=
  ifb (ilt b j) (ck (h+b) fun c=>ck (i+b) fun d=>ck (i+b) fun e=>è ((ile 0 e)&&(ilt e (ò a))) (Ľ a (Int.toNat e) fun f=>ck (h+b) fun g=>è ((ile 0 g)&&(ilt g (ò a))) (Ľ a (Int.toNat g) fun m=>è ((ile 0 c)&&(ilt c (ò a))) (Ľ a (Int.toNat c) fun o=>è ((ile 0 d)&&(ilt d (ò (List.set a (Int.toNat c) f)))) (Ľ (List.set a (Int.toNat c) f) (Int.toNat d) fun p=>ck (b+(1:Int)) fun n=>k n (List.set (List.set a (Int.toNat c) f) (Int.toNat d) m)))))) (l a)
def iJ (e:Val aj) (f:Int) (a:Int) (g:Int) (mm:Val Â) (k:((Val aj))×(Val Â)→Option ρ):Option ρ :=
  ck (a-f) fun h=>ck (g-a) fun i=>Ê (fun(b:(Val (.pair tI aB))) j=>Ĩ a b.1 b.2.1 b.2.2 (fun l m n=>j (l,m,n)) (fun c=>ck (a-c.1) fun o=>Ê (fun(d:Val aB) p=>ς o a c.1 d.1 d.2 (fun q r=>p (q,r)) (fun s=>k (s,mm))) ((0:Int),c.2))) (h,i,e)
def ī (a:Val aj) (b:Int) (c:Int) (d:Int) (mm:Val Â):Option (((Val aj))×(Val Â)):=iJ a b c d mm some
def ô (rec:Val aj→Int→Int→Int→Val Â→Option ((Val aj)×(Val Â))) (d:Int) (b:Val aj) (g:Int) (h:Int) (i:Val ag) (j:Val ab) (k:Val ah) (l:Val ae) (m:Val ab) (n:Val ai) (c:Int) (e:Int) (f:Int→Int→Option ρ) (o:Int→Option ρ):Option ρ :=
  ifb (ilt c e) (ck (c+e) fun a=>è ((ile 0 (IntKind.wrap .i64 (gO .u64 (IntKind.wrap .u64 a) (1:Int))))&&(ilt (IntKind.wrap .i64 (gO .u64 (IntKind.wrap .u64 a) (1:Int))) (ò b))) (Ľ b (Int.toNat (IntKind.wrap .i64 (gO .u64 (IntKind.wrap .u64 a) (1:Int)))) fun p=>è ((ile 0 d)&&(ilt d (ò b))) (Ľ b (Int.toNat d) fun q=>Ã (i8 p q (((g,h),i,j,k,l,m),n)) fun r=>ifb (ilt r 0) (ck ((IntKind.wrap .i64 (gO .u64 (IntKind.wrap .u64 a) (1:Int)))+(1:Int)) fun s=>f s e) (f c (IntKind.wrap .i64 (gO .u64 (IntKind.wrap .u64 a) (1:Int))))))) (o c)
def ë (rec:Val aj→Int→Int→Int→Val Â→Option ((Val aj)×(Val Â))) (f:Int) (a:Int) (b:Val aj) (g:Int→Val aj→Option ρ) (h:Val aj→Option ρ):Option ρ :=
  ck (f-(1:Int)) fun i=>ifb (ilt a i) (ck (a+(1:Int)) fun c=>ck (a+(1:Int)) fun d=>è ((ile 0 d)&&(ilt d (ò b))) (Ľ b (Int.toNat d) fun e=>è ((ile 0 a)&&(ilt a (ò b))) (Ľ b (Int.toNat a) fun j=>è ((ile 0 a)&&(ilt a (ò b))) (Ľ b (Int.toNat a) fun l=>è ((ile 0 c)&&(ilt c (ò (List.set b (Int.toNat a) e)))) (Ľ (List.set b (Int.toNat a) e) (Int.toNat c) fun m=>ck (a+(1:Int)) fun k=>g k (List.set (List.set b (Int.toNat a) e) (Int.toNat c) j)))))) (h b)
def ó (rec:Val aj→Int→Int→Int→Val Â→Option ((Val aj)×(Val Â))) (d:Int) (b:Val aj) (g:Int) (h:Int) (i:Val ag) (j:Val ab) (k:Val ah) (l:Val ae) (m:Val ab) (n:Val ai) (c:Int) (e:Int) (f:Int→Int→Option ρ) (o:Int→Option ρ):Option ρ :=
  ifb (ilt c e) (ck (c+e) fun a=>è ((ile 0 d)&&(ilt d (ò b))) (Ľ b (Int.toNat d) fun p=>è ((ile 0 (IntKind.wrap .i64 (gO .u64 (IntKind.wrap .u64 a) (1:Int))))&&(ilt (IntKind.wrap .i64 (gO .u64 (IntKind.wrap .u64 a) (1:Int))) (ò b))) (Ľ b (Int.toNat (IntKind.wrap .i64 (gO .u64 (IntKind.wrap .u64 a) (1:Int)))) fun q=>Ã (i8 p q (((g,h),i,j,k,l,m),n)) fun r=>ifb (!(ilt r 0)) (ck ((IntKind.wrap .i64 (gO .u64 (IntKind.wrap .u64 a) (1:Int)))+(1:Int)) fun s=>f s e) (f c (IntKind.wrap .i64 (gO .u64 (IntKind.wrap .u64 a) (1:Int))))))) (o c)
def ê (rec:Val aj→Int→Int→Int→Val Â→Option ((Val aj)×(Val Â))) (f:Int) (a:Int) (b:Val aj) (g:Int→Val aj→Option ρ) (h:Val aj→Option ρ):Option ρ :=
  ifb (igt a f) (ck (a-(1:Int)) fun c=>ck (a-(1:Int)) fun d=>è ((ile 0 d)&&(ilt d (ò b))) (Ľ b (Int.toNat d) fun e=>è ((ile 0 a)&&(ilt a (ò b))) (Ľ b (Int.toNat a) fun i=>è ((ile 0 a)&&(ilt a (ò b))) (Ľ b (Int.toNat a) fun k=>è ((ile 0 c)&&(ilt c (ò (List.set b (Int.toNat a) e)))) (Ľ (List.set b (Int.toNat a) e) (Int.toNat c) fun l=>ck (a-(1:Int)) fun j=>g j (List.set (List.set b (Int.toNat a) e) (Int.toNat c) i)))))) (h b)
def Ý (rec:Val aj→Int→Int→Int→Val Â→Option ((Val aj)×(Val Â))) (g:Int) (b:Val aj) (h:Int) (i:Int) (j:Val ag) (k:Val ab) (l:Val ah) (m:Val ae) (n:Val ab) (o:Val ai) (c:Int) (d:Int) (f:Int→Int→Option ρ) (p:Int→Option ρ):Option ρ :=
  ifb (ilt c d) (ck (c+d) fun a=>ck (g-(IntKind.wrap .i64 (gO .u64 (IntKind.wrap .u64 a) (1:Int)))) fun e=>è ((ile 0 e)&&(ilt e (ò b))) (Ľ b (Int.toNat e) fun q=>è ((ile 0 (IntKind.wrap .i64 (gO .u64 (IntKind.wrap .u64 a) (1:Int))))&&(ilt (IntKind.wrap .i64 (gO .u64 (IntKind.wrap .u64 a) (1:Int))) (ò b))) (Ľ b (Int.toNat (IntKind.wrap .i64 (gO .u64 (IntKind.wrap .u64 a) (1:Int)))) fun r=>Ã (i8 q r (((h,i),j,k,l,m,n),o)) fun s=>ifb (!(ilt s 0)) (ck ((IntKind.wrap .i64 (gO .u64 (IntKind.wrap .u64 a) (1:Int)))+(1:Int)) fun t=>f t d) (f c (IntKind.wrap .i64 (gO .u64 (IntKind.wrap .u64 a) (1:Int))))))) (p c)
def ğ (rec:Val aj→Int→Int→Int→Val Â→Option ((Val aj)×(Val Â))) (c:Val aj) (f:Int) (g:Int) (b:Int) (mm:Val Â) (k:((Val aj))×(Val Â)→Option ρ):Option ρ :=
  ck (g-f) fun R=>ifb (ieq R 1) (Ê (fun(t:Val Ä) S=>ô rec f c mm.1.1.1 mm.1.1.2 mm.1.2.1 mm.1.2.2.1 mm.1.2.2.2.1 mm.1.2.2.2.2.1 mm.1.2.2.2.2.2 mm.2 t.1 t.2 (fun T U=>S (T,U)) (fun V=>Ê (fun(u:Val aB) W=>ë rec V u.1 u.2 (fun X Y=>W (X,Y)) (fun Z=>k (Z,mm))) (f,c))) (g,b)) (ck (b-g) fun cw=>ifb (ieq cw 1) (Ê (fun(v:Val Ä) cz=>ó rec g c mm.1.1.1 mm.1.1.2 mm.1.2.1 mm.1.2.2.1 mm.1.2.2.2.1 mm.1.2.2.2.2.1 mm.1.2.2.2.2.2 mm.2 v.1 v.2 (fun dc df=>cz (dc,df)) (fun dg=>Ê (fun(w:Val aB) dh=>ê rec dg w.1 w.2 (fun di dj=>dh (di,dj)) (fun dk=>k (dk,mm))) (g,c))) (f,g)) (ck (f+b) fun a=>ck ((IntKind.wrap .i64 (gO .u64 (IntKind.wrap .u64 a) (1:Int)))+g) fun s=>ifb (igt g (IntKind.wrap .i64 (gO .u64 (IntKind.wrap .u64 a) (1:Int)))) (ck (s-b) fun dl=>ck (s-1) fun dm=>Ê (fun(x:Val Ä) dt=>Ý rec dm c mm.1.1.1 mm.1.1.2 mm.1.2.1 mm.1.2.2.1 mm.1.2.2.2.1 mm.1.2.2.2.2.1 mm.1.2.2.2.2.2 mm.2 x.1 x.2 (fun du dv=>dt (du,dv)) (fun j=>ck (s-j) fun d=>ifb (ilt j g) (ifb (ilt g d) (Ã (ī c j g d mm) fun h=>ifb (ilt f j) (ifb (ilt j (IntKind.wrap .i64 (gO .u64 (IntKind.wrap .u64 a) (1:Int)))) (Ã (rec h.1 f j (IntKind.wrap .i64 (gO .u64 (IntKind.wrap .u64 a) (1:Int))) h.2) fun m=>ifb (ilt (IntKind.wrap .i64 (gO .u64 (IntKind.wrap .u64 a) (1:Int))) d) (ifb (ilt d b) (Ã (rec m.1 (IntKind.wrap .i64 (gO .u64 (IntKind.wrap .u64 a) (1:Int))) d b m.2) fun y=>k (y.1,y.2)) (k (m.1,m.2))) (k (m.1,m.2))) (ifb (ilt (IntKind.wrap .i64 (gO .u64 (IntKind.wrap .u64 a) (1:Int))) d) (ifb (ilt d b) (Ã (rec h.1 (IntKind.wrap .i64 (gO .u64 (IntKind.wrap .u64 a) (1:Int))) d b h.2) fun z=>k (z.1,z.2)) (k (h.1,h.2))) (k (h.1,h.2)))) (ifb (ilt (IntKind.wrap .i64 (gO .u64 (IntKind.wrap .u64 a) (1:Int))) d) (ifb (ilt d b) (Ã (rec h.1 (IntKind.wrap .i64 (gO .u64 (IntKind.wrap .u64 a) (1:Int))) d b h.2) fun A=>k (A.1,A.2)) (k (h.1,h.2))) (k (h.1,h.2)))) (ifb (ilt f j) (ifb (ilt j (IntKind.wrap .i64 (gO .u64 (IntKind.wrap .u64 a) (1:Int)))) (Ã (rec c f j (IntKind.wrap .i64 (gO .u64 (IntKind.wrap .u64 a) (1:Int))) mm) fun n=>ifb (ilt (IntKind.wrap .i64 (gO .u64 (IntKind.wrap .u64 a) (1:Int))) d) (ifb (ilt d b) (Ã (rec n.1 (IntKind.wrap .i64 (gO .u64 (IntKind.wrap .u64 a) (1:Int))) d b n.2) fun B=>k (B.1,B.2)) (k (n.1,n.2))) (k (n.1,n.2))) (ifb (ilt (IntKind.wrap .i64 (gO .u64 (IntKind.wrap .u64 a) (1:Int))) d) (ifb (ilt d b) (Ã (rec c (IntKind.wrap .i64 (gO .u64 (IntKind.wrap .u64 a) (1:Int))) d b mm) fun C=>k (C.1,C.2)) (k (c,mm))) (k (c,mm)))) (ifb (ilt (IntKind.wrap .i64 (gO .u64 (IntKind.wrap .u64 a) (1:Int))) d) (ifb (ilt d b) (Ã (rec c (IntKind.wrap .i64 (gO .u64 (IntKind.wrap .u64 a) (1:Int))) d b mm) fun D=>k (D.1,D.2)) (k (c,mm))) (k (c,mm))))) (ifb (ilt f j) (ifb (ilt j (IntKind.wrap .i64 (gO .u64 (IntKind.wrap .u64 a) (1:Int)))) (Ã (rec c f j (IntKind.wrap .i64 (gO .u64 (IntKind.wrap .u64 a) (1:Int))) mm) fun o=>ifb (ilt (IntKind.wrap .i64 (gO .u64 (IntKind.wrap .u64 a) (1:Int))) d) (ifb (ilt d b) (Ã (rec o.1 (IntKind.wrap .i64 (gO .u64 (IntKind.wrap .u64 a) (1:Int))) d b o.2) fun E=>k (E.1,E.2)) (k (o.1,o.2))) (k (o.1,o.2))) (ifb (ilt (IntKind.wrap .i64 (gO .u64 (IntKind.wrap .u64 a) (1:Int))) d) (ifb (ilt d b) (Ã (rec c (IntKind.wrap .i64 (gO .u64 (IntKind.wrap .u64 a) (1:Int))) d b mm) fun F=>k (F.1,F.2)) (k (c,mm))) (k (c,mm)))) (ifb (ilt (IntKind.wrap .i64 (gO .u64 (IntKind.wrap .u64 a) (1:Int))) d) (ifb (ilt d b) (Ã (rec c (IntKind.wrap .i64 (gO .u64 (IntKind.wrap .u64 a) (1:Int))) d b mm) fun G=>k (G.1,G.2)) (k (c,mm))) (k (c,mm)))))) (dl,(IntKind.wrap .i64 (gO .u64 (IntKind.wrap .u64 a) (1:Int))))) (ck (s-1) fun dw=>Ê (fun(H:Val Ä) dz=>Ý rec dw c mm.1.1.1 mm.1.1.2 mm.1.2.1 mm.1.2.2.1 mm.1.2.2.2.1 mm.1.2.2.2.2.1 mm.1.2.2.2.2.2 mm.2 H.1 H.2 (fun d8 d9=>dz (d8,d9)) (fun l=>ck (s-l) fun e=>ifb (ilt l g) (ifb (ilt g e) (Ã (ī c l g e mm) fun i=>ifb (ilt f l) (ifb (ilt l (IntKind.wrap .i64 (gO .u64 (IntKind.wrap .u64 a) (1:Int)))) (Ã (rec i.1 f l (IntKind.wrap .i64 (gO .u64 (IntKind.wrap .u64 a) (1:Int))) i.2) fun p=>ifb (ilt (IntKind.wrap .i64 (gO .u64 (IntKind.wrap .u64 a) (1:Int))) e) (ifb (ilt e b) (Ã (rec p.1 (IntKind.wrap .i64 (gO .u64 (IntKind.wrap .u64 a) (1:Int))) e b p.2) fun I=>k (I.1,I.2)) (k (p.1,p.2))) (k (p.1,p.2))) (ifb (ilt (IntKind.wrap .i64 (gO .u64 (IntKind.wrap .u64 a) (1:Int))) e) (ifb (ilt e b) (Ã (rec i.1 (IntKind.wrap .i64 (gO .u64 (IntKind.wrap .u64 a) (1:Int))) e b i.2) fun J=>k (J.1,J.2)) (k (i.1,i.2))) (k (i.1,i.2)))) (ifb (ilt (IntKind.wrap .i64 (gO .u64 (IntKind.wrap .u64 a) (1:Int))) e) (ifb (ilt e b) (Ã (rec i.1 (IntKind.wrap .i64 (gO .u64 (IntKind.wrap .u64 a) (1:Int))) e b i.2) fun K=>k (K.1,K.2)) (k (i.1,i.2))) (k (i.1,i.2)))) (ifb (ilt f l) (ifb (ilt l (IntKind.wrap .i64 (gO .u64 (IntKind.wrap .u64 a) (1:Int)))) (Ã (rec c f l (IntKind.wrap .i64 (gO .u64 (IntKind.wrap .u64 a) (1:Int))) mm) fun q=>ifb (ilt (IntKind.wrap .i64 (gO .u64 (IntKind.wrap .u64 a) (1:Int))) e) (ifb (ilt e b) (Ã (rec q.1 (IntKind.wrap .i64 (gO .u64 (IntKind.wrap .u64 a) (1:Int))) e b q.2) fun L=>k (L.1,L.2)) (k (q.1,q.2))) (k (q.1,q.2))) (ifb (ilt (IntKind.wrap .i64 (gO .u64 (IntKind.wrap .u64 a) (1:Int))) e) (ifb (ilt e b) (Ã (rec c (IntKind.wrap .i64 (gO .u64 (IntKind.wrap .u64 a) (1:Int))) e b mm) fun M=>k (M.1,M.2)) (k (c,mm))) (k (c,mm)))) (ifb (ilt (IntKind.wrap .i64 (gO .u64 (IntKind.wrap .u64 a) (1:Int))) e) (ifb (ilt e b) (Ã (rec c (IntKind.wrap .i64 (gO .u64 (IntKind.wrap .u64 a) (1:Int))) e b mm) fun N=>k (N.1,N.2)) (k (c,mm))) (k (c,mm))))) (ifb (ilt f l) (ifb (ilt l (IntKind.wrap .i64 (gO .u64 (IntKind.wrap .u64 a) (1:Int)))) (Ã (rec c f l (IntKind.wrap .i64 (gO .u64 (IntKind.wrap .u64 a) (1:Int))) mm) fun r=>ifb (ilt (IntKind.wrap .i64 (gO .u64 (IntKind.wrap .u64 a) (1:Int))) e) (ifb (ilt e b) (Ã (rec r.1 (IntKind.wrap .i64 (gO .u64 (IntKind.wrap .u64 a) (1:Int))) e b r.2) fun O=>k (O.1,O.2)) (k (r.1,r.2))) (k (r.1,r.2))) (ifb (ilt (IntKind.wrap .i64 (gO .u64 (IntKind.wrap .u64 a) (1:Int))) e) (ifb (ilt e b) (Ã (rec c (IntKind.wrap .i64 (gO .u64 (IntKind.wrap .u64 a) (1:Int))) e b mm) fun P=>k (P.1,P.2)) (k (c,mm))) (k (c,mm)))) (ifb (ilt (IntKind.wrap .i64 (gO .u64 (IntKind.wrap .u64 a) (1:Int))) e) (ifb (ilt e b) (Ã (rec c (IntKind.wrap .i64 (gO .u64 (IntKind.wrap .u64 a) (1:Int))) e b mm) fun Q=>k (Q.1,Q.2)) (k (c,mm))) (k (c,mm)))))) (f,g))))
def Ğ:Nat→Val aj→Int→Int→Int→Val Â→Option ((Val aj)×(Val Â))
  |0=>fun _ _ _ _ _=>none
  |n+1=>fun a b c d mm=>ğ (Ğ n) a b c d mm some
def ď (a:Val aj) (b:Int) (c:Int) (d:Int) (mm:Val Â):Option (((Val aj))×(Val Â)):=Ğ 100 a b c d mm
def π (m:Int) (n:Int) (c:Int) (b:Int) (d:Val aj) (e:Int) (f:Int) (g:Val ag) (h:Val ab) (i:Val ah) (j:Val ae) (k:Val ab) (l:Val ai) (o:Int→Int→Val aj→Int→Int→Val ag→Val ab→Val ah→Val ae→Val ab→Val ai→Option ρ) (p:Val au→Option ρ):Option ρ :=
  ifb (ile b m) (Ã (ã d c b (((e,f),g,h,i,j,k),l)) fun a=>ck (b+n) fun q=>o b q a.1 a.2.1.1.1 a.2.1.1.2 a.2.1.2.1 a.2.1.2.2.1 a.2.1.2.2.2.1 a.2.1.2.2.2.2.1 a.2.1.2.2.2.2.2 a.2.2) (p (c,d,e,f,g,h,i,j,k,l))
def ξ (n:Int) (d:Int) (c:Int) (b:Int) (e:Val aj) (f:Int) (g:Int) (h:Val ag) (i:Val ab) (j:Val ah) (k:Val ae) (l:Val ab) (m:Val ai) (o:Int→Int→Val aj→Int→Int→Val ag→Val ab→Val ah→Val ae→Val ab→Val ai→Option ρ) (p:Val au→Option ρ):Option ρ :=
  ifb (ile b n) (ck (c+d) fun q=>Ã (ď e c q b (((f,g),h,i,j,k,l),m)) fun a=>ck ((2:Int)*d) fun r=>ck (b+r) fun s=>o b s a.1 a.2.1.1.1 a.2.1.1.2 a.2.1.2.1 a.2.1.2.2.1 a.2.1.2.2.2.1 a.2.1.2.2.2.2.1 a.2.1.2.2.2.2.2 a.2.2) (p (c,e,f,g,h,i,j,k,l,m))
def ο (e:Int) (d:Int) (f:Val aj) (g:Int) (h:Int) (i:Val ag) (j:Val ab) (k:Val ah) (l:Val ae) (m:Val ab) (n:Val ai) (o:Int→Val aj→Int→Int→Val ag→Val ab→Val ah→Val ae→Val ab→Val ai→Option ρ) (q:(Val (.pair aj ac))→Option ρ):Option ρ :=
  ifb (ilt d e) (ck ((2:Int)*d) fun r=>Ê (fun(b:(Val (.pair tI au))) s=>ξ e d b.1 b.2.1 b.2.2.1 b.2.2.2.1 b.2.2.2.2.1 b.2.2.2.2.2.1 b.2.2.2.2.2.2.1 b.2.2.2.2.2.2.2.1 b.2.2.2.2.2.2.2.2.1 b.2.2.2.2.2.2.2.2.2.1 b.2.2.2.2.2.2.2.2.2.2 (fun t u v w x y z A B C D=>s (t,u,v,w,x,y,z,A,B,C,D)) (fun a=>ck (a.1+d) fun p=>ifb (ilt p e) (Ã (ď a.2.1 a.1 p e (((a.2.2.1,a.2.2.2.1),a.2.2.2.2.1,a.2.2.2.2.2.1,a.2.2.2.2.2.2.1,a.2.2.2.2.2.2.2.1,a.2.2.2.2.2.2.2.2.1),a.2.2.2.2.2.2.2.2.2)) fun c=>ck (d*(2:Int)) fun E=>o E c.1 c.2.1.1.1 c.2.1.1.2 c.2.1.2.1 c.2.1.2.2.1 c.2.1.2.2.2.1 c.2.1.2.2.2.2.1 c.2.1.2.2.2.2.2 c.2.2) (ck (d*(2:Int)) fun F=>o F a.2.1 a.2.2.1 a.2.2.2.1 a.2.2.2.2.1 a.2.2.2.2.2.1 a.2.2.2.2.2.2.1 a.2.2.2.2.2.2.2.1 a.2.2.2.2.2.2.2.2.1 a.2.2.2.2.2.2.2.2.2))) ((0:Int),r,f,g,h,i,j,k,l,m,n)) (q (f,g,h,i,j,k,l,m,n))
def iI (g:Val aj) (f:Int) (mm:Val Â) (k:((Val aj))×(Val Â)→Option ρ):Option ρ :=
  Ê (fun(a:(Val (.pair tI au))) h=>π f (20:Int) a.1 a.2.1 a.2.2.1 a.2.2.2.1 a.2.2.2.2.1 a.2.2.2.2.2.1 a.2.2.2.2.2.2.1 a.2.2.2.2.2.2.2.1 a.2.2.2.2.2.2.2.2.1 a.2.2.2.2.2.2.2.2.2.1 a.2.2.2.2.2.2.2.2.2.2 (fun i j l m n o p q r s t=>h (i,j,l,m,n,o,p,q,r,s,t)) (fun b=>Ã (ã b.2.1 b.1 f (((b.2.2.1,b.2.2.2.1),b.2.2.2.2.1,b.2.2.2.2.2.1,b.2.2.2.2.2.2.1,b.2.2.2.2.2.2.2.1,b.2.2.2.2.2.2.2.2.1),b.2.2.2.2.2.2.2.2.2)) fun d=>Ê (fun(c:Val au) u=>ο f c.1 c.2.1 c.2.2.1 c.2.2.2.1 c.2.2.2.2.1 c.2.2.2.2.2.1 c.2.2.2.2.2.2.1 c.2.2.2.2.2.2.2.1 c.2.2.2.2.2.2.2.2.1 c.2.2.2.2.2.2.2.2.2 (fun v w x y z A B C D E=>u (v,w,x,y,z,A,B,C,D,E)) (fun e=>k (e.1,(((e.2.1,e.2.2.1),e.2.2.2.1,e.2.2.2.2.1,e.2.2.2.2.2.1,e.2.2.2.2.2.2.1,e.2.2.2.2.2.2.2.1),e.2.2.2.2.2.2.2.2)))) ((20:Int),d.1,d.2.1.1.1,d.2.1.1.2,d.2.1.2.1,d.2.1.2.2.1,d.2.1.2.2.2.1,d.2.1.2.2.2.2.1,d.2.1.2.2.2.2.2,d.2.2))) ((0:Int),(20:Int),g,mm.1.1.1,mm.1.1.2,mm.1.2.1,mm.1.2.2.1,mm.1.2.2.2.1,mm.1.2.2.2.2.1,mm.1.2.2.2.2.2,mm.2)
def Ī (a:Val aj) (b:Int) (mm:Val Â):Option (((Val aj))×(Val Â)):=iI a b mm some
def Br (a:Val aj) (y:Val af) (b:Val aj→Option ρ):Option ρ :=
  è (î ((List.length a)+(List.length ([y])))) (b (a++([y])))
def ut (c:Int) (d:Int) (e:Int) (f:Val ag) (g:Val ab) (h:Val ah) (i:Val ae) (j:Val ab) (k:Val ai) (b:Val aj) (a:Int) (l:Int→Option ρ) (m:Int→Option ρ) (n:Unit→Option ρ):Option ρ :=
  ifb (ilt a c) (è ((ile 0 a)&&(ilt a (ò b))) (Ľ b (Int.toNat a) fun o=>Ã (Ū (((d,e),f,g,h,i,j),k) o) fun p=>ifb (!p) (m a) (ck (a+(1:Int)) fun q=>l q))) (n ())
def lT (f:Int) (g:Int) (h:Val ag) (i:Val ab) (j:Val ah) (k:Val ae) (l:Val ab) (m:Val ai) (b:Int) (c:Int) (a:Val aj) (d:Int→Int→Val aj→Option ρ) (n:Val aB→Option ρ):Option ρ :=
  ifb (ilt c (Ù a)) (è ((ile 0 c)&&(ilt c (ò a))) (Ľ a (Int.toNat c) fun e=>Ã (Ū (((f,g),h,i,j,k,l),m) e) fun o=>ifb (!(!o)) (è ((ile 0 b)&&(ilt b (ò a))) (Ľ a (Int.toNat b) fun s=>ck (b+(1:Int)) fun p=>ck (c+(1:Int)) fun q=>d p q (List.set a (Int.toNat b) e))) (ck (c+(1:Int)) fun r=>d b r a))) (n (b,a))
def Qe (b:Val Â) (k:Val aj→Option ρ):Option ρ :=
  Ã (me b.2) fun g=>ya (fun(h:Val aj) (i:Val af) j=>Br h i (fun l=>j l)) g ([]) (fun f=>Ã (Ī f (Ù f) b) fun c=>Ê (fun(m:Int) n=>ut (Ù c.1) b.1.1.1 b.1.1.2 b.1.2.1 b.1.2.2.1 b.1.2.2.2.1 b.1.2.2.2.2.1 b.1.2.2.2.2.2 b.2 c.1 m (fun o=>n o) (fun d=>ifb (ieq d (-1:Int)) (k c.1) (ck (d+(1:Int)) fun p=>Ê (fun(e:(Val (.pair tI aB))) q=>lT b.1.1.1 b.1.1.2 b.1.2.1 b.1.2.2.1 b.1.2.2.2.1 b.1.2.2.2.2.1 b.1.2.2.2.2.2 b.2 e.1 e.2.1 e.2.2 (fun r s t=>q (r,s,t)) (fun a=>è ((ile 0 a.1)&&(ile a.1 (ò a.2))) (è ((ile 0 a.1)&&(ile a.1 (ò (List.take (Int.toNat a.1) a.2++List.replicate (List.length a.2-(Int.toNat a.1)) ([])++List.drop ((Int.toNat a.1)+(List.length a.2-(Int.toNat a.1))) a.2)))) (k (List.take (Int.toNat a.1) (List.drop 0 (List.take (Int.toNat a.1) a.2++List.replicate (List.length a.2-(Int.toNat a.1)) ([])++List.drop ((Int.toNat a.1)+(List.length a.2-(Int.toNat a.1))) a.2))))))) (d,p,c.1))) (fun _=>k c.1)) (0:Int))
def Eh (a:Val Â):Option ((Val aj)):=Qe a some
def WL (a:Val Â) (k:(Val (.pair aj tI))→Option ρ):Option ρ :=
  Ã (ψ a) fun b=>ifb (ine b 0) (k ([],b)) (Ã (Eh a) fun c=>k (c,(0:Int)))
def LJ (a:Val Â):Option ((Val (.pair aj tI))):=WL a some
def Bf (a:Val aj) (y:Val af) (b:Val aj→Option ρ):Option ρ :=
  è (î ((List.length a)+(List.length ([y])))) (b (a++([y])))
def P6 (a:Val Â) (k:Val aj→Option ρ):Option ρ :=
  Ã (me a.2) fun c=>ya (fun(d:Val aj) (e:Val af) f=>Bf d e (fun g=>f g)) c ([]) (fun b=>Ã (Ī b (Ù b) a) fun h=>k h.1)
def rA (a:Val Â):Option ((Val aj)):=P6 a some
def jK (c:Val aj) (d:Int) (e:Int) (f:Int) (g:Val ag) (h:Val ab) (i:Val ah) (j:Val ae) (k:Val ab) (l:Val ai) (a:Int) (m:Int→Option ρ) (n:(Val (.pair af .bool))→Option ρ) (o:Unit→Option ρ):Option ρ :=
  ifb (ilt a d) (ĝ c a fun b=>Ã (Ū (((e,f),g,h,i,j,k),l) b) fun p=>ifb p (n (b,true)) (ck (a+(1:Int)) fun q=>m q)) (o ())
def uu (a:Val Â) (k:(Val (.pair af .bool))→Option ρ):Option ρ :=
  Ã (rA a) fun b=>Ê (fun(d:Int) e=>jK b (Ù b) a.1.1.1 a.1.1.2 a.1.2.1 a.1.2.2.1 a.1.2.2.2.1 a.1.2.2.2.2.1 a.1.2.2.2.2.2 a.2 d (fun f=>e f) (fun c=>k (c.1,c.2)) (fun _=>k ([],false))) (0:Int)
def ú (a:Val Â):Option ((Val (.pair af .bool))):=uu a some
def J7 (a:Val Â) (k:Val aZ→Option ρ):Option ρ :=
  Ã (ψ a) fun b=>ifb (ine b 0) (k ([],b)) (Ã (ú a) fun c=>ifb (!c.2) (k ([],(5:Int))) (k (c.1,(0:Int))))
def yd (a:Val Â):Option ((Val aZ)):=J7 a some
def jM (b:Val aa) (c:Val aa) (a:Int) (d:Int→Option ρ) (e:Bool→Option ρ) (f:Unit→Option ρ):Option ρ :=
  ifb (ilt a (Ù b)) (ĝ b a fun g=>ĝ c a fun h=>ifb (ine g h) (e false) (ck (a+(1:Int)) fun i=>d i)) (f ())
def uH (a:Val aa) (b:Val aa) (k:Bool→Option ρ):Option ρ :=
  ifb (ine (Ù a) (Ù b)) (k false) (Ê (fun(c:Int) d=>jM a b c (fun e=>d e) (fun f=>k f) (fun _=>k true)) (0:Int))
def i9 (a:Val aa) (b:Val aa):Option (Bool):=uH a b some
def kK (b:Val af) (c:Val af) (a:Int) (d:Int→Option ρ) (e:Bool→Option ρ) (f:Unit→Option ρ):Option ρ :=
  ifb (ilt a (Ù b)) (ĝ b a fun g=>ĝ c a fun h=>Ã (i9 g h) fun i=>ifb (!i) (e false) (ck (a+(1:Int)) fun j=>d j)) (f ())
def xw (a:Val af) (b:Val af) (k:Bool→Option ρ):Option ρ :=
  ifb (ine (Ù a) (Ù b)) (k false) (Ê (fun(c:Int) d=>kK a b c (fun e=>d e) (fun f=>k f) (fun _=>k true)) (0:Int))
def rD (a:Val af) (b:Val af):Option (Bool):=xw a b some
def qG (b:Val ag) (c:Int) (d:Int) (a:Int) (e:Int→Option ρ) (f:Int→Option ρ) (g:Unit→Option ρ):Option ρ :=
  ifb (ilt a c) (ĝ b a fun h=>ifb (ieq h.1 d) (f a) (ck (a+(1:Int)) fun i=>e i)) (g ())
def JJ (a:Val Â) (c:Int) (b:Int) (k:Int→Option ρ):Option ρ :=
  ifb (ilt b 0) (k (1:Int)) (ifb (igt b 20000) (k (1:Int)) (Ê (fun(d:Int) e=>qG a.1.2.1 (Ù a.1.2.1) c d (fun f=>e f) (fun g=>ifb (!(ige g 0)) (k (5:Int)) (k (0:Int))) (fun _=>k (5:Int))) (0:Int)))
def tO (a:Val Â) (b:Int) (c:Int):Option (Int):=JJ a b c some
def FR (a:Val aa) (b:Val aa) (k:(Val (.pair aa aw))→Option ρ):Option ρ :=
  Ã (mh a) fun c=>ifb (!c) (k ([],[],(1:Int))) (Ã (mh b) fun d=>ifb (!d) (k ([],[],(1:Int))) (Ã (Λ a b) fun e=>Ã (Λ b a) fun f=>k (e,f,(0:Int))))
def oW (a:Val aa) (b:Val aa):Option ((Val (.pair aa aw))):=FR a b some
def jL (g:Int) (b:Int) (c:Val ae) (a:Int) (d:Int→Option ρ) (h:Int→Option ρ) (i:Unit→Option ρ):Option ρ :=
  ifb (ilt a g) (è ((ile 0 a)&&(ilt a (ò c))) (Ľ c (Int.toNat a) fun e=>Ã (oW e.2.2.1 e.2.2.2.1) fun f=>Ã (Ü f.1 b) fun j=>ifb j (ck (a+(1:Int)) fun k=>d k) (Ã (Ü f.2.1 b) fun l=>ifb (!l) (h a) (ck (a+(1:Int)) fun m=>d m)))) (i ())
def Β (f:Int) (a:Int) (c:Int) (b:Val ae) (e:Int→Int→Val ae→Option ρ) (h:Val aT→Option ρ):Option ρ :=
  ifb (ilt c (Ù b)) (è ((ile 0 c)&&(ilt c (ò b))) (Ľ b (Int.toNat c) fun d=>Ã (oW d.2.2.1 d.2.2.2.1) fun g=>Ã (Ü g.1 f) fun i=>ifb i (è ((ile 0 a)&&(ilt a (ò b))) (Ľ b (Int.toNat a) fun p=>ck (a+(1:Int)) fun j=>ck (c+(1:Int)) fun k=>e j k (List.set b (Int.toNat a) d))) (Ã (Ü g.2.1 f) fun l=>ifb (!(!l)) (è ((ile 0 a)&&(ilt a (ò b))) (Ľ b (Int.toNat a) fun q=>ck (a+(1:Int)) fun m=>ck (c+(1:Int)) fun n=>e m n (List.set b (Int.toNat a) d))) (ck (c+(1:Int)) fun o=>e a o b)))) (h (a,b))
def uw (b:Val Â) (c:Int) (k:Val aG→Option ρ):Option ρ :=
  Ã (ψ b) fun f=>ifb (ine f 0) (k (false,f)) (Ã (tO b c (0:Int)) fun g=>ifb (ine g 0) (k (false,g)) (è (î (List.length b.1.2.2.2.2.1)) (Ê (fun(h:Int) i=>jL (Ù b.1.2.2.2.2.1) c b.1.2.2.2.2.1 h (fun j=>i j) (fun d=>ifb (ieq d (-1:Int)) (Ã (ú b) fun l=>k ((!l.2),(0:Int))) (ck (d+(1:Int)) fun m=>Ê (fun(e:(Val (.pair tI aT))) n=>Β c e.1 e.2.1 e.2.2 (fun o p q=>n (o,p,q)) (fun a=>è ((ile 0 a.1)&&(ile a.1 (ò a.2))) (è ((ile 0 a.1)&&(ile a.1 (ò (List.take (Int.toNat a.1) a.2++List.replicate (List.length a.2-(Int.toNat a.1)) ((0:Int),(0:Int),[],[],(0:Int),(0:Int),(0:Int),(0:Int))++List.drop ((Int.toNat a.1)+(List.length a.2-(Int.toNat a.1))) a.2)))) (Ã (ú ((b.1.1,b.1.2.1,b.1.2.2.1,b.1.2.2.2.1,(List.take (Int.toNat a.1) (List.drop 0 (List.take (Int.toNat a.1) a.2++List.replicate (List.length a.2-(Int.toNat a.1)) ((0:Int),(0:Int),[],[],(0:Int),(0:Int),(0:Int),(0:Int))++List.drop ((Int.toNat a.1)+(List.length a.2-(Int.toNat a.1))) a.2))),b.1.2.2.2.2.2),b.2)) fun r=>k ((!r.2),(0:Int)))))) (d,m,b.1.2.2.2.2.1))) (fun _=>Ã (ú b) fun s=>k ((!s.2),(0:Int)))) (0:Int))))
def oB (a:Val Â) (b:Int):Option ((Val aG)):=uw a b some
def ur (c:Int) (d:Val aa) (b:Val ae) (a:Int) (e:Int→Option ρ) (f:Int→Option ρ) (g:Unit→Option ρ):Option ρ :=
  ifb (ilt a c) (è ((ile 0 a)&&(ilt a (ò b))) (Ľ b (Int.toNat a) fun h=>Ã (Ü d h.1) fun i=>ifb (!i) (f a) (ck (a+(1:Int)) fun j=>e j))) (g ())
def lS (f:Val aa) (b:Int) (c:Int) (a:Val ae) (d:Int→Int→Val ae→Option ρ) (g:Val aT→Option ρ):Option ρ :=
  ifb (ilt c (Ù a)) (è ((ile 0 c)&&(ilt c (ò a))) (Ľ a (Int.toNat c) fun e=>Ã (Ü f e.1) fun h=>ifb (!(!h)) (è ((ile 0 b)&&(ilt b (ò a))) (Ľ a (Int.toNat b) fun l=>ck (b+(1:Int)) fun i=>ck (c+(1:Int)) fun j=>d i j (List.set a (Int.toNat b) e))) (ck (c+(1:Int)) fun k=>d b k a))) (g (b,a))
def P7 (b:Val Â) (e:Val aa) (k:Val Â→Option ρ):Option ρ :=
  è (î (List.length b.1.2.2.2.2.1)) (Ê (fun(f:Int) g=>ur (Ù b.1.2.2.2.2.1) e b.1.2.2.2.2.1 f (fun h=>g h) (fun c=>ifb (ieq c (-1:Int)) (k b) (ck (c+(1:Int)) fun i=>Ê (fun(d:(Val (.pair tI aT))) j=>lS e d.1 d.2.1 d.2.2 (fun l m n=>j (l,m,n)) (fun a=>è ((ile 0 a.1)&&(ile a.1 (ò a.2))) (è ((ile 0 a.1)&&(ile a.1 (ò (List.take (Int.toNat a.1) a.2++List.replicate (List.length a.2-(Int.toNat a.1)) ((0:Int),(0:Int),[],[],(0:Int),(0:Int),(0:Int),(0:Int))++List.drop ((Int.toNat a.1)+(List.length a.2-(Int.toNat a.1))) a.2)))) (k ((b.1.1,b.1.2.1,b.1.2.2.1,b.1.2.2.2.1,(List.take (Int.toNat a.1) (List.drop 0 (List.take (Int.toNat a.1) a.2++List.replicate (List.length a.2-(Int.toNat a.1)) ((0:Int),(0:Int),[],[],(0:Int),(0:Int),(0:Int),(0:Int))++List.drop ((Int.toNat a.1)+(List.length a.2-(Int.toNat a.1))) a.2))),b.1.2.2.2.2.2),b.2))))) (c,i,b.1.2.2.2.2.1))) (fun _=>k b)) (0:Int))
def yU (a:Val Â) (b:Val aa):Option (Val Â):=P7 a b some
def uA (d:Val ae) (e:Int) (a:Int) (b:Val aa) (f:Int→Val aa→Option ρ) (g:Val aa→Option ρ):Option ρ :=
  ifb (ilt a e) (ĝ d a fun c=>è (î ((List.length b)+(List.length ([c.1])))) (ck (a+(1:Int)) fun h=>f h (b++([c.1])))) (g b)
def pn (f:Int) (g:Int) (h:Val ag) (i:Val ab) (j:Val ah) (k:Val ae) (l:Val ab) (m:Val ai) (b:Val aa) (a:Int) (d:Val aa→Int→Option ρ) (n:Val aa→Option ρ):Option ρ :=
  ifb (ige a 0) (è ((ile 0 a)&&(ile a (ò b))) (ck (a+(1:Int)) fun c=>è ((ile 0 c)&&(ile c (ò b))) (Ã (Ģ ([(List.take (Int.toNat a) b),(List.drop (Int.toNat c) b)])) fun e=>Ã (yU (((f,g),h,i,j,k,l),m) e) fun o=>Ã (ú o) fun p=>ifb (!p.2) (ck (a-(1:Int)) fun q=>d e q) (ck (a-(1:Int)) fun r=>d b r)))) (n b)
def Qq (a:Val Â) (k:Val aw→Option ρ):Option ρ :=
  Ã (ψ a) fun b=>ifb (ine b 0) (k ([],b)) (Ã (ú a) fun f=>ifb f.2 (k ([],(5:Int))) (Ê (fun(c:Val ŏ) g=>uA a.1.2.2.2.2.1 (Ù a.1.2.2.2.2.1) c.1 c.2 (fun h i=>g (h,i)) (fun d=>ck ((Ù d)-(1:Int)) fun j=>Ê (fun(e:Val aw) l=>pn a.1.1.1 a.1.1.2 a.1.2.1 a.1.2.2.1 a.1.2.2.2.1 a.1.2.2.2.2.1 a.1.2.2.2.2.2 a.2 e.1 e.2 (fun m n=>l (m,n)) (fun o=>k (o,(0:Int)))) (d,j))) ((0:Int),[])))
def IF (a:Val Â):Option ((Val aw)):=Qq a some
def ot (e:Int) (f:Val aa) (g:Int) (a:Int) (b:Val aa) (c:Int→Val aa→Option ρ) (h:Val aa→Option ρ):Option ρ :=
  ifb (ilt a g) (ĝ f a fun d=>è (ile 0 a) (ifb (ieq (andI .i64 (gO .i64 e a) (1:Int)) 1) (è (î ((List.length b)+(List.length ([d])))) (ck (a+(1:Int)) fun i=>c i (b++([d])))) (ck (a+(1:Int)) fun j=>c j b))) (h b)
def Fe (a:Val aa) (c:Int) (k:Val aa→Option ρ):Option ρ :=
  Ê (fun(b:Val ŏ) d=>ot c a (Ù a) b.1 b.2 (fun e f=>d (e,f)) (fun g=>k g)) ((0:Int),[])
def ik (a:Val aa) (b:Int):Option ((Val aa)):=Fe a b some
def kD (b:Val ae) (c:Int) (d:Int) (a:Int) (e:Int→Option ρ) (f:Int→Option ρ) (g:Unit→Option ρ):Option ρ :=
  ifb (ilt a c) (ĝ b a fun h=>ifb (ieq h.1 d) (f a) (ck (a+(1:Int)) fun i=>e i)) (g ())
def κ (d:Val aa) (e:Int) (b:Val ae) (a:Int) (f:Int→Option ρ) (c:Int→Option ρ) (g:Unit→Option ρ):Option ρ :=
  ifb (ilt a e) (ĝ d a fun h=>Ê (fun(i:Int) j=>kD b (Ù b) h i (fun k=>j k) (fun l=>ifb (!(ige l 0)) (c (5:Int)) (ck (a+(1:Int)) fun m=>f m)) (fun _=>c (5:Int))) (0:Int)) (g ())
def iG (b:Val aa) (a:Int) (c:Int→Option ρ) (d:Int→Option ρ) (e:Unit→Option ρ):Option ρ :=
  ifb (ilt a (Ù b)) (ĝ b a fun f=>ck (a-(1:Int)) fun g=>ĝ b g fun h=>ifb (ile f h) (d (6:Int)) (ck (a+(1:Int)) fun i=>c i)) (e ())
def iF (c:Val aj) (d:Int) (e:Int) (f:Int) (g:Val ag) (h:Val ab) (i:Val ah) (j:Val ae) (k:Val ab) (l:Val ai) (m:Val aa) (n:Int) (a:Int) (o:Int→Option ρ) (p:(Val (.pair af .bool))→Option ρ) (q:Unit→Option ρ):Option ρ :=
  ifb (ilt a d) (ĝ c a fun b=>Ã (ik m n) fun r=>Ã (yU (((e,f),g,h,i,j,k),l) r) fun s=>Ã (Ū s b) fun t=>ifb (!(!t)) (p (b,true)) (ck (a+(1:Int)) fun u=>o u)) (q ())
def ų (b:Val aa) (e:Val aa) (f:Int) (a:Int) (g:Int→Option ρ) (c:Int→Option ρ) (h:Unit→Option ρ):Option ρ :=
  ifb (ilt a f) (ĝ e a fun i=>ifb (ige a (Ù b)) (c (1:Int)) (ĝ b a fun j=>Ã (gI i j) fun d=>ifb (ine d 0) (c d) (ck (a+(1:Int)) fun k=>g k))) (h ())
def Ŕ (c:Int) (d:Int) (b:Val aa) (a:Int) (e:Int→Option ρ) (f:Unit→Option ρ) (g:Unit→Option ρ):Option ρ :=
  ifb (ilt a d) (è ((ile 0 a)&&(ilt a (ò b))) (Ľ b (Int.toNat a) fun h=>ifb (ieq (Gi .i64 c h) 0) (f ()) (ck (a+(1:Int)) fun i=>e i))) (g ())
def œ (b:Int) (d:Val aj) (e:Int) (f:Val aa) (g:Int) (h:Int) (i:Val ag) (j:Val ab) (k:Val ah) (l:Val ae) (m:Val ab) (n:Val ai) (c:Int) (a:Val aa) (o:Int→Val aa→Option ρ) (p:Val aa→Option ρ) (q:Val aa→Option ρ):Option ρ :=
  ifb (ilt c e) (ĝ d c fun r=>Ã (ik f b) fun s=>Ã (yU (((g,h),i,j,k,l,m),n) s) fun t=>Ã (Ū t r) fun u=>ifb (!(!u)) (è (î ((List.length a)+(List.length ([b])))) (p (a++([b])))) (ck (c+(1:Int)) fun v=>o v a)) (q a)
def Ŵ (g:Val aj) (t:Int) (h:Val aa) (i:Int) (j:Int) (k:Val ag) (l:Val ab) (m:Val ah) (n:Val ae) (o:Val ab) (p:Val ai) (c:Val aa) (e:Int) (a:Int) (b:Val aa) (d:Val aa→Int→Int→Val aa→Option ρ) (u:Val ŏ→Option ρ):Option ρ :=
  ifb (ilt a t) (Ã (ik h a) fun f=>ifb (igt (Ù f) (Ù c)) (ck (a+(1:Int)) fun v=>d c e v b) (ifb (ieq (Ù f) (Ù c)) (Ê (fun(w:Int) x=>ų c f (Ù f) w (fun y=>x y) (fun z=>ifb (ige z 0) (ck (a+(1:Int)) fun A=>d c e A b) (Ê (fun(B:Int) C=>Ŕ a (Ù b) b B (fun D=>C D) (fun _=>ck (a+(1:Int)) fun E=>d c e E b) (fun _=>Ê (fun(q:Val ŏ) F=>œ a g (Ù g) h i j k l m n o p q.1 q.2 (fun G H=>F (G,H)) (fun I=>ck (a+(1:Int)) fun J=>d c e J I) (fun K=>ck (a+(1:Int)) fun L=>d f a L K)) ((0:Int),b))) (0:Int))) (fun _=>ifb (ilt (Ù f) (Ù c)) (Ê (fun(M:Int) N=>Ŕ a (Ù b) b M (fun O=>N O) (fun _=>ck (a+(1:Int)) fun P=>d c e P b) (fun _=>Ê (fun(r:Val ŏ) Q=>œ a g (Ù g) h i j k l m n o p r.1 r.2 (fun R S=>Q (R,S)) (fun T=>ck (a+(1:Int)) fun U=>d c e U T) (fun V=>ck (a+(1:Int)) fun W=>d f a W V)) ((0:Int),b))) (0:Int)) (ck (a+(1:Int)) fun X=>d c e X b))) (0:Int)) (Ê (fun(Y:Int) Z=>Ŕ a (Ù b) b Y (fun cw=>Z cw) (fun _=>ck (a+(1:Int)) fun cz=>d c e cz b) (fun _=>Ê (fun(s:Val ŏ) dc=>œ a g (Ù g) h i j k l m n o p s.1 s.2 (fun df dg=>dc (df,dg)) (fun dh=>ck (a+(1:Int)) fun di=>d c e di dh) (fun dj=>ck (a+(1:Int)) fun dk=>d f a dk dj)) ((0:Int),b))) (0:Int)))) (u (e,b))
def xj (a:Val Â) (b:Val aa) (k:Val aw→Option ρ):Option ρ :=
  Ã (ψ a) fun g=>ifb (ine g 0) (k ([],g)) (ifb (igt (Ù b) 8) (k ([],(2:Int))) (Ê (fun(h:Int) i=>κ b (Ù b) a.1.2.2.2.2.1 h (fun j=>i j) (fun l=>k ([],l)) (fun _=>Ê (fun(m:Int) n=>iG b m (fun o=>n o) (fun p=>k ([],p)) (fun _=>Ã (rA a) fun d=>è (ile 0 (Ù b)) (ck ((shlI .i64 (1:Int) (Ù b))-(1:Int)) fun c=>Ê (fun(q:Int) r=>iF d (Ù d) a.1.1.1 a.1.1.2 a.1.2.1 a.1.2.2.1 a.1.2.2.2.1 a.1.2.2.2.2.1 a.1.2.2.2.2.2 a.2 b c q (fun s=>r s) (fun t=>ifb t.2 (k ([],(5:Int))) (Ê (fun(e:(Val (.pair aa aQ))) u=>Ŵ d c b a.1.1.1 a.1.1.2 a.1.2.1 a.1.2.2.1 a.1.2.2.2.1 a.1.2.2.2.2.1 a.1.2.2.2.2.2 a.2 e.1 e.2.1 e.2.2.1 e.2.2.2 (fun v w x y=>u (v,w,x,y)) (fun z=>Ã (ik b z.1) fun A=>k (A,(0:Int)))) (b,c,(0:Int),[]))) (fun _=>Ê (fun(f:(Val (.pair aa aQ))) B=>Ŵ d c b a.1.1.1 a.1.1.2 a.1.2.1 a.1.2.2.1 a.1.2.2.2.1 a.1.2.2.2.2.1 a.1.2.2.2.2.2 a.2 f.1 f.2.1 f.2.2.1 f.2.2.2 (fun C D E F=>B (C,D,E,F)) (fun G=>Ã (ik b G.1) fun H=>k (H,(0:Int)))) (b,c,(0:Int),[]))) (0:Int)))) (1:Int))) (0:Int)))
def rB (a:Val Â) (b:Val aa):Option ((Val aw)):=xj a b some
def Qi (a:Val Â) (k:(Val (.pair aj tI))→Option ρ):Option ρ :=
  Ã (ψ a) fun b=>ifb (ine b 0) (k ([],b)) (Ã (rA a) fun c=>k (c,(0:Int)))
def vr (a:Val Â):Option ((Val (.pair aj tI))):=Qi a some
def K7 (a:Val É) (d:Val Ä) (k:Val Ä→Option ρ):Option ρ :=
  Ã (Ÿ a) fun b=>ifb (ine b 0) (k ((0:Int),b)) (Ã (pQ a) fun e=>Ã (ï e d) fun c=>ifb (ilt c 0) (k ((0:Int),(5:Int))) (ck (c+(1:Int)) fun f=>k (f,(0:Int))))
def pR (a:Val É) (b:Val Ä):Option (Val Ä):=K7 a b some
def vk (f:Int) (a:Int) (c:Val ae) (g:Int→Val ae→Option ρ) (h:Val ae→Option ρ):Option ρ :=
  ifb (ilt a f) (è ((ile 0 a)&&(ilt a (ò c))) (Ľ c (Int.toNat a) fun d=>è (î (List.length d.2.2.1)) (è (î (List.length d.2.2.2.1)) (è ((ile 0 a)&&(ilt a (ò c))) (Ľ c (Int.toNat a) fun b=>è ((ile 0 a)&&(ilt a (ò (List.set c (Int.toNat a) (b.1,b.2.1,d.2.2.1,b.2.2.2))))) (Ľ (List.set c (Int.toNat a) (b.1,b.2.1,d.2.2.1,b.2.2.2)) (Int.toNat a) fun e=>ck (a+(1:Int)) fun i=>g i (List.set (List.set c (Int.toNat a) (b.1,b.2.1,d.2.2.1,b.2.2.2)) (Int.toNat a) (e.1,e.2.1,e.2.2.1,d.2.2.2.1,e.2.2.2.2)))))))) (h c)
def Rh (a:Val É) (b:Val Ä) (k:(Val (.pair É tI))→Option ρ):Option ρ :=
  Ã (Ÿ a) fun c=>ifb (ine c 0) (k ((((0:Int),(0:Int)),[],[],[],[],[]),c)) (è (î (List.length a.2.1)) (è (î (List.length a.2.2.1)) (è (î (List.length a.2.2.2.1)) (è (î (List.length a.2.2.2.2.2)) (è (î (List.length a.2.2.2.2.1)) (Ê (fun(d:Val aT) g=>vk (Ù a.2.2.2.2.1) d.1 d.2 (fun h i=>g (h,i)) (fun e=>è (î ((List.length a.2.2.2.2.2)+(List.length ([b])))) (Ã (Ÿ (a.1,a.2.1,a.2.2.1,a.2.2.2.1,e,(a.2.2.2.2.2++([b])))) fun f=>ifb (ine f 0) (k ((((0:Int),(0:Int)),[],[],[],[],[]),f)) (k ((a.1,a.2.1,a.2.2.1,a.2.2.2.1,e,(a.2.2.2.2.2++([b]))),(0:Int)))))) ((0:Int),a.2.2.2.2.1)))))))
def IJ (a:Val É) (b:Val Ä):Option ((Val (.pair É tI))):=Rh a b some
def qS (b:Val aa) (c:Int) (d:Int) (e:Val ak) (a:Int) (f:Int→Option ρ) (g:Int→Option ρ) (h:Unit→Option ρ):Option ρ :=
  ifb (ilt a c) (ĝ b a fun i=>Ã (yX (d,e) i) fun j=>ifb (!j) (g (1:Int)) (ck (a+(1:Int)) fun k=>f k)) (h ())
def Kl (a:Val Ë) (b:Val aa) (k:Int→Option ρ):Option ρ :=
  Ã (nz a) fun c=>ifb (ine c.1 0) (k c.1) (Ê (fun(d:Int) e=>qS b (Ù b) a.1 a.2 d (fun f=>e f) (fun g=>k g) (fun _=>Ã (ke a ([])) fun h=>ifb (!h.2) (k (9:Int)) (k (0:Int)))) (0:Int))
def ye (a:Val Ë) (b:Val aa):Option (Int):=Kl a b some
def ow (c:Int) (a:Int) (b:Val aa) (d:Int→Val aa→Option ρ) (e:Val aa→Option ρ):Option ρ :=
  ifb (ilt a c) (è ((ile 0 a)&&(ilt a (ò b))) (Ľ b (Int.toNat a) fun g=>ck (a+(1:Int)) fun f=>d f (List.set b (Int.toNat a) (1152921504606846976:Int)))) (e b)
def uM (c:Val ak) (d:Int) (b:Int) (a:Int) (e:Int→Int→Option ρ) (f:Int→Option ρ):Option ρ :=
  ifb (ilt a d) (ĝ c a fun g=>ck (b+(Y3 g.2.2 (0:Int))) fun h=>ck (a+(1:Int)) fun i=>e h i) (f b)
def uL (f:Int) (d:Val aa) (a:Int) (b:Val aq) (c:Val aa) (e:Int→Val aq→Val aa→Option ρ) (g:Val aM→Option ρ):Option ρ :=
  ifb (ilt a f) (è ((ile 0 a)&&(ilt a (ò d))) (Ľ d (Int.toNat a) fun h=>ifb (ine h 1152921504606846976) (è (î ((List.length c)+(List.length ([a])))) (è ((ile 0 a)&&(ilt a (ò b))) (Ľ b (Int.toNat a) fun k=>ck (a+(1:Int)) fun i=>e i (List.set b (Int.toNat a) true) (c++([a]))))) (ck (a+(1:Int)) fun j=>e j b c))) (g (b,c))
def Dg (m:Val ao) (j:Int) (d:Int) (n:Val ak) (o:Int) (f:Int) (b:Val aa) (c:Val aq) (e:Val aa) (g:Int→Val aa→Val aq→Val aa→Option ρ) (l:(Val (.pair .bool (.pair aa aM)))→Option ρ) (p:(Val (.pair aa aM))→Option ρ):Option ρ :=
  ifb (ilt f o) (ĝ n f fun a=>ifb (ine a.1 d) (ck (f+(1:Int)) fun q=>g q b c e) (Mn (k:=tI) (v:=.bool) f m (fun r=>ifb r (ck (f+(1:Int)) fun s=>g s b c e) (è ((ile 0 d)&&(ilt d (ò b))) (Ľ b (Int.toNat d) fun t=>ck (t+a.2.2) fun u=>è ((ile 0 a.2.1)&&(ilt a.2.1 (ò b))) (Ľ b (Int.toNat a.2.1) fun w=>ifb (ige u w) (ck (f+(1:Int)) fun x=>g x b c e) (è ((ile 0 d)&&(ilt d (ò b))) (Ľ b (Int.toNat d) fun y=>ck (y+a.2.2) fun h=>è ((ile 0 a.2.1)&&(ilt a.2.1 (ò b))) (Ľ b (Int.toNat a.2.1) fun M=>è ((ile 0 a.2.1)&&(ilt a.2.1 (ò (List.set b (Int.toNat a.2.1) h)))) (Ľ (List.set b (Int.toNat a.2.1) h) (Int.toNat a.2.1) fun z=>ifb (ilt z j) (l (false,(List.set b (Int.toNat a.2.1) h),c,e)) (è ((ile 0 a.2.1)&&(ilt a.2.1 (ò c))) (Ľ c (Int.toNat a.2.1) fun A=>ifb (!A) (è (î ((List.length e)+(List.length ([a.2.1])))) (è ((ile 0 a.2.1)&&(ilt a.2.1 (ò c))) (Ľ c (Int.toNat a.2.1) fun N=>ck (f+(1:Int)) fun B=>g B (List.set b (Int.toNat a.2.1) h) (List.set c (Int.toNat a.2.1) true) (e++([a.2.1]))))) (ck (f+(1:Int)) fun C=>g C (List.set b (Int.toNat a.2.1) h) c e))))))))))) (è ((ile 0 d)&&(ilt d (ò b))) (Ľ b (Int.toNat d) fun D=>ck (D+a.2.2) fun E=>è ((ile 0 a.2.1)&&(ilt a.2.1 (ò b))) (Ľ b (Int.toNat a.2.1) fun F=>ifb (ige E F) (ck (f+(1:Int)) fun G=>g G b c e) (è ((ile 0 d)&&(ilt d (ò b))) (Ľ b (Int.toNat d) fun H=>ck (H+a.2.2) fun i=>è ((ile 0 a.2.1)&&(ilt a.2.1 (ò b))) (Ľ b (Int.toNat a.2.1) fun O=>è ((ile 0 a.2.1)&&(ilt a.2.1 (ò (List.set b (Int.toNat a.2.1) i)))) (Ľ (List.set b (Int.toNat a.2.1) i) (Int.toNat a.2.1) fun I=>ifb (ilt I j) (l (false,(List.set b (Int.toNat a.2.1) i),c,e)) (è ((ile 0 a.2.1)&&(ilt a.2.1 (ò c))) (Ľ c (Int.toNat a.2.1) fun J=>ifb (!J) (è (î ((List.length e)+(List.length ([a.2.1])))) (è ((ile 0 a.2.1)&&(ilt a.2.1 (ò c))) (Ľ c (Int.toNat a.2.1) fun P=>ck (f+(1:Int)) fun K=>g K (List.set b (Int.toNat a.2.1) i) (List.set c (Int.toNat a.2.1) true) (e++([a.2.1]))))) (ck (f+(1:Int)) fun L=>g L (List.set b (Int.toNat a.2.1) i) c e)))))))))))) (p (b,c,e))
def uK (l:Val ao) (m:Int) (n:Int) (k:Val ak) (h:Val aa) (d:Val aq) (b:Val aa) (c:Val aa) (o:Val aa→Val aq→Val aa→Val aa→Option ρ) (i:(Val (.pair .bool aO))→Option ρ):Option ρ :=
  ifb (ieq (Ù c) 0) (i (true,h,d,b,c)) (è (ilt 0 (ò c)) (Ľ c 0 fun a=>è (ile 1 (ò c)) (è (decide (1+(List.length c-1)=List.length c)) (è ((ile 0 a)&&(ilt a (ò d))) (Ľ d (Int.toNat a) fun x=>è ((ile 0 a)&&(ilt a (ò b))) (Ľ b (Int.toNat a) fun p=>ck (p+(1:Int)) fun e=>è ((ile 0 a)&&(ilt a (ò b))) (Ľ b (Int.toNat a) fun y=>è ((ile 0 a)&&(ilt a (ò (List.set b (Int.toNat a) e)))) (Ľ (List.set b (Int.toNat a) e) (Int.toNat a) fun q=>ck (n+(1:Int)) fun r=>ifb (igt q r) (i (false,h,(List.set d (Int.toNat a) false),(List.set b (Int.toNat a) e),(List.drop 1 c))) (Ê (fun(f:(Val (.pair tI (.pair aa aM)))) s=>Dg l m a k (Ù k) f.1 f.2.1 f.2.2.1 f.2.2.2 (fun t u v w=>s (t,u,v,w)) (fun g=>i (g.1,g.2.1,g.2.2.1,(List.set b (Int.toNat a) e),g.2.2.2)) (fun j=>o j.1 j.2.1 (List.set b (Int.toNat a) e) j.2.2)) ((0:Int),h,(List.set d (Int.toNat a) false),(List.drop 1 c)))))))))))
def Fx (a:Val Ë) (i:Val ao) (b:Int) (k:Val aa→Option ρ):Option ρ :=
  è ((ile 0 a.1)&&(î (Int.toNat a.1))) (Ê (fun(f:Val ŏ) j=>ow (Ù (List.replicate (Int.toNat a.1) (0:Int))) f.1 f.2 (fun l m=>j (l,m)) (fun c=>è ((ile 0 b)&&(ilt b (ò c))) (Ľ c (Int.toNat b) fun B=>è ((ile 0 a.1)&&(î (Int.toNat a.1))) (è ((ile 0 a.1)&&(î (Int.toNat a.1))) (Ê (fun(g:Val Ä) n=>uM a.2 (Ù a.2) g.1 g.2 (fun o p=>n (o,p)) (fun q=>Ê (fun(e:(Val (.pair tI aM))) r=>uL a.1 (List.set c (Int.toNat b) (0:Int)) e.1 e.2.1 e.2.2 (fun s t u=>r (s,t,u)) (fun h=>Ê (fun(d:Val aO) v=>uK i q a.1 a.2 d.1 d.2.1 d.2.2.1 d.2.2.2 (fun w x y z=>v (w,x,y,z)) (fun A=>k A.2.1)) ((List.set c (Int.toNat b) (0:Int)),h.1,(List.replicate (Int.toNat a.1) (0:Int)),h.2))) ((0:Int),(List.replicate (Int.toNat a.1) false),[]))) ((0:Int),(0:Int))))))) ((0:Int),(List.replicate (Int.toNat a.1) (0:Int))))
def oV (a:Val Ë) (b:Val ao) (c:Int):Option ((Val aa)):=Fx a b c some
def qU (c:Int) (d:Int) (e:Val ak) (a:Int) (b:Val aa) (f:Int→Val aa→Option ρ) (g:Val aa→Option ρ):Option ρ :=
  ifb (ilt a c) (Ã (oV (d,e) ([]) a) fun h=>ĝ h (0:Int) fun i=>è ((ile 0 a)&&(ilt a (ò b))) (Ľ b (Int.toNat a) fun k=>ck (a+(1:Int)) fun j=>f j (List.set b (Int.toNat a) i))) (g b)
def qT (f:Val aa) (g:Int) (c:Val aa) (a:Int) (b:Val ab) (h:Int→Val ab→Option ρ) (i:Val ab→Option ρ):Option ρ :=
  ifb (ilt a g) (è ((ile 0 a)&&(ilt a (ò c))) (Ľ c (Int.toNat a) fun j=>ck (0-j) fun d=>ĝ f a fun e=>è (î ((List.length b)+(List.length ([(d,e)])))) (ck (a+(1:Int)) fun k=>h k (b++([(d,e)]))))) (i b)
def Ko (a:Val Ë) (k:Val bf→Option ρ):Option ρ :=
  Ã (ye a ([])) fun b=>ifb (ine b 0) (k ([],b)) (Ã (oV a ([]) (0:Int)) fun c=>è ((ile 0 a.1)&&(î (Int.toNat a.1))) (Ê (fun(d:Val ŏ) f=>qU (Ù (List.replicate (Int.toNat a.1) (0:Int))) a.1 a.2 d.1 d.2 (fun g h=>f (g,h)) (fun i=>Ê (fun(e:Val aY) j=>qT c (Ù c) i e.1 e.2 (fun l m=>j (l,m)) (fun n=>k (n,(0:Int)))) ((0:Int),[]))) ((0:Int),(List.replicate (Int.toNat a.1) (0:Int)))))
def tP (a:Val Ë):Option ((Val bf)):=Ko a some
def E7 (a:Val É) (b:Val Ä) (k:Val Cb→Option ρ):Option ρ :=
  Ã (pR a b) fun f=>ifb (ine f.2 0) (Ã (IJ a b) fun c=>ifb (ine c.2 0) (k (((0:Int),(0:Int)),c.2)) (Ã (pR c.1 b) fun g=>Ã (gJ c.1) fun h=>Ã (tP h.1) fun d=>ifb (ine d.2 0) (k (((0:Int),(0:Int)),d.2)) (ĝ d.1 g.1 fun i=>k (i,(0:Int))))) (Ã (pR a b) fun j=>Ã (gJ a) fun l=>Ã (tP l.1) fun e=>ifb (ine e.2 0) (k (((0:Int),(0:Int)),e.2)) (ĝ e.1 j.1 fun m=>k (m,(0:Int))))
def yV (a:Val É) (b:Val Ä):Option (Val Cb):=E7 a b some
def ov (r:Int) (e:Int) (s:Val aj) (t:Int) (f:Int) (g:Int) (h:Val ag) (i:Val ab) (j:Val ah) (l:Val ae) (m:Val ab) (n:Val ai) (c:Int) (a:Val aR) (o:Int→Val aR→Option ρ) (u:(Val (.pair tI aR))→Option ρ) (w:Val aR→Option ρ):Option ρ :=
  ifb (ilt c t) (ĝ s c fun p=>Ã (sh (((f,g),h,i,j,l,m),n) p r e) fun d=>Ã (ŧ (((f,g),h,i,j,l,m),n) p) fun x=>Ã (yV x (d,e)) fun b=>ifb (ine b.2 0) (u (b.2,a)) (Mn (k:=tI) (v:=Ä) d a (fun q=>ck (c+(1:Int)) fun y=>o y (Oz (k:=tI) (v:=Ä) d ((Y3 b.1.1 q.1),(Xr b.1.2 q.2)) a)) (ck (c+(1:Int)) fun z=>o z (Oz (k:=tI) (v:=Ä) d b.1 a)))) (w a)
def ou (f:Val ag) (g:Int) (h:Val aR) (a:Int) (b:Val ak) (d:Int→Val ak→Option ρ) (i:Val ak→Option ρ):Option ρ :=
  ifb (ilt a g) (ĝ f a fun c=>Mn (k:=tI) (v:=Ä) c.1 h (fun e=>è (î ((List.length b)+(List.length ([(c.1,e)])))) (ck (a+(1:Int)) fun j=>d j (b++([(c.1,e)])))) (ck (a+(1:Int)) fun l=>d l b)) (i b)
def Fl (a:Val Â) (c:Int) (d:Int) (k:(Val (.pair ak tI))→Option ρ):Option ρ :=
  Ã (ψ a) fun e=>ifb (ine e 0) (k ([],e)) (Ã (tO a c d) fun f=>ifb (ine f 0) (k ([],f)) (Ã (Eh a) fun b=>ifb (ieq (Ù b) 0) (k ([],(5:Int))) (Ê (fun(g:(Val (.pair tI aR))) i=>ov c d b (Ù b) a.1.1.1 a.1.1.2 a.1.2.1 a.1.2.2.1 a.1.2.2.2.1 a.1.2.2.2.2.1 a.1.2.2.2.2.2 a.2 g.1 g.2 (fun j l=>i (j,l)) (fun m=>k ([],m.1)) (fun n=>Ê (fun(h:Val Ë) o=>ou a.1.2.1 (Ù a.1.2.1) n h.1 h.2 (fun p q=>o (p,q)) (fun r=>k (r,(0:Int)))) ((0:Int),[]))) ((0:Int),[]))))
def yW (a:Val Â) (b:Int) (c:Int):Option ((Val (.pair ak tI))):=Fl a b c some
def xa (a:Val aa) (y:Int) (b:Val aa→Option ρ):Option ρ :=
  è (î ((List.length a)+(List.length ([y])))) (b (a++([y])))
def qH (h:Val af) (i:Int) (j:Val ai) (c:Int) (k:Int→Option ρ) (d:Bool→Option ρ) (l:Unit→Option ρ):Option ρ :=
  ifb (ilt c i) (ĝ h c fun e=>ĝ j c fun f=>ifb (ine (Ù e) (Ù f.2)) (d false) (Ã (yO e) fun m=>ya (fun(n:Val aa) (o:Int) p=>xa n o (fun q=>p q)) m ([]) (fun g=>è (î (List.length g)) (Ã (Ee (ww g)) fun a=>Ã (Ee f.2) fun b=>ifb (!((BX a.1 b.1)&&((BX a.2.1 b.2.1)&&((BX a.2.2.1 b.2.2.1)&&((BX a.2.2.2.1 b.2.2.2.1)&&((BX a.2.2.2.2 b.2.2.2.2)&&true)))))) (d false) (ck (c+(1:Int)) fun r=>k r))))) (l ())
def JP (b:Val Â) (a:Val af) (k:Bool→Option ρ):Option ρ :=
  ifb (ine (Ù a) (Ù b.2)) (k false) (Ê (fun(c:Int) d=>qH a (Ù a) b.2 c (fun e=>d e) (fun f=>k f) (fun _=>k true)) (0:Int))
def Ef (a:Val Â) (b:Val af):Option (Bool):=JP a b some
def J2 (a:Val Â) (c:Val af) (k:Int→Option ρ):Option ρ :=
  Ã (ψ a) fun b=>ifb (ine b 0) (k b) (Ã (Ef a c) fun d=>ifb (!d) (k (1:Int)) (k (0:Int)))
def pO (a:Val Â) (b:Val af):Option (Int):=J2 a b some
def WG (a:Val Â) (b:Val af) (c:Int) (d:Int) (k:Val Ä→Option ρ):Option ρ :=
  Ã (pO a b) fun e=>ifb (ine e 0) (k ((0:Int),e)) (Ã (tO a c d) fun f=>ifb (ine f 0) (k ((0:Int),f)) (Ã (sh a b c d) fun g=>k (g,(0:Int))))
def RI (a:Val Â) (b:Val af) (c:Int) (d:Int):Option (Val Ä):=WG a b c d some
def yG (c:Int) (a:Int) (b:Val aa) (d:Int→Val aa→Option ρ) (e:Val aa→Option ρ):Option ρ :=
  ifb (ilt a c) (è ((ile 0 a)&&(ilt a (ò b))) (Ľ b (Int.toNat a) fun g=>ck (a+(1:Int)) fun f=>d f (List.set b (Int.toNat a) (1152921504606846976:Int)))) (e b)
def Qw (c:Int) (a:Int) (b:Val aa) (d:Int→Val aa→Option ρ) (e:Val aa→Option ρ):Option ρ :=
  ifb (ilt a c) (è ((ile 0 a)&&(ilt a (ò b))) (Ľ b (Int.toNat a) fun g=>ck (a+(1:Int)) fun f=>d f (List.set b (Int.toNat a) (1152921504606846976:Int)))) (e b)
def Df (d:Val aa) (f:Val ak) (g:Int) (c:Int) (b:Val aa) (e:Int→Val aa→Option ρ) (h:Val aa→Option ρ):Option ρ :=
  ifb (ilt c g) (ĝ f c fun a=>ĝ d a.2.1 fun i=>ifb (ine i 1152921504606846976) (è ((ile 0 a.1)&&(ilt a.1 (ò b))) (Ľ b (Int.toNat a.1) fun j=>ĝ d a.2.1 fun k=>ck (a.2.2+k) fun l=>è ((ile 0 a.1)&&(ilt a.1 (ò b))) (Ľ b (Int.toNat a.1) fun o=>ck (c+(1:Int)) fun m=>e m (List.set b (Int.toNat a.1) (Y3 j l))))) (ck (c+(1:Int)) fun n=>e n b)) (h b)
def Iw (i:Int) (b:Int) (d:Val ak) (e:Int) (a:Val af) (j:Int→Val af→Option ρ) (k:Val af→Option ρ):Option ρ :=
  ifb (ilt e i) (ck ((Ù a)-(1:Int)) fun c=>è ((ile 0 c)&&(ilt c (ò a))) (Ľ a (Int.toNat c) fun l=>è ((ile 0 b)&&(î (Int.toNat b))) (Ê (fun(f:Val ŏ) m=>Qw (Ù (List.replicate (Int.toNat b) (0:Int))) f.1 f.2 (fun n o=>m (n,o)) (fun p=>Ê (fun(g:Val ŏ) q=>Df l d (Ù d) g.1 g.2 (fun r s=>q (r,s)) (fun h=>è (î ((List.length a)+(List.length ([h])))) (ck (e+(1:Int)) fun t=>j t (a++([h]))))) ((0:Int),p))) ((0:Int),(List.replicate (Int.toNat b) (0:Int)))))) (k a)
def Ki (a:Val Ë) (b:Int) (f:Int) (k:Val af→Option ρ):Option ρ :=
  è ((ile 0 a.1)&&(î (Int.toNat a.1))) (Ê (fun(d:Val ŏ) g=>yG (Ù (List.replicate (Int.toNat a.1) (0:Int))) d.1 d.2 (fun h i=>g (h,i)) (fun c=>è ((ile 0 b)&&(ilt b (ò c))) (Ľ c (Int.toNat b) fun o=>Ê (fun(e:Val bc) j=>Iw f a.1 a.2 e.1 e.2 (fun l m=>j (l,m)) (fun n=>k n)) ((0:Int),[(List.set c (Int.toNat b) (0:Int))])))) ((0:Int),(List.replicate (Int.toNat a.1) (0:Int))))
def Ei (a:Val Ë) (b:Int) (c:Int):Option ((Val af)):=Ki a b c some
def m8 (d:Int) (c:Int) (e:Val ak) (a:Int) (b:Val aj) (f:Int→Val aj→Option ρ) (g:Val aj→Option ρ):Option ρ :=
  ifb (ilt a d) (Ã (Ei (c,e) a c) fun h=>è ((ile 0 a)&&(ilt a (ò b))) (Ľ b (Int.toNat a) fun j=>ck (a+(1:Int)) fun i=>f i (List.set b (Int.toNat a) h))) (g b)
def GQ (g:Int) (h:Val af) (j:Val ak) (k:Int) (e:Int) (b:Int) (a:Int) (c:Val aa) (f:Int→Int→Int→Val aa→Option ρ) (i:Val aQ→Option ρ):Option ρ :=
  ifb (ilt a k) (ĝ j a fun d=>ifb (ieq d.1 e) (ck (g-(1:Int)) fun l=>ĝ h l fun m=>ĝ m d.2.1 fun n=>ifb (ine n 1152921504606846976) (ck (b+d.2.2) fun o=>ck (g-(1:Int)) fun p=>ĝ h p fun q=>ĝ q d.2.1 fun r=>ck (o+r) fun s=>ifb (ilt s 0) (è (î ((List.length c)+(List.length ([a])))) (ck (b+d.2.2) fun t=>i (d.2.1,t,(c++([a]))))) (ck (a+(1:Int)) fun u=>f e b u c)) (ck (a+(1:Int)) fun v=>f e b v c)) (ck (a+(1:Int)) fun w=>f e b w c)) (i (e,b,c))
def xI (f:Val af) (d:Val ak) (g:Int) (b:Int) (h:Int) (e:Val aa) (i:Int→Int→Int→Val aa→Option ρ) (j:Val aa→Option ρ):Option ρ :=
  ifb (igt b 0) (Ê (fun(a:(Val (.pair tI aQ))) k=>GQ b f d (Ù d) a.1 a.2.1 a.2.2.1 a.2.2.2 (fun l m n o=>k (l,m,n,o)) (fun c=>ck (b-(1:Int)) fun p=>i c.1 p c.2.1 c.2.2)) (g,h,(0:Int),e)) (j e)
def mZ (e:Int) (h:Val ak) (i:Int) (j:Int) (k:Val ak) (b:Val aj) (c:Int) (f:Int→Option ρ) (l:Unit→Option ρ) (m:Val ŏ→Option ρ) (n:Unit→Option ρ):Option ρ :=
  ifb (ilt c i) (ĝ h c fun a=>è ((ile 0 a.1)&&(ilt a.1 (ò b))) (Ľ b (Int.toNat a.1) fun o=>ck (e-(1:Int)) fun p=>ĝ o p fun q=>ĝ q a.2.1 fun g=>ifb (ieq g 1152921504606846976) (ck (c+(1:Int)) fun r=>f r) (ck (a.2.2+g) fun s=>ifb (ige s 0) (ck (c+(1:Int)) fun t=>f t) (ifb (igt e j) (l ()) (è ((ile 0 a.1)&&(ilt a.1 (ò b))) (Ľ b (Int.toNat a.1) fun u=>Ê (fun(d:(Val (.pair tI aQ))) v=>xI u k d.1 d.2.1 d.2.2.1 d.2.2.2 (fun w x y z=>v (w,x,y,z)) (fun A=>m ((0:Int),A))) (a.1,e,(0:Int),[]))))))) (n ())
def qV (d:Int) (a:Val ak) (e:Val aj) (b:Int) (f:Int→Option ρ) (g:Unit→Option ρ) (h:Val ŏ→Option ρ):Option ρ :=
  Ê (fun(i:Int) j=>mZ b a (Ù a) d a e i (fun k=>j k) (fun _=>g ()) (fun c=>h (c.1,c.2)) (fun _=>ck (b+(1:Int)) fun l=>f l)) (0:Int)
def Dm (a:Val Ë) (k:Val aw→Option ρ):Option ρ :=
  Ã (nz a) fun b=>ifb (ine b.1 0) (k ([],b.1)) (Ã (ke a ([])) fun e=>ifb e.2 (k ([],(5:Int))) (è ((ile 0 a.1)&&(î (Int.toNat a.1))) (Ê (fun(c:Val aB) f=>m8 (Ù (List.replicate (Int.toNat a.1) ([]:Val af))) a.1 a.2 c.1 c.2 (fun g h=>f (g,h)) (fun i=>Ê (fun(j:Int) l=>qV a.1 a.2 i j (fun m=>l m) (fun _=>k ([],(5:Int))) (fun d=>k (d.2,d.1))) (1:Int))) ((0:Int),(List.replicate (Int.toNat a.1) ([]:Val af))))))
def ny (a:Val Ë):Option ((Val aw)):=Dm a some
def qO (d:Val aj) (e:Int) (f:Int) (g:Int) (h:Val ag) (i:Val ab) (j:Val ah) (k:Val ae) (l:Val ab) (m:Val ai) (b:Int) (a:Val af) (n:Int→Val af→Option ρ) (o:Val bc→Option ρ) (p:Val af→Option ρ):Option ρ :=
  ifb (ilt b e) (ĝ d b fun q=>Ã (ŧ (((f,g),h,i,j,k,l),m) q) fun r=>Ã (gJ r) fun s=>Ã (ny s.1) fun c=>ifb (ine c.2 0) (o ((5:Int),a)) (è (î ((List.length a)+(List.length ([c.1])))) (ck (b+(1:Int)) fun t=>n t (a++([c.1]))))) (p a)
def J5 (a:Val Â) (k:Val aZ→Option ρ):Option ρ :=
  Ã (ψ a) fun b=>ifb (ine b 0) (k ([],b)) (Ã (rA a) fun c=>Ê (fun(d:Val bc) e=>qO c (Ù c) a.1.1.1 a.1.1.2 a.1.2.1 a.1.2.2.1 a.1.2.2.2.1 a.1.2.2.2.2.1 a.1.2.2.2.2.2 a.2 d.1 d.2 (fun f g=>e (f,g)) (fun h=>k ([],h.1)) (fun i=>k (i,(0:Int)))) ((0:Int),[]))
def yc (a:Val Â):Option ((Val aZ)):=J5 a some
def mu (d:Val aa) (e:Int) (f:Val ak) (a:Int) (g:Int→Option ρ) (b:Int→Option ρ) (h:Unit→Option ρ):Option ρ :=
  ifb (ilt a e) (ĝ d a fun c=>ifb (ilt c 0) (b a) (ifb (ige c (Ù f)) (b a) (ck (a+(1:Int)) fun i=>g i))) (h ())
def Bx (b:Val Ë) (a:Val aa) (k:Int→Option ρ):Option ρ :=
  ifb (igt (Ù a) 80) (k (2:Int)) (Ê (fun(c:Int) d=>mu a (Ù a) b.2 c (fun e=>d e) (fun f=>ifb (ige f 0) (k (1:Int)) (k (0:Int))) (fun _=>k (0:Int))) (0:Int))
def vt (a:Val Ë) (b:Val aa):Option (Int):=Bx a b some
def uI (e:Val aa) (f:Int) (g:Val ak) (c:Int) (d:Int) (a:Int) (h:Int→Int→Int→Option ρ) (i:(Val (.pair tI (.pair tI .bool)))→Option ρ) (j:Val Ä→Option ρ):Option ρ :=
  ifb (ilt a f) (ĝ e a fun k=>ĝ g k fun b=>ifb (ine b.1 c) (i ((0:Int),(0:Int),false)) (ck (d+b.2.2) fun l=>ck (a+(1:Int)) fun m=>h b.2.1 l m)) (j (c,d))
def Qu (e:Val Ë) (f:Int) (c:Val aa) (k:(Val (.pair tI (.pair tI .bool)))→Option ρ):Option ρ :=
  Ê (fun(a:Val Œ) g=>uI c (Ù c) e.2 a.1 a.2.1 a.2.2 (fun h i j=>g (h,i,j)) (fun b=>k (b.1,b.2.1,b.2.2)) (fun d=>k (d.1,d.2,true))) (f,(0:Int),(0:Int))
def IG (a:Val Ë) (b:Int) (c:Val aa):Option ((Val (.pair tI (.pair tI .bool)))):=Qu a b c some
def rX (a:Val Ë) (b:Val aa) (k:Int→Option ρ):Option ρ :=
  Ã (nz a) fun d=>ifb (ine d.1 0) (k d.1) (Ã (vt a b) fun e=>ifb (ine e 0) (k e) (ifb (ieq (Ù b) 0) (k (8:Int)) (ĝ b (0:Int) fun g=>ĝ a.2 g fun f=>Ã (IG a f.1 b) fun c=>ifb (!c.2.2) (k (8:Int)) (ifb (ine c.1 f.1) (k (8:Int)) (ifb (ige c.2.1 0) (k (8:Int)) (k (0:Int)))))))
def mA (a:Val Ë) (b:Val aa):Option (Int):=rX a b some
def iZ (b:Val af) (c:Val aj) (d:Int) (e:Int) (f:Int) (g:Val ag) (h:Val ab) (i:Val ah) (j:Val ae) (k:Val ab) (l:Val ai) (a:Int) (m:Int→Option ρ) (n:Int→Option ρ) (o:Unit→Option ρ):Option ρ :=
  ifb (ilt a d) (ĝ c a fun p=>Ã (ŧ (((e,f),g,h,i,j,k),l) p) fun q=>Ã (gJ q) fun r=>ĝ b a fun s=>Ã (mA r.1 s) fun t=>ifb (ine t 0) (n (8:Int)) (ck (a+(1:Int)) fun u=>m u)) (o ())
def rR (a:Val Â) (c:Val af) (k:Int→Option ρ):Option ρ :=
  Ã (ψ a) fun d=>ifb (ine d 0) (k d) (Ã (rA a) fun b=>ifb (ine (Ù c) (Ù b)) (k (8:Int)) (Ê (fun(e:Int) f=>iZ c b (Ù b) a.1.1.1 a.1.1.2 a.1.2.1 a.1.2.2.1 a.1.2.2.2.1 a.1.2.2.2.2.1 a.1.2.2.2.2.2 a.2 e (fun g=>f g) (fun h=>k h) (fun _=>k (0:Int))) (0:Int)))
def ū (a:Val Â) (b:Val af):Option (Int):=rR a b some
def GI (a:Val ae) (k:Val Â→Option ρ):Option ρ :=
  è (î ((List.length ([((7:Int),(10:Int),[(1:Int)],[(2:Int)],(-20:Int),(1:Int),(100:Int),(200:Int))]))+(List.length a))) (k ((((0:Int),(2:Int)),[((1:Int),(0:Int),(1000:Int),((-5:Int),(5:Int)),((1:Int),(10:Int)),(1:Int)),((2:Int),(0:Int),(1000:Int),((-50:Int),(50:Int)),((1:Int),(4:Int)),(0:Int)),((3:Int),(0:Int),(1100:Int),((-1:Int),(1:Int)),((0:Int),(1:Int)),(0:Int))],[((1:Int),(10:Int))],[((1:Int),((20:Int),(29:Int)),(3:Int))],(([((7:Int),(10:Int),[(1:Int)],[(2:Int)],(-20:Int),(1:Int),(100:Int),(200:Int))])++a),[]),[((12:Int),[(2:Int),(3:Int)])]))
def ũ (a:Val ae):Option (Val Â):=GI a some
def Bc (k:Bool→Option ρ):Option ρ :=
  Ã (ũ ([])) fun m=>Ã (vr m) fun b=>Ã (ũ ([])) fun n=>Ã (LJ n) fun f=>Ã (ũ ([((8:Int),(15:Int),[(2:Int)],[(1:Int)],(100:Int),(1:Int),(0:Int),(0:Int))])) fun o=>Ã (yd o) fun g=>Ã (ũ ([((8:Int),(15:Int),[(2:Int)],[(1:Int)],(100:Int),(1:Int),(0:Int),(0:Int))])) fun p=>Ã (yW p (2:Int) (15:Int)) fun c=>Ã (ũ ([((8:Int),(15:Int),[(2:Int)],[(1:Int)],(100:Int),(1:Int),(0:Int),(0:Int)),((9:Int),(15:Int),[(3:Int)],[],(1100:Int),(0:Int),(0:Int),(0:Int))])) fun a=>Ã (IF a) fun h=>Ã (rB a ([(7:Int),(8:Int),(9:Int)])) fun i=>Ã (oB a (2:Int)) fun j=>ifb (ine b.2 0) (k false) (ifb (ine f.2 0) (k false) (ifb (ine g.2 0) (k false) (ifb (ine c.2 0) (k false) (ifb (ine h.2 0) (k false) (ifb (ine i.2 0) (k false) (ifb (ine j.2 0) (k false) (ifb (ine (Ù b.1) 2) (k false) (ifb (ine (Ù f.1) 2) (k false) (ifb j.1 (k false) (Ã (yc a) fun d=>ĝ b.1 (1:Int) fun q=>Ã (RI a q (2:Int) (13:Int)) fun l=>ifb (ine d.2 0) (k false) (ifb (ine l.2 0) (k false) (ifb (ine l.1 3) (k false) (Ã (ū a d.1) fun r=>ifb (ine r 0) (k false) (Ã (ũ ([])) fun s=>Ã (ū s d.1) fun t=>ifb (ine t 8) (k false) (Ã (rD g.1 ([[(3:Int),(2:Int)]])) fun u=>ifb u (ifb (ieq (Ù c.1) 1) (ĝ c.1 (0:Int) fun e=>ifb ((BX e.1 (3:Int))&&((BX e.2.1 (1099:Int))&&((BX e.2.2 (1101:Int))&&true))) (Ã (i9 h.1 ([(8:Int),(9:Int)])) fun v=>ifb v (Ã (i9 i.1 ([(8:Int),(9:Int)])) fun w=>k w) (k false)) (k false)) (k false)) (k false))))))))))))))))
def iP:Option (Bool):=Bc some
def xl (a:Val Â) (b:Val af) (k:Val aG→Option ρ):Option ρ :=
  Ã (pO a b) fun c=>ifb (ine c 0) (k (false,c)) (Ã (Ū a b) fun d=>k (d,(0:Int)))
def rC (a:Val Â) (b:Val af):Option ((Val aG)):=xl a b some
def uz (a:Val Â) (b:Val af) (k:(Val (.pair É tI))→Option ρ):Option ρ :=
  Ã (pO a b) fun c=>ifb (ine c 0) (k ((((0:Int),(0:Int)),[],[],[],[],[]),c)) (Ã (ŧ a b) fun d=>k (d,(0:Int)))
def oC (a:Val Â) (b:Val af):Option ((Val (.pair É tI))):=uz a b some
def ε (b:Val aa) (c:Int) (a:Int) (d:Int→Option ρ) (e:Int→Option ρ) (f:Unit→Option ρ):Option ρ :=
  ifb (ilt a c) (ĝ b a fun g=>Ã (ē g (-4503599627370496:Int) (4503599627370496:Int)) fun h=>ifb (!h) (e a) (ck (a+(1:Int)) fun i=>d i)) (f ())
def l8 (b:Val aD) (a:Val aa) (k:Int→Option ρ):Option ρ :=
  ifb (ine (Ù a) (Ù b.2.1)) (k (1:Int)) (Ê (fun(c:Int) d=>ε a (Ù a) c (fun e=>d e) (fun f=>ifb (ige f 0) (k (1:Int)) (k (0:Int))) (fun _=>k (0:Int))) (0:Int))
def ja (a:Val aD) (b:Val aa):Option (Int):=l8 a b some
def uO (d:Val aa) (e:Int) (a:Int) (f:Int→Option ρ) (b:Int→Option ρ) (g:Unit→Option ρ):Option ρ :=
  ifb (ilt a e) (ĝ d a fun c=>ifb (ilt c (-1152921504606846976:Int)) (b a) (ifb (igt c 1152921504606846976) (b a) (ck (a+(1:Int)) fun h=>f h))) (g ())
def l5 (c:Val aa) (d:Val ak) (e:Int) (a:Int) (f:Int→Option ρ) (g:Val aG→Option ρ) (h:Unit→Option ρ):Option ρ :=
  ifb (ilt a e) (ĝ d a fun b=>ĝ c b.2.1 fun i=>ĝ c b.1 fun j=>ck (j+b.2.2) fun k=>ifb (igt i k) (g (false,(0:Int))) (ck (a+(1:Int)) fun l=>f l)) (h ())
def QD (b:Val Ë) (a:Val aa) (k:Val aG→Option ρ):Option ρ :=
  Ã (nz b) fun c=>ifb (ine c.1 0) (k (false,c.1)) (ifb (ine (Ù a) b.1) (k (false,(1:Int))) (Ê (fun(f:Int) g=>uO a (Ù a) f (fun h=>g h) (fun i=>ifb (ige i 0) (k (false,(1:Int))) (Ê (fun(j:Int) l=>l5 a b.2 (Ù b.2) j (fun m=>l m) (fun d=>k (d.1,d.2)) (fun _=>ĝ a (0:Int) fun n=>k (ieq n 0,(0:Int)))) (0:Int))) (fun _=>Ê (fun(o:Int) p=>l5 a b.2 (Ù b.2) o (fun q=>p q) (fun e=>k (e.1,e.2)) (fun _=>ĝ a (0:Int) fun r=>k (ieq r 0,(0:Int)))) (0:Int))) (0:Int)))
def IH (a:Val Ë) (b:Val aa):Option ((Val aG)):=QD a b some
def sa (b:Val aD) (a:Val aa) (k:Bool→Option ρ):Option ρ :=
  è (î ((List.length ([(0:Int)]))+(List.length a))) (Ã (IH b.2.2.1 (([(0:Int)])++a)) fun c=>k c.1)
def mB (a:Val aD) (b:Val aa):Option (Bool):=sa a b some
def Rk (a:Val É) (b:Val aa) (k:Val aG→Option ρ):Option ρ :=
  Ã (Ÿ a) fun c=>ifb (ine c 0) (k (false,c)) (Ã (Ek a) fun d=>Ã (ja d b) fun e=>ifb (ine e 0) (k (false,e)) (Ã (mB d b) fun f=>k (f,(0:Int))))
def IK (a:Val É) (b:Val aa):Option ((Val aG)):=Rk a b some
def xq (a:Val Â) (b:Val af) (d:Val aa) (k:Int→Option ρ):Option ρ :=
  Ã (pO a b) fun c=>ifb (ine c 0) (k c) (Ã (ŧ a b) fun e=>Ã (IK e d) fun f=>ifb (!f.1) (k (8:Int)) (k (0:Int)))
def nw (a:Val Â) (b:Val af) (c:Val aa):Option (Int):=xq a b c some
def xH (a:Val Ë) (k:Val aw→Option ρ):Option ρ :=
  Ã (ye a ([])) fun b=>ifb (ine b 0) (k ([],b)) (Ã (oV a ([]) (0:Int)) fun c=>Ã (Ü c (1152921504606846976:Int)) fun d=>ifb d (k ([],(5:Int))) (k (c,(0:Int))))
def rE (a:Val Ë):Option ((Val aw)):=xH a some
def Ħ (n:Val aa) (b:Val aj) (c:Int) (d:Int) (e:Val ag) (f:Val ab) (g:Val ah) (h:Val ae) (i:Val ab) (j:Val ai) (a:Int) (k:Int→Option ρ) (l:Bool→Option ρ) (o:Unit→Option ρ):Option ρ :=
  ifb (ilt a (Ù b)) (ĝ b a fun p=>Ã (rC (((c,d),e,f,g,h,i),j) p) fun m=>ifb (ine m.2 0) (l false) (ĝ b a fun q=>Ã (nw (((c,d),e,f,g,h,i),j) q n) fun r=>ifb (ieq r 0) (ifb (!m.1) (l false) (ck (a+(1:Int)) fun s=>k s)) (ck (a+(1:Int)) fun t=>k t))) (o ())
def nF (b:Val Â) (i:Val af) (j:Val aa) (k:Bool→Option ρ):Option ρ :=
  Ã (yS b) fun t=>ifb (!t) (Ã iP fun u=>k u) (Ã (yT i (160:Int)) fun v=>ifb (!v) (Ã iP fun w=>k w) (ifb (igt (Ù j) 70) (Ã iP fun x=>k x) (Ã (LJ b) fun h=>ifb (ine h.2 0) (Ã iP fun y=>k y) (Ã (yd b) fun g=>Ã (yc b) fun f=>Xl (α:=(Val (.pair af (.pair aa (.pair aj (.pair af (.pair tI (.pair af az)))))))) (fun l=>ifb (!((ieq g.2 0)==(igt (Ù h.1) 0))) (k false) (ifb ((ieq f.2 0)==(igt (Ù h.1) 0)) (k false) (ifb (ine g.2 0) (ifb (ine g.2 5) (k false) (ifb (ine f.2 0) (ifb (ine f.2 5) (k false) (l (i,j,h.1,g.1,g.2,f.1,f.2,b.1.1.1,b.1.1.2,b.1.2.1,b.1.2.2.1,b.1.2.2.2.1,b.1.2.2.2.2.1,b.1.2.2.2.2.2,b.2))) (l (i,j,h.1,g.1,g.2,f.1,f.2,b.1.1.1,b.1.1.2,b.1.2.1,b.1.2.2.1,b.1.2.2.2.1,b.1.2.2.2.2.1,b.1.2.2.2.2.2,b.2)))) (ifb (ine f.2 0) (ifb (ine f.2 5) (k false) (l (i,j,h.1,g.1,g.2,f.1,f.2,b.1.1.1,b.1.1.2,b.1.2.1,b.1.2.2.1,b.1.2.2.2.1,b.1.2.2.2.2.1,b.1.2.2.2.2.2,b.2))) (l (i,j,h.1,g.1,g.2,f.1,f.2,b.1.1.1,b.1.1.2,b.1.2.1,b.1.2.2.1,b.1.2.2.2.1,b.1.2.2.2.2.1,b.1.2.2.2.2.2,b.2)))))) (fun a=>Xl (α:=(Val (.pair af (.pair aa (.pair aj (.pair af az)))))) (fun n=>ifb (ieq a.2.2.2.2.1 0) (Ã (oC (((a.2.2.2.2.2.2.2.1,a.2.2.2.2.2.2.2.2.1),a.2.2.2.2.2.2.2.2.2.1,a.2.2.2.2.2.2.2.2.2.2.1,a.2.2.2.2.2.2.2.2.2.2.2.1,a.2.2.2.2.2.2.2.2.2.2.2.2.1,a.2.2.2.2.2.2.2.2.2.2.2.2.2.1),a.2.2.2.2.2.2.2.2.2.2.2.2.2.2) a.2.2.2.1) fun o=>Ã (gJ o.1) fun p=>Ã (rE p.1) fun m=>ifb (ine o.2 0) (k false) (ifb (ine p.2.2 0) (k false) (ifb (ine m.2 0) (k false) (ifb (ieq (Ù m.1) 0) (k false) (è (ile 1 (ò m.1)) (Ã (nw (((a.2.2.2.2.2.2.2.1,a.2.2.2.2.2.2.2.2.1),a.2.2.2.2.2.2.2.2.2.1,a.2.2.2.2.2.2.2.2.2.2.1,a.2.2.2.2.2.2.2.2.2.2.2.1,a.2.2.2.2.2.2.2.2.2.2.2.2.1,a.2.2.2.2.2.2.2.2.2.2.2.2.2.1),a.2.2.2.2.2.2.2.2.2.2.2.2.2.2) a.2.2.2.1 (List.drop 1 m.1)) fun z=>ifb (ine z 0) (k false) (n (a.1,a.2.1,a.2.2.1,a.2.2.2.2.2.1,a.2.2.2.2.2.2.1,a.2.2.2.2.2.2.2.1,a.2.2.2.2.2.2.2.2.1,a.2.2.2.2.2.2.2.2.2.1,a.2.2.2.2.2.2.2.2.2.2.1,a.2.2.2.2.2.2.2.2.2.2.2.1,a.2.2.2.2.2.2.2.2.2.2.2.2.1,a.2.2.2.2.2.2.2.2.2.2.2.2.2.1,a.2.2.2.2.2.2.2.2.2.2.2.2.2.2)))))))) (n (a.1,a.2.1,a.2.2.1,a.2.2.2.2.2.1,a.2.2.2.2.2.2.1,a.2.2.2.2.2.2.2.1,a.2.2.2.2.2.2.2.2.1,a.2.2.2.2.2.2.2.2.2.1,a.2.2.2.2.2.2.2.2.2.2.1,a.2.2.2.2.2.2.2.2.2.2.2.1,a.2.2.2.2.2.2.2.2.2.2.2.2.1,a.2.2.2.2.2.2.2.2.2.2.2.2.2.1,a.2.2.2.2.2.2.2.2.2.2.2.2.2.2))) (fun c=>Xl (α:=(Val (.pair af (.pair aa (.pair aj ac))))) (fun q=>ifb (ieq c.2.2.2.2.1 0) (Ã (ū (((c.2.2.2.2.2.1,c.2.2.2.2.2.2.1),c.2.2.2.2.2.2.2.1,c.2.2.2.2.2.2.2.2.1,c.2.2.2.2.2.2.2.2.2.1,c.2.2.2.2.2.2.2.2.2.2.1,c.2.2.2.2.2.2.2.2.2.2.2.1),c.2.2.2.2.2.2.2.2.2.2.2.2) c.2.2.2.1) fun A=>ifb (ine A 0) (k false) (q (c.1,c.2.1,c.2.2.1,c.2.2.2.2.2.1,c.2.2.2.2.2.2.1,c.2.2.2.2.2.2.2.1,c.2.2.2.2.2.2.2.2.1,c.2.2.2.2.2.2.2.2.2.1,c.2.2.2.2.2.2.2.2.2.2.1,c.2.2.2.2.2.2.2.2.2.2.2.1,c.2.2.2.2.2.2.2.2.2.2.2.2))) (q (c.1,c.2.1,c.2.2.1,c.2.2.2.2.2.1,c.2.2.2.2.2.2.1,c.2.2.2.2.2.2.2.1,c.2.2.2.2.2.2.2.2.1,c.2.2.2.2.2.2.2.2.2.1,c.2.2.2.2.2.2.2.2.2.2.1,c.2.2.2.2.2.2.2.2.2.2.2.1,c.2.2.2.2.2.2.2.2.2.2.2.2))) (fun d=>Ã (ū (((d.2.2.2.1,d.2.2.2.2.1),d.2.2.2.2.2.1,d.2.2.2.2.2.2.1,d.2.2.2.2.2.2.2.1,d.2.2.2.2.2.2.2.2.1,d.2.2.2.2.2.2.2.2.2.1),d.2.2.2.2.2.2.2.2.2.2) d.1) fun B=>Xl (α:=(Val (.pair aa ac))) (fun r=>ifb (ieq B 0) (ifb (igt (Ù d.2.2.1) 0) (k false) (r (d.2.1,d.2.2.2.1,d.2.2.2.2.1,d.2.2.2.2.2.1,d.2.2.2.2.2.2.1,d.2.2.2.2.2.2.2.1,d.2.2.2.2.2.2.2.2.1,d.2.2.2.2.2.2.2.2.2.1,d.2.2.2.2.2.2.2.2.2.2))) (r (d.2.1,d.2.2.2.1,d.2.2.2.2.1,d.2.2.2.2.2.1,d.2.2.2.2.2.2.1,d.2.2.2.2.2.2.2.1,d.2.2.2.2.2.2.2.2.1,d.2.2.2.2.2.2.2.2.2.1,d.2.2.2.2.2.2.2.2.2.2))) (fun e=>Ã (vr (((e.2.1,e.2.2.1),e.2.2.2.1,e.2.2.2.2.1,e.2.2.2.2.2.1,e.2.2.2.2.2.2.1,e.2.2.2.2.2.2.2.1),e.2.2.2.2.2.2.2.2)) fun s=>ifb (ine s.2 0) (k false) (Ê (fun(C:Int) D=>Ħ e.1 s.1 e.2.1 e.2.2.1 e.2.2.2.1 e.2.2.2.2.1 e.2.2.2.2.2.1 e.2.2.2.2.2.2.1 e.2.2.2.2.2.2.2.1 e.2.2.2.2.2.2.2.2 C (fun E=>D E) (fun F=>k F) (fun _=>Ã iP fun G=>k G)) (0:Int))))))))))
def nX (a:Val Â) (b:Val af) (c:Val aa):Option (Bool):=nF a b c some
end Go.Proofs.ZzM
end
