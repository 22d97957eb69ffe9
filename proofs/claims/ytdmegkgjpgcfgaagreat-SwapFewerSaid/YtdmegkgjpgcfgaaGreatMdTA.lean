/- lemmas -/
import Derived.Test.YtdmegkgjpgcfgaaGreatAmE
set_option linter.all false
set_option linter.unusedSectionVars false
set_option linter.unusedVariables false
set_option linter.unusedSimpArgs false
noncomputable section
variable {ρ:Type}
set_option maxRecDepth 100000
namespace Go.Proofs.ZzM
open Go Go.Am
abbrev tI:Ty:=.int .i64
abbrev Ä:Ty:=(.pair tI tI)
abbrev œ:Ty:=(.pair tI Ä)
abbrev Ğ:Ty:=(.pair tI (.slice tI))
abbrev Ĕ:Ty:=(.pair Ä Ä)
abbrev BV:Ty:=(.pair Ä tI)
abbrev η:Ty:=(.pair tI BV)
abbrev aaX:Ty:=(.pair Ĕ tI)
abbrev Ì:Ty:=(.pair tI (.slice œ))
abbrev BU:Ty:=(.pair (.slice œ) (.slice Ä))
abbrev Õ:Ty:=(.pair tI (.pair tI (.pair tI (.pair Ä BV))))
abbrev ã:Ty:=(.pair tI (.pair tI (.pair (.slice tI) (.pair (.slice tI) (.pair tI œ)))))
abbrev È:Ty:=(.pair Ä (.pair (.slice Õ) (.pair (.slice Ä) (.pair (.slice η) (.pair (.slice ã) (.slice Ä))))))
abbrev Â:Ty:=(.pair È (.slice Ğ))
abbrev agb:Ty:=(.pair È (.pair (.slice Ä) (.pair Ì (.slice Ä))))
def yE (l:List Int):Option (List Int):=ß (æ l.length) (some l)
def H7:Nat→List Int→List (List Int)
  |0,_=>[[]]
  |n+1,l=>if l.length=0 then[[]] else(List.range l.length).flatMap fun i=>(H7 n (l.take i++l.drop (i+1))).map (l.getD i 0::·)
def jL:List (Int×List Int)→List (List (List Int))
  |[]=>[[]]
  |m::r=>(H7 m.2.length m.2).flatMap fun x=>(jL r).map (x::·)
def yF (l:List Int):Option (List (List Int)):=ß (decide (l.length≤9)) (some (H7 l.length l))
def mn (l:List (Int×List Int)):Option (List (List (List Int))):=ß (decide (l.length≤9)&&l.all fun m=>decide (m.2.length≤9)) (some (jL l))
abbrev aa:Ty:=(.slice tI)
abbrev ab:Ty:=(.slice Ä)
abbrev ac:Ty:=(.slice ã)
abbrev ae:Ty:=(.pair tI (.pair tI (.pair (.slice Õ) (.pair ab (.pair (.slice η) (.pair ac (.pair ab (.slice Ğ))))))))
abbrev af:Ty:=(.slice Õ)
abbrev ag:Ty:=(.slice (.slice aa))
abbrev ah:Ty:=(.slice η)
abbrev ai:Ty:=(.slice Ğ)
abbrev aj:Ty:=(.slice aa)
abbrev ak:Ty:=(.slice œ)
abbrev am:Ty:=(.map tI Õ)
abbrev ao:Ty:=(.map tI .bool)
abbrev aq:Ty:=(.slice .bool)
abbrev ar:Ty:=(.ptr Â)
abbrev au:Ty:=(.pair tI (.pair ag ae))
abbrev aw:Ty:=(.pair tI (.pair tI (.pair af (.pair ab (.pair ah (.pair ac (.pair ab (.pair ai ae))))))))
abbrev ax:Ty:=(.pair aa tI)
abbrev ay:Ty:=(.pair tI (.pair tI (.pair tI (.pair tI (.pair tI œ)))))
abbrev az:Ty:=(.pair tI ae)
abbrev aB:Ty:=(.pair tI ag)
abbrev aD:Ty:=(.pair tI (.pair tI (.pair af (.pair ab (.pair ah (.pair ac ab))))))
abbrev aE:Ty:=(.pair aa (.pair tI (.pair tI (.pair tI (.pair af (.pair ab (.pair ah (.pair ac (.pair ab (.pair tI (.pair aa (.map tI tI))))))))))))
abbrev aF:Ty:=(.ptr aj)
abbrev aG:Ty:=(.pair tI Ğ)
abbrev aH:Ty:=(.pair tI ac)
abbrev aI:Ty:=(.pair tI (.pair tI (.pair tI (.pair af (.pair ab (.pair ah (.pair ac (.pair ab ay))))))))
abbrev aJ:Ty:=(.pair Â aj)
abbrev aK:Ty:=(.pair È Ä)
abbrev aL:Ty:=(.pair aq aa)
abbrev aM:Ty:=(.pair aa (.pair aq (.pair aa aa)))
abbrev aO:Ty:=(.pair tI (.pair tI (.pair tI (.pair tI (.pair tI au)))))
abbrev aP:Ty:=(.pair .bool tI)
abbrev aQ:Ty:=(.map tI Ä)
abbrev aR:Ty:=(.pair tI Ì)
abbrev aS:Ty:=(.pair aa (.pair tI (.pair tI ax)))
abbrev aT:Ty:=(.ptr agb)
abbrev aU:Ty:=(.pair aa Ğ)
abbrev aV:Ty:=(.pair Â aa)
abbrev aW:Ty:=(.map tI tI)
abbrev aX:Ty:=(.pair tI (.pair tI az))
abbrev aY:Ty:=(.pair È ã)
abbrev aZ:Ty:=(.pair tI (.pair tI (.pair af (.pair ab (.pair ah ab)))))
abbrev ba:Ty:=(.pair tI ab)
abbrev bc:Ty:=(.pair Â (.pair aj Ä))
abbrev bf:Ty:=(.pair tI aj)
abbrev bg:Ty:=(.pair ab tI)
abbrev bh:Ty:=(.pair aa (.pair ai aa))
abbrev bi:Ty:=(.pair (.int .u64) (.int .u64))
abbrev bj:Ty:=(.pair Ì aa)
abbrev bm:Ty:=(.pair È (.pair am tI))
abbrev bn:Ty:=(.pair tI (.pair tI (.pair ak Ì)))
def Η (d:Val aj) (e:Int) (b:Int) (a:Int) (f:Int→Int→Option ρ) (g:Int→Option ρ):Option ρ :=
  ifb (ilt a e) (Ĭ d a fun h=>ck (b+(Ø h)) fun c=>ifb (ilt c 0) (none) (ck (a+(1:Int)) fun i=>f c i)) (g b)
def ĝ (d:Val aj) (e:Int) (a:Int) (b:Val aa) (f:Int→Val aa→Option ρ) (g:Val aa→Option ρ):Option ρ :=
  ifb (ilt a e) (Ĭ d a fun c=>ß (æ ((List.length b)+(List.length c))) (ck (a+(1:Int)) fun h=>f h (b++c))) (g b)
def kX (a:Val aj) (k:Val aa→Option ρ):Option ρ :=
  Ê (fun(c:Val Ä) g=>Η a (Ø a) c.1 c.2 (fun h i=>g (h,i)) (fun d=>ifb (ilt d 0) (none) (ck (d-(0:Int)) fun b=>ifb (igt b 0) (ß ((ilt 0 b)&&(æ (Int.toNat b))) (ß (ile 0 (ì (List.replicate (Int.toNat b) (0:Int)))) (Ê (fun(e:Val Ğ) j=>ĝ a (Ø a) e.1 e.2 (fun l m=>j (l,m)) (fun n=>k n)) ((0:Int),(List.take 0 (List.replicate (Int.toNat b) (0:Int))))))) (Ê (fun(f:Val Ğ) o=>ĝ a (Ø a) f.1 f.2 (fun p q=>o (p,q)) (fun r=>k r)) ((0:Int),[]))))) ((0:Int),(0:Int))
def Ħ (a:Val aj):Option ((Val aa)):=kX a some
def pd (al:Val aj) (rec:Val aa→Option ((Val aj))) (a:Int) (b:Val aj) (y:Val aa) (c:Val aj→Option ρ):Option ρ :=
  ß (æ ((List.length ([a]))+(List.length y))) (yg al (b++[(([a])++y)]) (c (b++[(([a])++y)])))
def pe (al:Val aj) (rec:Val aa→Option ((Val aj))) (e:Val aa) (f:Int) (b:Val aa) (a:Int) (d:Val aj) (g:Int→Val aj→Option ρ) (h:Val aj→Option ρ):Option ρ :=
  ifb (ilt a f) (Ĭ e a fun i=>ß ((ile 0 a)&&(ile a (ì b))) (ck (a+(1:Int)) fun c=>ß ((ile 0 c)&&(ile c (ì b))) (Ã (Ħ ([(List.take (Int.toNat a) b),(List.drop (Int.toNat c) b)])) fun j=>Ã (rec j) fun k=>xT (fun(l:Val aj) (m:Val aa) n=>pd al rec i l m (fun o=>n o)) k (d) (fun p=>ck (a+(1:Int)) fun q=>g q p)))) (h d)
def wX (al:Val aj) (rec:Val aa→Option ((Val aj))) (mm:Val aa) (k:((Val aj))×((Val aa))→Option ρ):Option ρ :=
  ifb (ieq (Ø mm) 0) (yg al (([])++[[]]) (k ((([])++[[]]),mm))) (Ê (fun(a:Val bf) b=>pe al rec mm (Ø mm) mm a.1 a.2 (fun c d=>b (c,d)) (fun e=>k (e,mm))) ((0:Int),[]))
def mb (al:Val ag) (rec:Val ai→Option ((Val ag))) (a:Val aa) (b:Val ag) (y:Val aj) (c:Val ag→Option ρ):Option ρ :=
  ß (æ ((List.length ([a]))+(List.length y))) (yg al (b++[(([a])++y)]) (c (b++[(([a])++y)])))
def mc (al:Val ag) (rec:Val ai→Option ((Val ag))) (a:Val ai) (b:Val ag) (y:Val aa) (c:Val ag→Option ρ):Option ρ :=
  ß (ile 1 (ì a)) (Ã (rec (List.drop 1 a)) fun d=>xT (fun(e:Val ag) (f:Val aj) g=>mb al rec y e f (fun h=>g h)) d (b) (fun i=>c i))
def rI (al:Val ag) (rec:Val ai→Option ((Val ag))) (mm:Val ai) (k:((Val ag))×((Val ai))→Option ρ):Option ρ :=
  ifb (ieq (Ø mm) 0) (yg al (([])++[[]]) (k ((([])++[[]]),mm))) (Ĭ mm (0:Int) fun a=>Ã (yF a.2) fun b=>xT (fun(c:Val ag) (d:Val aa) e=>mc al rec mm c d (fun f=>e f)) b ([]) (fun g=>k (g,mm)))
def il (al:Val aa) (rec:Val aa→Option ((Val aa))) (d:Val aa) (e:Int) (a:Int) (b:Val aa) (f:Int→Val aa→Option ρ) (g:Val aa→Option ρ):Option ρ :=
  ifb (ilt a e) (Ĭ d a fun c=>yg al (b++[c]) (ck (a+(1:Int)) fun h=>f h (b++[c]))) (g b)
def jy (al:Val aa) (rec:Val aa→Option ((Val aa))) (mm:Val aa) (k:((Val aa))×((Val aa))→Option ρ):Option ρ :=
  Ê (fun(a:Val Ğ) b=>il al rec mm (Ø mm) a.1 a.2 (fun c d=>b (c,d)) (fun e=>k (e,mm))) ((0:Int),[])
def Ω (b:Val aa) (c:Int) (d:Int) (a:Int) (e:Int→Option ρ) (f:Int→Option ρ) (g:Unit→Option ρ):Option ρ :=
  ifb (ilt a d) (Ĭ b a fun h=>ifb (ieq c h) (f a) (ck (a+(1:Int)) fun i=>e i)) (g ())
def me (a:Val aa) (b:Int) (k:Int→Option ρ):Option ρ :=
  Ê (fun(c:Int) d=>Ω a b (Ø a) c (fun e=>d e) (fun f=>k f) (fun _=>k (-1:Int))) (0:Int)
def gT (a:Val aa) (b:Int):Option (Int):=me a b some
def jz (a:Val aa) (b:Int) (k:Bool→Option ρ):Option ρ :=
  Ã (gT a b) fun c=>k (ige c 0)
def Û (a:Val aa) (b:Int):Option (Bool):=jz a b some
def uY (f:Val ac) (g:Int) (d:Int) (a:Int) (b:Val aa) (e:Int→Val aa→Option ρ) (h:Val aa→Option ρ):Option ρ :=
  ifb (ilt a g) (Ĭ f a fun c=>Ã (Û c.2.2.1 d) fun i=>Ã (Û c.2.2.2.1 d) fun j=>ifb (!(i==j)) (ß (æ ((List.length b)+(List.length ([c.2.1])))) (ck (a+(1:Int)) fun k=>e k (b++([c.2.1])))) (ck (a+(1:Int)) fun l=>e l b)) (h b)
def uX (e:Val ab) (f:Int) (g:Int) (a:Int) (b:Val aa) (d:Int→Val aa→Option ρ) (h:Val aa→Option ρ):Option ρ :=
  ifb (ilt a f) (Ĭ e a fun c=>ifb (ieq c.1 g) (ß (æ ((List.length b)+(List.length ([c.2])))) (ck (a+(1:Int)) fun i=>d i (b++([c.2])))) (ck (a+(1:Int)) fun j=>d j b)) (h b)
def QT (a:Val È) (b:Val Õ) (k:Val aa→Option ρ):Option ρ :=
  Ê (fun(d:Val Ğ) f=>uY a.2.2.2.2.1 (Ø a.2.2.2.2.1) b.1 d.1 d.2 (fun g h=>f (g,h)) (fun i=>Ê (fun(e:Val Ğ) j=>uX a.2.2.2.2.2 (Ø a.2.2.2.2.2) b.1 e.1 e.2 (fun l m=>j (l,m)) (fun c=>ß (æ (List.length c)) (ß (æ (List.length (wt c))) (k (yU (wt c)))))) ((0:Int),i))) ((0:Int),[b.2.1])
def oD (a:Val È) (b:Val Õ):Option ((Val aa)):=QT a b some
def qU (e:Val aa) (f:Int) (c:Int) (a:Int) (b:Val ab) (g:Int→Val ab→Option ρ) (h:Val ab→Option ρ):Option ρ :=
  ifb (ilt a f) (Ĭ e a fun d=>ß (æ ((List.length b)+(List.length ([(c,d)])))) (ck (a+(1:Int)) fun i=>g i (b++([(c,d)])))) (h b)
def qV (f:Val af) (g:Int) (h:Int) (i:Int) (j:Val af) (k:Val ab) (l:Val ah) (m:Val ac) (n:Val ab) (a:Int) (b:Val ab) (o:Int→Val ab→Option ρ) (p:Val ab→Option ρ):Option ρ :=
  ifb (ilt a g) (Ĭ f a fun c=>Ã (oD ((h,i),j,k,l,m,n) c) fun d=>Ê (fun(e:Val ba) q=>qU d (Ø d) c.1 e.1 e.2 (fun r s=>q (r,s)) (fun t=>ck (a+(1:Int)) fun u=>o u t)) ((0:Int),b)) (p b)
def Ku (a:Val È) (k:Val ab→Option ρ):Option ρ :=
  Ê (fun(b:Val ba) c=>qV a.2.1 (Ø a.2.1) a.1.1 a.1.2 a.2.1 a.2.2.1 a.2.2.2.1 a.2.2.2.2.1 a.2.2.2.2.2 b.1 b.2 (fun d e=>c (d,e)) (fun f=>k f)) ((0:Int),[])
def pK (a:Val È):Option ((Val ab)):=Ku a some
def FA (a:Val Ä) (b:Int) (c:Int) (k:Bool→Option ρ):Option ρ :=
  ifb (ile b a.1) (ifb (ile a.1 a.2) (k (ile a.2 c)) (k false)) (k false)
def Γ (a:Val Ä) (b:Int) (c:Int):Option (Bool):=FA a b c some
def Fs (a:Int) (b:Int) (c:Int) (k:Bool→Option ρ):Option ρ :=
  ifb (ile b a) (k (ile a c)) (k false)
def Ę (a:Int) (b:Int) (c:Int):Option (Bool):=Fs a b c some
def KA (a:Int) (k:Bool→Option ρ):Option ρ :=
  Ã (Ę a (0:Int) (20000:Int)) fun b=>k b
def ln (a:Int):Option (Bool):=KA a some
def Qt (a:Int) (k:Int→Option ρ):Option ρ :=
  ifb (ilt a 0) (k (IntKind.wrap .u64 (0-(IntKind.wrap .u64 a)))) (k (IntKind.wrap .u64 a))
def rr (a:Int):Option (Int):=Qt a some
def yy (b:Int) (a:Int) (c:Int→Int→Option ρ) (d:Int→Option ρ):Option ρ :=
  ifb (ine a 0) (ifb (AB a 0) (none) (c a (Int.tmod b a))) (d b)
def Wt (b:Int) (c:Int) (k:Int→Option ρ):Option ρ :=
  Ê (fun(a:Val bi) d=>yy a.1 a.2 (fun e f=>d (e,f)) (fun g=>k g)) (b,c)
def Lj (a:Int) (b:Int):Option (Int):=Wt a b some
def Kj (a:Val Ä) (k:Bool→Option ρ):Option ρ :=
  ifb (ige a.2 1) (ifb (ile a.2 2147483647) (Ã (rr a.1) fun b=>ifb (ile b 2147483647) (Ã (rr a.1) fun c=>Ã (rr a.2) fun d=>Ã (Lj c d) fun e=>k (ieq e 1)) (k false)) (k false)) (k false)
def tK (a:Val Ä):Option (Bool):=Kj a some
def Bu (a:Val Õ) (k:Bool→Option ρ):Option ρ :=
  Ã (tK a.2.2.2.2.1) fun b=>ifb b (Ã (Ę a.2.2.2.2.1.1 (-1000:Int) (1000:Int)) fun c=>ifb c (Ã (Ę a.1 (1:Int) (1099511627776:Int)) fun d=>ifb d (Ã (ln a.2.1) fun e=>ifb e (Ã (Ę a.2.2.1 (1:Int) (1125899906842624:Int)) fun f=>ifb f (Ã (Γ a.2.2.2.1 (-1073741824:Int) (1073741824:Int)) fun g=>ifb g (ifb (ile a.2.2.2.2.1.2 100) (Ã (Ę a.2.2.2.2.2 (0:Int) (1048576:Int)) fun h=>k h) (k false)) (k false)) (k false)) (k false)) (k false)) (Ã (Ę a.1 (1:Int) (1099511627776:Int)) fun i=>ifb i (Ã (ln a.2.1) fun j=>ifb j (Ã (Ę a.2.2.1 (1:Int) (1125899906842624:Int)) fun l=>ifb l (Ã (Γ a.2.2.2.1 (-1073741824:Int) (1073741824:Int)) fun m=>ifb m (k false) (k false)) (k false)) (k false)) (k false))) (Ã (Ę a.1 (1:Int) (1099511627776:Int)) fun n=>ifb n (Ã (ln a.2.1) fun o=>ifb o (Ã (Ę a.2.2.1 (1:Int) (1125899906842624:Int)) fun p=>ifb p (Ã (Γ a.2.2.2.1 (-1073741824:Int) (1073741824:Int)) fun q=>ifb q (k false) (k false)) (k false)) (k false)) (k false))
def vq (a:Val Õ):Option (Bool):=Bu a some
def iL (e:Val af) (f:Int) (g:Val af) (a:Int) (b:Int→Option ρ) (c:Int→Option ρ) (h:Unit→Option ρ):Option ρ :=
  ifb (ilt a f) (Ĭ e a fun d=>Ã (vq d) fun i=>ifb (!i) (c (1:Int)) (ifb (igt a 0) (ck (a-(1:Int)) fun j=>Ĭ g j fun k=>ifb (ile d.1 k.1) (c (6:Int)) (ck (a+(1:Int)) fun l=>b l)) (ck (a+(1:Int)) fun m=>b m))) (h ())
def pC (a:Val È) (k:Int→Option ρ):Option ρ :=
  Ê (fun(b:Int) c=>iL a.2.1 (Ø a.2.1) a.2.1 b (fun d=>c d) (fun e=>k e) (fun _=>k (0:Int))) (0:Int)
def Ÿ (a:Val È):Option (Int):=pC a some
def mH (d:Val af) (e:Int) (a:Int) (b:Val am) (f:Int→Val am→Option ρ) (g:Val am→Option ρ):Option ρ :=
  ifb (ilt a e) (Ĭ d a fun c=>ck (a+(1:Int)) fun h=>f h (Oe (k:=tI) (v:=Õ) c.1 c b)) (g b)
def Br (a:Val È) (k:Val am→Option ρ):Option ρ :=
  Ê (fun(b:(Val (.pair tI am))) c=>mH a.2.1 (Ø a.2.1) b.1 b.2 (fun d e=>c (d,e)) (fun f=>k f)) ((0:Int),[])
def Ľ (a:Val È):Option ((Val am)):=Br a some
def rQ (a:Val am) (b:Int) (c:Int) (k:Int→Option ρ):Option ρ :=
  L5 (k:=tI) (v:=Õ) b a (fun d=>ifb (ilt c d.2.1) (k (4:Int)) (k (0:Int))) (k (5:Int))
def iC (a:Val am) (b:Int) (c:Int):Option (Int):=rQ a b c some
def Bt (b:Int) (a:Int) (c:(Val (.ptr am))) (k:Int→Option ρ):Option ρ :=
  Ã (ln a) fun d=>ifb (!d) (k (1:Int)) (Ã (iC c b a) fun e=>k e)
def ľ (a:Int) (b:Int) (c:(Val (.ptr am))):Option (Int):=Bt a b c some
def jX (d:Val ah) (e:Int) (f:Int) (g:Int) (h:Int) (a:Int) (b:Int→Option ρ) (i:Int→Option ρ) (j:Unit→Option ρ):Option ρ :=
  ifb (ilt a e) (Ĭ d a fun c=>ifb (ieq c.1 f) (ifb (ile c.2.1.1 h) (ifb (ile g c.2.1.2) (i a) (ck (a+(1:Int)) fun k=>b k)) (ck (a+(1:Int)) fun l=>b l)) (ck (a+(1:Int)) fun m=>b m)) (j ())
def Β (d:Val ab) (e:Int) (f:Int) (g:Int) (h:Int) (a:Int) (b:Int→Option ρ) (i:Int→Option ρ) (j:Unit→Option ρ):Option ρ :=
  ifb (ilt a e) (Ĭ d a fun c=>ifb (ieq c.1 f) (Ã (Ę c.2 g h) fun k=>ifb k (i a) (ck (a+(1:Int)) fun l=>b l)) (ck (a+(1:Int)) fun m=>b m)) (j ())
def uZ (b:Val È) (e:Val am) (c:Int) (k:Int→Option ρ):Option ρ :=
  Ĭ b.2.2.2.1 c fun a=>Ã (Γ a.2.1 (0:Int) (20000:Int)) fun f=>ifb (!f) (k (1:Int)) (Ã (Ę a.2.2 (0:Int) (1048576:Int)) fun g=>ifb (!g) (k (1:Int)) (Ã (iC e a.1 a.2.1.1) fun d=>ifb (ine d 0) (k d) (ß ((ile 0 c)&&(ile c (ì b.2.2.2.1))) (Ê (fun(h:Int) i=>jX (List.take (Int.toNat c) b.2.2.2.1) (Ø (List.take (Int.toNat c) b.2.2.2.1)) a.1 a.2.1.1 a.2.1.2 h (fun j=>i j) (fun l=>ifb (ige l 0) (k (9:Int)) (Ê (fun(m:Int) n=>Β b.2.2.1 (Ø b.2.2.1) a.1 a.2.1.1 a.2.1.2 m (fun o=>n o) (fun p=>ifb (ige p 0) (k (9:Int)) (k (0:Int))) (fun _=>k (0:Int))) (0:Int))) (fun _=>Ê (fun(q:Int) r=>Β b.2.2.1 (Ø b.2.2.1) a.1 a.2.1.1 a.2.1.2 q (fun s=>r s) (fun t=>ifb (ige t 0) (k (9:Int)) (k (0:Int))) (fun _=>k (0:Int))) (0:Int))) (0:Int)))))
def Κ (a:Val È) (b:Val am) (c:Int):Option (Int):=uZ a b c some
def uW (c:Int) (d:Val aa) (b:Val aa) (a:Int) (e:Int→Option ρ) (f:Int→Option ρ) (g:Unit→Option ρ):Option ρ :=
  ifb (ilt a c) (ß ((ile 0 a)&&(ilt a (ì b))) (ĸ b (Int.toNat a) fun h=>Ã (Û d h) fun i=>ifb i (f a) (ck (a+(1:Int)) fun j=>e j))) (g ())
def ka (f:Val aa) (b:Int) (c:Int) (a:Val aa) (d:Int→Int→Val aa→Option ρ) (g:Val Ğ→Option ρ):Option ρ :=
  ifb (ilt c (Ø a)) (ß ((ile 0 c)&&(ilt c (ì a))) (ĸ a (Int.toNat c) fun e=>Ã (Û f e) fun h=>ifb (!h) (ß ((ile 0 b)&&(ilt b (ì a))) (ĸ a (Int.toNat b) fun l=>ck (b+(1:Int)) fun i=>ck (c+(1:Int)) fun j=>d i j (List.set a (Int.toNat b) e))) (ck (c+(1:Int)) fun k=>d b k a))) (g (b,a))
def QK (b:Val aa) (e:Val aa) (k:Val aa→Option ρ):Option ρ :=
  ß (æ (List.length b)) (Ê (fun(f:Int) g=>uW (Ø b) e b f (fun h=>g h) (fun c=>ifb (ieq c (-1:Int)) (k b) (ck (c+(1:Int)) fun i=>Ê (fun(d:Val aG) j=>ka e d.1 d.2.1 d.2.2 (fun l m n=>j (l,m,n)) (fun a=>ß ((ile 0 a.1)&&(ile a.1 (ì a.2))) (ß ((ile 0 a.1)&&(ile a.1 (ì (List.take (Int.toNat a.1) a.2++List.replicate (List.length a.2-(Int.toNat a.1)) (0:Int)++List.drop ((Int.toNat a.1)+(List.length a.2-(Int.toNat a.1))) a.2)))) (k (List.take (Int.toNat a.1) (List.drop 0 (List.take (Int.toNat a.1) a.2++List.replicate (List.length a.2-(Int.toNat a.1)) (0:Int)++List.drop ((Int.toNat a.1)+(List.length a.2-(Int.toNat a.1))) a.2))))))) (c,i,b))) (fun _=>k b)) (0:Int))
def Ι (a:Val aa) (b:Val aa):Option ((Val aa)):=QK a b some
def ox (e:Val aa) (f:Val aa) (g:Int) (a:Int) (b:Int→Option ρ) (c:Bool→Option ρ) (h:Unit→Option ρ):Option ρ :=
  ifb (ilt a g) (Ĭ f a fun d=>Ã (Ę d (1:Int) (1099511627776:Int)) fun i=>ifb (!i) (c false) (ifb (igt a 0) (ck (a-(1:Int)) fun j=>Ĭ e j fun k=>ifb (ile d k) (c false) (ck (a+(1:Int)) fun l=>b l)) (ck (a+(1:Int)) fun m=>b m))) (h ())
def Fz (a:Val aa) (k:Bool→Option ρ):Option ρ :=
  Ê (fun(b:Int) c=>ox a a (Ø a) b (fun d=>c d) (fun e=>k e) (fun _=>k (ile (Ø a) 6))) (0:Int)
def mr (a:Val aa):Option (Bool):=Fz a some
def vc (d:Val ah) (e:Int) (f:Int) (g:Int) (a:Int) (c:Int→Option ρ) (h:Int→Option ρ) (i:Unit→Option ρ):Option ρ :=
  ifb (ilt a e) (Ĭ d a fun b=>ifb (ieq b.1 f) (Ã (Ę g b.2.1.1 b.2.1.2) fun j=>ifb j (h a) (ck (a+(1:Int)) fun k=>c k)) (ck (a+(1:Int)) fun l=>c l)) (i ())
def QU (a:Val È) (c:Int) (d:Int) (k:(Val (.pair η .bool))→Option ρ):Option ρ :=
  Ê (fun(e:Int) f=>vc a.2.2.2.1 (Ø a.2.2.2.1) c d e (fun g=>f g) (fun b=>ifb (ilt b 0) (k (((0:Int),((0:Int),(0:Int)),(0:Int)),false)) (Ĭ a.2.2.2.1 b fun h=>k (h,true))) (fun _=>k (((0:Int),((0:Int),(0:Int)),(0:Int)),false))) (0:Int)
def vr (a:Val È) (b:Int) (c:Int):Option ((Val (.pair η .bool))):=QU a b c some
def iq (b:Val ac) (c:Int) (d:Int) (a:Int) (e:Int→Option ρ) (f:Int→Option ρ) (g:Unit→Option ρ):Option ρ :=
  ifb (ilt a c) (Ĭ b a fun h=>ifb (ieq h.1 d) (f a) (ck (a+(1:Int)) fun i=>e i)) (g ())
def ip (c:Val am) (b:Int) (d:Val aa) (e:Int) (f:Int) (a:Int) (g:Int→Option ρ) (h:Int→Option ρ) (i:Unit→Option ρ):Option ρ :=
  ifb (ilt a e) (Ĭ d a fun j=>Ã (iC c j f) fun k=>ifb (ieq k b) (h b) (ck (a+(1:Int)) fun l=>g l)) (i ())
def Ŏ (d:Val am) (b:Val aa) (e:Int) (f:Int) (c:Val aa) (a:Int) (g:Int→Option ρ) (h:Int→Option ρ) (i:Unit→Option ρ):Option ρ :=
  ifb (ilt a e) (ß ((ile 0 a)&&(ilt a (ì c))) (ĸ c (Int.toNat a) fun j=>Ê (fun(k:Int) l=>ip d j b (Ø b) f k (fun m=>l m) (fun n=>h n) (fun _=>ck (a+(1:Int)) fun o=>g o)) (0:Int))) (i ())
def ō (b:Val aa) (c:Int) (d:Int) (e:Int) (f:Val af) (g:Val ab) (h:Val ah) (i:Val ac) (j:Val ab) (k:Int) (a:Int) (l:Int→Option ρ) (m:Int→Option ρ) (n:Unit→Option ρ):Option ρ :=
  ifb (ilt a c) (Ĭ b a fun o=>Ã (vr ((d,e),f,g,h,i,j) o k) fun p=>ifb p.2 (m (9:Int)) (ck (a+(1:Int)) fun q=>l q)) (n ())
def nW (b:Val È) (f:Val am) (c:Int) (k:Int→Option ρ):Option ρ :=
  Ĭ b.2.2.2.2.1 c fun a=>Ã (Ę a.1 (1:Int) (1099511627776:Int)) fun l=>ifb (!l) (k (1:Int)) (Ã (ln a.2.1) fun m=>ifb (!m) (k (1:Int)) (Ã (Ę a.2.2.2.2.1 (-1125899906842624:Int) (1125899906842624:Int)) fun n=>ifb (!n) (k (1:Int)) (Ã (Ę a.2.2.2.2.2.1 (0:Int) (1073741824:Int)) fun o=>ifb (!o) (k (1:Int)) (Ã (Γ a.2.2.2.2.2.2 (-10000:Int) (10000:Int)) fun p=>ifb (!p) (k (1:Int)) (Ã (mr a.2.2.1) fun q=>ifb (!q) (k (1:Int)) (Ã (mr a.2.2.2.1) fun r=>ifb (!r) (k (1:Int)) (ß ((ile 0 c)&&(ile c (ì b.2.2.2.2.1))) (Ê (fun(s:Int) t=>iq (List.take (Int.toNat c) b.2.2.2.2.1) (Ø (List.take (Int.toNat c) b.2.2.2.2.1)) a.1 s (fun u=>t u) (fun v=>ifb (ige v 0) (k (6:Int)) (Ã (Ħ ([a.2.2.1,a.2.2.2.1])) fun d=>Ê (fun(w:Int) x=>Ŏ f d (Ø ([(5:Int),(4:Int)])) a.2.1 ([(5:Int),(4:Int)]) w (fun y=>x y) (fun z=>k z) (fun _=>Ê (fun(A:Int) B=>ō d (Ø d) b.1.1 b.1.2 b.2.1 b.2.2.1 b.2.2.2.1 b.2.2.2.2.1 b.2.2.2.2.2 a.2.1 A (fun C=>B C) (fun D=>k D) (fun _=>Ã (Ι a.2.2.1 a.2.2.2.1) fun g=>Ã (Ι a.2.2.2.1 a.2.2.1) fun h=>ifb (igt (Ø g) 1) (k (1:Int)) (ifb (igt (Ø h) 1) (k (1:Int)) (ck ((Ø g)+(Ø h)) fun E=>ifb (ieq E 0) (k (1:Int)) (k (0:Int)))))) (0:Int))) (0:Int))) (fun _=>Ã (Ħ ([a.2.2.1,a.2.2.2.1])) fun e=>Ê (fun(F:Int) G=>Ŏ f e (Ø ([(5:Int),(4:Int)])) a.2.1 ([(5:Int),(4:Int)]) F (fun H=>G H) (fun I=>k I) (fun _=>Ê (fun(J:Int) K=>ō e (Ø e) b.1.1 b.1.2 b.2.1 b.2.2.1 b.2.2.2.1 b.2.2.2.2.1 b.2.2.2.2.2 a.2.1 J (fun L=>K L) (fun M=>k M) (fun _=>Ã (Ι a.2.2.1 a.2.2.2.1) fun i=>Ã (Ι a.2.2.2.1 a.2.2.1) fun j=>ifb (igt (Ø i) 1) (k (1:Int)) (ifb (igt (Ø j) 1) (k (1:Int)) (ck ((Ø i)+(Ø j)) fun N=>ifb (ieq N 0) (k (1:Int)) (k (0:Int)))))) (0:Int))) (0:Int))) (0:Int)))))))))
def ň (a:Val È) (b:Val am) (c:Int):Option (Int):=nW a b c some
def nB (b:Val È) (s:Val am):Option (List Int) :=
  Ã (Jb (fun u=>ľ u.1 u.2 s) (b.2.2.1:List (Int×Int))) fun a=>Ã (Jb (fun i=>Κ b s i) (wn (b.2.2.2.1:List (Val η)).length)) fun c =>
    Ã (Jb (fun i=>ň b s i) (wn (b.2.2.2.2.1:List (Val ã)).length)) fun d=>Ã (Jb (fun u=>ľ u.1 u.2 s) (b.2.2.2.2.2:List (Int×Int))) fun e=>some (a++(c++(d++e)))
def KL (a:Val È) (k:Int→Option ρ):Option ρ :=
  Ã (Γ a.1 (0:Int) (1000000:Int)) fun d=>ifb (!d) (k (1:Int)) (ifb (igt (Ø a.2.1) 12) (k (2:Int)) (ifb (igt (Ø a.2.2.1) 40) (k (2:Int)) (ifb (igt (Ø a.2.2.2.1) 12) (k (2:Int)) (ifb (igt (Ø a.2.2.2.2.1) 40) (k (2:Int)) (ifb (igt (Ø a.2.2.2.2.2) 10) (k (2:Int)) (Ã (Ÿ a) fun b=>ifb (ine b 0) (k b) (Ã (Ľ a) fun e=>SG (nB a e) (fun f=>k f) (Ã (pK a) fun c=>ifb (igt (Ø c) 59) (k (2:Int)) (ck ((2:Int)*(Ø a.2.1)) fun g=>ck ((Ø c)-(Ø a.2.1)) fun h=>ck ((2:Int)*h) fun i=>ck (g+i) fun j=>ck ((2:Int)*(Ø a.2.2.2.2.1)) fun l=>ck (j+l) fun m=>ifb (igt m 300) (k (2:Int)) (k (0:Int)))))))))))
def ī (a:Val È):Option (Int):=KL a some
def DZ (a:List Int):Option (Int×Int×Int×Int×Int):=some (a.getD 0 0,a.getD 1 0,a.getD 2 0,a.getD 3 0,a.getD 4 0)
def oi (b:Val ac) (a:Int) (e:Int→Option ρ) (c:Bool→Option ρ) (d:Unit→Option ρ):Option ρ :=
  ifb (ilt a (Ø b)) (ifb (ilt a 60) (Ĭ b a fun f=>ifb (igt (Ø f.2.2.1) 9) (c false) (Ĭ b a fun g=>ifb (igt (Ø g.2.2.2.1) 9) (c false) (ck (a+(1:Int)) fun h=>e h))) (d ())) (d ())
def kI (b:Val ai) (a:Int) (d:Int→Option ρ) (e:Bool→Option ρ) (c:Unit→Option ρ):Option ρ :=
  ifb (ilt a (Ø b)) (ifb (ilt a 8) (Ĭ b a fun f=>ifb (igt (Ø f.2) 9) (e false) (ck (a+(1:Int)) fun g=>d g)) (c ())) (c ())
def EM (a:Val Â) (k:Bool→Option ρ):Option ρ :=
  Ê (fun(b:Int) c=>oi a.1.2.2.2.2.1 b (fun d=>c d) (fun e=>k e) (fun _=>Ê (fun(f:Int) g=>kI a.2 f (fun h=>g h) (fun i=>k i) (fun _=>ifb (ile (Ø a.1.2.1) 6) (ifb (ile (Ø a.1.2.2.1) 20) (ifb (ile (Ø a.1.2.2.2.1) 6) (ifb (ile (Ø a.1.2.2.2.2.1) 8) (ifb (ile (Ø a.1.2.2.2.2.2) 6) (k (ile (Ø a.2) 6)) (k false)) (k false)) (k false)) (k false)) (k false))) (0:Int))) (0:Int)
def yI (a:Val Â):Option (Bool):=EM a some
def rc (b:Val aa) (c:Int) (a:Int) (d:Int→Option ρ) (e:Int→Option ρ) (f:Unit→Option ρ):Option ρ :=
  ifb (ilt a c) (Ĭ b a fun g=>Ã (ln g) fun h=>ifb (!h) (e a) (ck (a+(1:Int)) fun i=>d i)) (f ())
def KE (a:Val È) (b:Int) (c:Val aa) (k:Int→Option ρ):Option ρ :=
  Ã (ī a) fun d=>ifb (ine d 0) (k d) (Ê (fun(e:Int) f=>rc c (Ø c) e (fun g=>f g) (fun h=>ifb (ige h 0) (k (1:Int)) (Ã (Ľ a) fun i=>L5 (k:=tI) (v:=Õ) b i (fun l=>k (0:Int)) (k (5:Int)))) (fun _=>Ã (Ľ a) fun j=>L5 (k:=tI) (v:=Õ) b j (fun m=>k (0:Int)) (k (5:Int)))) (0:Int))
def Ea (a:Val È) (b:Int) (c:Val aa):Option (Int):=KE a b c some
def Q3 (a:Val È) (b:Int) (c:Int) (k:Val aP→Option ρ):Option ρ :=
  Ã (Ea a b ([c])) fun d=>ifb (ine d 0) (k (false,d)) (Ã (vr a b c) fun e=>k (e.2,(0:Int)))
def yP (a:Val È) (b:Int) (c:Int):Option ((Val aP)):=Q3 a b c some
def mS (b:Val aa) (a:Int) (c:Int→Option ρ) (d:Int→Option ρ) (e:Unit→Option ρ):Option ρ :=
  ifb (ilt a (Ø b)) (Ĭ b a fun f=>ck (a-(1:Int)) fun g=>Ĭ b g fun h=>ifb (ile f h) (d (1:Int)) (ck (a+(1:Int)) fun i=>c i)) (e ())
def mR (d:Val af) (e:Int) (a:Int) (b:Val aW) (f:Int→Val aW→Option ρ) (g:Val aW→Option ρ):Option ρ :=
  ifb (ilt a e) (Ĭ d a fun c=>ck (a+(1:Int)) fun h=>f h (Oe (k:=tI) (v:=tI) c.1 c.2.1 b)) (g b)
def mQ (b:Val aa) (c:Int) (d:Val aW) (a:Int) (e:Int→Option ρ) (f:Int→Option ρ) (g:Unit→Option ρ):Option ρ :=
  ifb (ilt a c) (Ĭ b a fun h=>L5 (k:=tI) (v:=tI) h d (fun j=>ck (a+(1:Int)) fun i=>e i) (f a)) (g ())
def kj (e:Val aa) (f:Int) (b:Int) (g:Val aW) (a:Int) (c:Int→Option ρ) (d:Int→Option ρ) (h:Unit→Option ρ):Option ρ :=
  ifb (ilt a f) (Ĭ e a fun i=>L5 (k:=tI) (v:=tI) i g (fun j=>ifb (ilt b j) (d a) (ck (a+(1:Int)) fun l=>c l)) (ifb (ilt b 0) (d a) (ck (a+(1:Int)) fun m=>c m))) (h ())
def Ņ (l:Val aa) (m:Int) (b:Int) (c:Int) (d:Val af) (e:Val ab) (f:Val ah) (g:Val ac) (h:Val ab) (i:Int) (a:Int) (n:Int→Option ρ) (j:Int→Option ρ) (o:Unit→Option ρ):Option ρ :=
  ifb (ilt a m) (Ĭ l a fun k=>Ã (yP ((b,c),d,e,f,g,h) k i) fun p=>ck (i+(1:Int)) fun q=>Ã (yP ((b,c),d,e,f,g,h) k q) fun r=>ifb p.1 (j a) (ifb r.1 (j a) (ck (a+(1:Int)) fun s=>n s))) (o ())
def JC (a:Val È) (d:Val ai) (c:Int) (k:Int→Option ρ):Option ρ :=
  Ĭ d c fun b=>ifb (ilt b.1 0) (k (1:Int)) (ifb (ige b.1 20000) (k (1:Int)) (ifb (ilt (Ø b.2) 2) (k (1:Int)) (ifb (igt (Ø b.2) 5) (k (1:Int)) (Ê (fun(g:Int) h=>mS b.2 g (fun i=>h i) (fun j=>k j) (fun _=>Ê (fun(f:(Val (.pair tI aW))) l=>mR a.2.1 (Ø a.2.1) f.1 f.2 (fun m n=>l (m,n)) (fun e=>Ê (fun(o:Int) p=>mQ b.2 (Ø b.2) e o (fun q=>p q) (fun r=>ifb (ige r 0) (k (5:Int)) (Ê (fun(s:Int) t=>kj b.2 (Ø b.2) b.1 e s (fun u=>t u) (fun v=>ifb (ige v 0) (k (4:Int)) (ifb (igt c 0) (ck (c-(1:Int)) fun w=>Ĭ d w fun x=>ifb (ile b.1 x.1) (k (6:Int)) (Ê (fun(y:Int) z=>Ņ b.2 (Ø b.2) a.1.1 a.1.2 a.2.1 a.2.2.1 a.2.2.2.1 a.2.2.2.2.1 a.2.2.2.2.2 b.1 y (fun A=>z A) (fun B=>ifb (ige B 0) (k (9:Int)) (k (0:Int))) (fun _=>k (0:Int))) (0:Int))) (Ê (fun(C:Int) D=>Ņ b.2 (Ø b.2) a.1.1 a.1.2 a.2.1 a.2.2.1 a.2.2.2.1 a.2.2.2.2.1 a.2.2.2.2.2 b.1 C (fun E=>D E) (fun F=>ifb (ige F 0) (k (9:Int)) (k (0:Int))) (fun _=>k (0:Int))) (0:Int)))) (fun _=>ifb (igt c 0) (ck (c-(1:Int)) fun G=>Ĭ d G fun H=>ifb (ile b.1 H.1) (k (6:Int)) (Ê (fun(I:Int) J=>Ņ b.2 (Ø b.2) a.1.1 a.1.2 a.2.1 a.2.2.1 a.2.2.2.1 a.2.2.2.2.1 a.2.2.2.2.2 b.1 I (fun K=>J K) (fun L=>ifb (ige L 0) (k (9:Int)) (k (0:Int))) (fun _=>k (0:Int))) (0:Int))) (Ê (fun(M:Int) N=>Ņ b.2 (Ø b.2) a.1.1 a.1.2 a.2.1 a.2.2.1 a.2.2.2.1 a.2.2.2.2.1 a.2.2.2.2.2 b.1 M (fun O=>N O) (fun P=>ifb (ige P 0) (k (9:Int)) (k (0:Int))) (fun _=>k (0:Int))) (0:Int)))) (0:Int))) (fun _=>Ê (fun(Q:Int) R=>kj b.2 (Ø b.2) b.1 e Q (fun S=>R S) (fun T=>ifb (ige T 0) (k (4:Int)) (ifb (igt c 0) (ck (c-(1:Int)) fun U=>Ĭ d U fun V=>ifb (ile b.1 V.1) (k (6:Int)) (Ê (fun(W:Int) X=>Ņ b.2 (Ø b.2) a.1.1 a.1.2 a.2.1 a.2.2.1 a.2.2.2.1 a.2.2.2.2.1 a.2.2.2.2.2 b.1 W (fun Y=>X Y) (fun Z=>ifb (ige Z 0) (k (9:Int)) (k (0:Int))) (fun _=>k (0:Int))) (0:Int))) (Ê (fun(dc:Int) df=>Ņ b.2 (Ø b.2) a.1.1 a.1.2 a.2.1 a.2.2.1 a.2.2.2.1 a.2.2.2.2.1 a.2.2.2.2.2 b.1 dc (fun dg=>df dg) (fun dh=>ifb (ige dh 0) (k (9:Int)) (k (0:Int))) (fun _=>k (0:Int))) (0:Int)))) (fun _=>ifb (igt c 0) (ck (c-(1:Int)) fun di=>Ĭ d di fun dj=>ifb (ile b.1 dj.1) (k (6:Int)) (Ê (fun(dk:Int) dl=>Ņ b.2 (Ø b.2) a.1.1 a.1.2 a.2.1 a.2.2.1 a.2.2.2.1 a.2.2.2.2.1 a.2.2.2.2.2 b.1 dk (fun dm=>dl dm) (fun dt=>ifb (ige dt 0) (k (9:Int)) (k (0:Int))) (fun _=>k (0:Int))) (0:Int))) (Ê (fun(du:Int) dv=>Ņ b.2 (Ø b.2) a.1.1 a.1.2 a.2.1 a.2.2.1 a.2.2.2.1 a.2.2.2.2.1 a.2.2.2.2.2 b.1 du (fun dw=>dv dw) (fun dz=>ifb (ige dz 0) (k (9:Int)) (k (0:Int))) (fun _=>k (0:Int))) (0:Int)))) (0:Int))) (0:Int))) ((0:Int),[]))) (1:Int)))))
def D2 (a:Val È) (b:Val ai) (c:Int):Option (Int):=JC a b c some
def mT (c:Int) (b:Int) (a:Int) (d:Int→Int→Option ρ) (e:Int→Option ρ):Option ρ :=
  ifb (ilt a c) (ck (a+(1:Int)) fun f=>ck (b*f) fun g=>ck (a+(1:Int)) fun h=>d g h) (e b)
def qL (e:Val ai) (f:Int) (g:Int) (h:Int) (i:Val af) (j:Val ab) (k:Val ah) (l:Val ac) (m:Val ab) (n:Val ai) (b:Int) (a:Int) (o:Int→Int→Option ρ) (p:Int→Option ρ) (q:Int→Option ρ):Option ρ :=
  ifb (ilt a f) (Ĭ e a fun r=>Ã (D2 ((g,h),i,j,k,l,m) n a) fun c=>ifb (ine c 0) (p c) (Ê (fun(d:Val Ä) s=>mT (Ø r.2) d.1 d.2 (fun t u=>s (t,u)) (fun v=>ck (a+(1:Int)) fun w=>o v w)) (b,(0:Int)))) (q b)
def JR (a:Val Â) (k:Int→Option ρ):Option ρ :=
  Ã (ī a.1) fun b=>ifb (ine b 0) (k b) (ifb (igt (Ø a.2) 4) (k (2:Int)) (Ê (fun(c:Val Ä) d=>qL a.2 (Ø a.2) a.1.1.1 a.1.1.2 a.1.2.1 a.1.2.2.1 a.1.2.2.2.1 a.1.2.2.2.2.1 a.1.2.2.2.2.2 a.2 c.1 c.2 (fun e f=>d (e,f)) (fun g=>k g) (fun h=>ifb (igt h 150) (k (2:Int)) (k (0:Int)))) ((1:Int),(0:Int))))
def ŗ (a:Val Â):Option (Int):=JR a some
def Ĥ (c:Val ab) (d:Int) (e:Int) (f:Int) (a:Int) (g:Int→Option ρ) (h:Int→Option ρ) (i:Unit→Option ρ):Option ρ :=
  ifb (ilt a d) (Ĭ c a fun b=>ifb ((AB e b.1)&&((AB f b.2)&&true)) (h a) (ck (a+(1:Int)) fun j=>g j)) (i ())
def Ŷ (a:Val ab) (b:Val Ä) (k:Int→Option ρ):Option ρ :=
  Ê (fun(c:Int) d=>Ĥ a (Ø a) b.1 b.2 c (fun e=>d e) (fun f=>k f) (fun _=>k (-1:Int))) (0:Int)
def ó (a:Val ab) (b:Val Ä):Option (Int):=Ŷ a b some
def xI (b:Val aT) (a:Val aa) (c:Int) (k:Int→Option ρ):Option ρ :=
  ifb (ieq (Ø a) 0) (k (0:Int)) (Ĭ a (0:Int) fun d=>Ã (ó b.2.1 (d,c)) fun e=>ck (e+(1:Int)) fun f=>k f)
def kq (a:Val aT) (b:Val aa) (c:Int):Option (Int):=xI a b c some
def uV (f:Int) (g:Int) (h:Val ah) (i:Int) (j:Int) (b:Int) (a:Int) (d:Int→Int→Option ρ) (k:Int→Option ρ):Option ρ :=
  ifb (ilt a i) (Ĭ h a fun c=>ck (g-(1:Int)) fun l=>ck ((Yv c.2.1.2 l)-(WU c.2.1.1 f)) fun m=>ck (m+1) fun e=>ifb (ieq c.1 j) (ifb (igt e 0) (ck (e*c.2.2) fun n=>ck (b+n) fun o=>ck (a+(1:Int)) fun p=>d o p) (ck (a+(1:Int)) fun q=>d b q)) (ck (a+(1:Int)) fun r=>d b r)) (k b)
def uU (e:Int) (f:Int) (g:Val ab) (h:Int) (i:Int) (a:Int) (b:Val aa) (d:Int→Val aa→Option ρ) (j:Val aa→Option ρ):Option ρ :=
  ifb (ilt a h) (Ĭ g a fun c=>ifb (ieq c.1 i) (ck (f-(1:Int)) fun k=>Ã (Ę c.2 e k) fun l=>ifb l (ß (æ ((List.length b)+(List.length ([c.2])))) (ck (a+(1:Int)) fun m=>d m (b++([c.2])))) (ck (a+(1:Int)) fun n=>d n b)) (ck (a+(1:Int)) fun o=>d o b)) (j b)
def QI (a:Val È) (b:Val Õ) (d:Int) (e:Int) (k:Int→Option ρ):Option ρ :=
  Ê (fun(f:Val Ä) h=>uV d e a.2.2.2.1 (Ø a.2.2.2.1) b.1 f.1 f.2 (fun i j=>h (i,j)) (fun l=>Ê (fun(g:Val Ğ) m=>uU d e a.2.2.1 (Ø a.2.2.1) b.1 g.1 g.2 (fun n o=>m (n,o)) (fun c=>ß (æ (List.length c)) (ß (æ (List.length (wt c))) (ck ((Ø (yU (wt c)))*b.2.2.2.2.2) fun p=>ck (l+p) fun q=>k q)))) ((0:Int),[]))) ((0:Int),(0:Int))
def yO (a:Val È) (b:Val Õ) (c:Int) (d:Int):Option (Int):=QI a b c d some
def nV (b:Val am) (a:Val aa) (k:Val Ä→Option ρ):Option ρ :=
  ifb (ieq (Ø a) 0) (k ((0:Int),(1:Int))) (Ĭ a (0:Int) fun c=>L5 (k:=tI) (v:=Õ) c b (fun d=>k d.2.2.2.2.1) (k ((0:Int),(0:Int))))
def iy (a:Val am) (b:Val aa):Option (Val Ä):=nV a b some
def qS (b:Val ab) (c:Int) (a:Int) (d:Int→Option ρ) (e:Int→Option ρ) (f:Unit→Option ρ):Option ρ :=
  ifb (ilt a c) (Ĭ b a fun g=>Ã (tK g) fun h=>ifb (!h) (e (1:Int)) (ck (a+(1:Int)) fun i=>d i)) (f ())
def Kb (a:Val ab) (k:Int→Option ρ):Option ρ :=
  Ê (fun(b:Int) c=>qS a (Ø a) b (fun d=>c d) (fun e=>k e) (fun _=>k (0:Int))) (0:Int)
def jK (a:Val ab):Option (Int):=Kb a some
def Bn (d:Int) (e:Int) (k:Val BV→Option ρ):Option ρ :=
  Ã (rr d) fun b=>Ã (rr e) fun c=>Ã (Lj b c) fun a=>ifb (AB a 0) (none) (ifb (AB a 0) (none) (ifb (igt (IntKind.wrap .u64 (Int.tdiv b a)) 2147483647) (k (((0:Int),(0:Int)),(3:Int))) (ifb (igt (IntKind.wrap .u64 (Int.tdiv c a)) 2147483647) (k (((0:Int),(0:Int)),(3:Int))) (ifb (!((ilt d 0)==(ilt e 0))) (ck (0-(IntKind.wrap .i64 (IntKind.wrap .u64 (Int.tdiv b a)))) fun f=>k ((f,(IntKind.wrap .i64 (IntKind.wrap .u64 (Int.tdiv c a)))),(0:Int))) (k (((IntKind.wrap .i64 (IntKind.wrap .u64 (Int.tdiv b a))),(IntKind.wrap .i64 (IntKind.wrap .u64 (Int.tdiv c a)))),(0:Int)))))))
def pJ (a:Int) (b:Int):Option (Val BV):=Bn a b some
def Wz (a:Val Ä) (b:Val Ä) (k:Val BV→Option ρ):Option ρ :=
  Ã (jK ([a,b])) fun c=>ifb (ine c 0) (k (((0:Int),(0:Int)),c)) (ck (a.1*b.2) fun e=>ck (b.1*a.2) fun f=>ck (e-f) fun g=>ck (a.2*b.2) fun h=>Ã (pJ g h) fun d=>k (d.1,d.2))
def Rr (a:Val Ä) (b:Val Ä):Option (Val BV):=Wz a b some
def uP (a:Val Ä) (b:Val Ä) (k:Val Ä→Option ρ):Option ρ :=
  Ã (Rr a b) fun c=>k c.1
def vp (a:Val Ä) (b:Val Ä):Option (Val Ä):=uP a b some
def Ww (a:Val Ä) (b:Val Ä) (k:Int→Option ρ):Option ρ :=
  ck (a.1*b.2) fun c=>ck (b.1*a.2) fun d=>ifb ((AB a.1 b.1)&&((AB a.2 b.2)&&true)) (k (0:Int)) (ifb (ilt c d) (k (-1:Int)) (ifb (igt c d) (k (1:Int)) (k (0:Int))))
def Ll (a:Val Ä) (b:Val Ä):Option (Int):=Ww a b some
def rP (a:Val Ĕ) (k:Bool→Option ρ):Option ρ :=
  Ã (jK ([a.1,a.2])) fun b=>ifb (ieq b 0) (Ã (Ll a.1 a.2) fun c=>k (ile c 0)) (k false)
def sc (a:Val Ĕ):Option (Bool):=rP a some
def WE (a:Val Ä) (b:Val Ä) (k:Val BV→Option ρ):Option ρ :=
  Ã (jK ([a,b])) fun c=>ifb (ine c 0) (k (((0:Int),(0:Int)),c)) (ck (a.1*b.1) fun e=>ck (a.2*b.2) fun f=>Ã (pJ e f) fun d=>k (d.1,d.2))
def Ln (a:Val Ä) (b:Val Ä):Option (Val BV):=WE a b some
def Kk (c:Val Ĕ) (d:Val Ä) (k:Val aaX→Option ρ):Option ρ :=
  Ã (sc c) fun e=>ifb (!e) (k ((((0:Int),(0:Int)),(0:Int),(0:Int)),(1:Int))) (Ã (tK d) fun f=>ifb (!f) (k ((((0:Int),(0:Int)),(0:Int),(0:Int)),(1:Int))) (Ã (Ln d c.1) fun a=>ifb (ine a.2 0) (k ((((0:Int),(0:Int)),(0:Int),(0:Int)),a.2)) (Ã (Ln d c.2) fun b=>ifb (ine b.2 0) (k ((((0:Int),(0:Int)),(0:Int),(0:Int)),b.2)) (Ã (Ll a.1 b.1) fun g=>ifb (igt g 0) (k ((b.1,a.1),(0:Int))) (k ((a.1,b.1),(0:Int)))))))
def Lm (a:Val Ĕ) (b:Val Ä):Option (Val aaX):=Kk a b some
def uO (b:Val Ä) (a:Val Ä) (k:Val Ĕ→Option ρ):Option ρ :=
  Ã (Lm ((a.1,(1:Int)),a.2,(1:Int)) b) fun c=>k c.1
def oC (a:Val Ä) (b:Val Ä):Option (Val Ĕ):=uO a b some
def FB (c:Val È) (a:Val ã) (k:Val Ĕ→Option ρ):Option ρ :=
  Ã (Ľ c) fun b=>Ã (Ι a.2.2.1 a.2.2.2.1) fun d=>Ã (iy b d) fun e=>Ã (Ι a.2.2.2.1 a.2.2.1) fun f=>Ã (iy b f) fun g=>Ã (vp e g) fun h=>Ã (oC h a.2.2.2.2.2.2) fun i=>k i
def tM (a:Val È) (b:Val ã):Option (Val Ĕ):=FB a b some
def KC (a:Val È) (b:Val ã) (k:Val Ä→Option ρ):Option ρ :=
  ck ((Ø b.2.2.1)-(1:Int)) fun c=>ck ((Ø b.2.2.2.1)-(1:Int)) fun d=>ck ((WU (0:Int) c)*a.1.1) fun e=>ck ((WU (0:Int) d)*a.1.2) fun f=>ck (e-f) fun g=>ck ((WU (0:Int) c)*a.1.2) fun h=>ck ((WU (0:Int) d)*a.1.1) fun i=>ck (h-i) fun j=>k (g,j)
def xX (a:Val È) (b:Val ã):Option (Val Ä):=KC a b some
def Kh (b:Int) (a:Int) (k:Int→Option ρ):Option ρ :=
  ifb (AB a 0) (none) (ck (Int.tdiv b a) fun c=>ifb (AB a 0) (none) (ifb (ilt (Int.tmod b a) 0) (ck (c-1) fun d=>k d) (k c)))
def xW (a:Int) (b:Int):Option (Int):=Kh a b some
def QC (a:Val Ä) (k:Val Ä→Option ρ):Option ρ :=
  Ã (jK ([a])) fun b=>ifb (ine b 0) (k ((0:Int),b)) (ck (0-a.1) fun c=>Ã (xW c a.2) fun d=>ck (0-d) fun e=>k (e,(0:Int)))
def Io (a:Val Ä):Option (Val Ä):=QC a some
def Km (a:Val Ä) (k:Val Ä→Option ρ):Option ρ :=
  Ã (jK ([a])) fun b=>ifb (ine b 0) (k ((0:Int),b)) (Ã (xW a.1 a.2) fun c=>k (c,(0:Int)))
def D9 (a:Val Ä):Option (Val Ä):=Km a some
def QE (b:Val È) (a:Val ã) (k:Val Ä→Option ρ):Option ρ :=
  Ã (tM b a) fun c=>Ã (xX b a) fun d=>Ã (D9 c.2) fun e=>Ã (Io c.1) fun f=>ck (a.2.2.2.2.1-a.2.2.2.2.2.1) fun g=>ck (g-d.2) fun h=>ck (h-e.1) fun i=>ck (a.2.2.2.2.1+a.2.2.2.2.2.1) fun j=>ck (j-d.1) fun l=>ck (l-f.1) fun m=>k (i,m)
def yN (a:Val È) (b:Val ã):Option (Val Ä):=QE a b some
def uS (b:Int) (e:Val aa) (h:Int) (j:Int) (k:Int) (l:Val af) (m:Val ab) (n:Val ah) (o:Val ac) (p:Val ab) (q:Int) (r:Int) (s:Int) (t:Int) (u:Int) (v:Int) (w:Int) (x:Int) (a:Int) (f:Val ak) (g:Val ab) (y:Int→Val ak→Val ab→Option ρ) (z:Val BU→Option ρ):Option ρ :=
  ifb (ilt a (Ø e)) (ck (h+a) fun A=>ck (A-1) fun c=>ck (h+a) fun d=>ck (a-(1:Int)) fun B=>Ĭ e B fun C=>Ĭ e a fun D=>Ã (yO ((j,k),l,m,n,o,p) (q,r,s,(t,u),(v,w),x) C D) fun E=>ck (0-E) fun F=>ck (0-F) fun i=>ß (æ ((List.length f)+(List.length ([(c,d,(0:Int)),(d,c,i)])))) (ß (æ ((List.length g)+(List.length ([((2:Int),b),((2:Int),b)])))) (ck (a+(1:Int)) fun G=>y G (f++([(c,d,(0:Int)),(d,c,i)])) (g++([((2:Int),b),((2:Int),b)]))))) (z (f,g))
def uT (q:Val af) (r:Int) (f:Int) (g:Int) (h:Val af) (i:Val ab) (j:Val ah) (k:Val ac) (l:Val ab) (s:Val ab) (t:Int) (b:Int) (d:Val ak) (e:Val ab) (u:Int→Val ak→Val ab→Option ρ) (v:Val BU→Option ρ):Option ρ :=
  ifb (ilt b r) (Ĭ q b fun a=>Ã (oD ((f,g),h,i,j,k,l) a) fun w=>Ã (kq (((f,g),h,i,j,k,l),s,(t,d),e) ([a.1]) a.2.1) fun c=>ck (a.2.2.1+a.2.2.2.1.1) fun x=>ck (a.2.2.1+a.2.2.2.1.2) fun n=>ck (0-x) fun o=>ß (æ ((List.length d)+(List.length ([((0:Int),c,n),(c,(0:Int),o)])))) (ß (æ ((List.length e)+(List.length ([((1:Int),b),((1:Int),b)])))) (Ê (fun(m:(Val (.pair tI BU))) y=>uS b w c f g h i j k l a.1 a.2.1 a.2.2.1 a.2.2.2.1.1 a.2.2.2.1.2 a.2.2.2.2.1.1 a.2.2.2.2.1.2 a.2.2.2.2.2 m.1 m.2.1 m.2.2 (fun z A B=>y (z,A,B)) (fun p=>ck (b+(1:Int)) fun C=>u C p.1 p.2)) ((1:Int),(d++([((0:Int),c,n),(c,(0:Int),o)])),(e++([((1:Int),b),((1:Int),b)])))))) (v (d,e))
def uR (r:Val ac) (s:Int) (g:Int) (h:Int) (i:Val af) (j:Val ab) (k:Val ah) (l:Val ac) (m:Val ab) (o:Val ab) (p:Int) (a:Int) (c:Val ak) (d:Val ab) (t:Int→Val ak→Val ab→Option ρ) (u:Val BU→Option ρ):Option ρ :=
  ifb (ilt a s) (Ĭ r a fun b=>Ã (Ι b.2.2.2.1 b.2.2.1) fun v=>Ã (kq (((g,h),i,j,k,l,m),o,(p,c),d) v b.2.1) fun e=>Ã (Ι b.2.2.1 b.2.2.2.1) fun w=>Ã (kq (((g,h),i,j,k,l,m),o,(p,c),d) w b.2.1) fun f=>Ã (yN ((g,h),i,j,k,l,m) b) fun n=>ck (0-n.1) fun q=>ß (æ ((List.length c)+(List.length ([(e,f,n.2),(f,e,q)])))) (ß (æ ((List.length d)+(List.length ([((3:Int),a),((3:Int),a)])))) (ck (a+(1:Int)) fun x=>t x (c++([(e,f,n.2),(f,e,q)])) (d++([((3:Int),a),((3:Int),a)]))))) (u (c,d))
def QH (a:Val È) (k:Val aT→Option ρ):Option ρ :=
  Ã (pK a) fun b=>ck ((Ø b)+(1:Int)) fun c=>Ê (fun(d:(Val (.pair tI BU))) h=>uT a.2.1 (Ø a.2.1) a.1.1 a.1.2 a.2.1 a.2.2.1 a.2.2.2.1 a.2.2.2.2.1 a.2.2.2.2.2 b c d.1 d.2.1 d.2.2 (fun i j l=>h (i,j,l)) (fun f=>Ê (fun(e:(Val (.pair tI BU))) m=>uR a.2.2.2.2.1 (Ø a.2.2.2.2.1) a.1.1 a.1.2 a.2.1 a.2.2.1 a.2.2.2.1 a.2.2.2.2.1 a.2.2.2.2.2 b c e.1 e.2.1 e.2.2 (fun n o p=>m (n,o,p)) (fun g=>k (a,b,(c,g.1),g.2))) ((0:Int),f.1,f.2))) ((0:Int),[],[])
def Ip (a:Val È):Option ((Val aT)):=QH a some
def FI (a:Val È) (k:(Val (.pair Ì bg))→Option ρ):Option ρ :=
  Ã (ī a) fun b=>ifb (ine b 0) (k (((0:Int),[]),[],b)) (Ã (Ip a) fun c=>k (c.2.2.1,c.2.2.2,(0:Int)))
def iD (a:Val È):Option ((Val (.pair Ì bg))):=FI a some
def yu (f:Val aj) (g:Int) (d:Val ai) (b:Int) (a:Int) (c:Int→Int→Option ρ) (h:Int→Option ρ):Option ρ :=
  ifb (ige a 0) (Ĭ f a fun i=>Ã (gT i b) fun e=>ifb (ige e 0) (Ĭ d a fun j=>ifb (ilt j.1 g) (Ĭ d a fun k=>Ĭ k.2 e fun l=>ck (a-(1:Int)) fun m=>c l m) (ck (a-(1:Int)) fun n=>c b n)) (ck (a-(1:Int)) fun o=>c b o)) (h b)
def VY (a:Val Â) (c:Val aj) (d:Int) (e:Int) (k:Int→Option ρ):Option ρ :=
  ck ((Ø a.2)-(1:Int)) fun f=>Ê (fun(b:Val Ä) g=>yu c e a.2 b.1 b.2 (fun h i=>g (h,i)) (fun j=>k j)) (d,f)
def sa (a:Val Â) (b:Val aj) (c:Int) (d:Int):Option (Int):=VY a b c d some
def iK (d:Int) (e:Val ar) (f:Val aF) (g:Val aa) (h:Int) (a:Int) (b:Val aa) (i:Int→Val aa→Option ρ) (j:Val aa→Option ρ):Option ρ :=
  ifb (ilt a h) (Ĭ g a fun k=>Ã (sa e f k d) fun c=>ß (æ ((List.length b)+(List.length ([c])))) (ck (a+(1:Int)) fun l=>i l (b++([c])))) (j b)
def pb (a:Val aa) (d:Int) (e:Val ar) (f:Val aF) (k:Val aa→Option ρ):Option ρ :=
  Ê (fun(b:Val Ğ) g=>iK d e f a (Ø a) b.1 b.2 (fun h i=>g (h,i)) (fun c=>ß (æ (List.length c)) (k (wt c)))) ((0:Int),[])
def i6 (a:Val aa) (b:Int) (c:Val ar) (d:Val aF):Option ((Val aa)):=pb a b c d some
def jT (e:Val ar) (f:Val aF) (g:Val ab) (h:Int) (b:Int) (c:Val ab) (i:Int→Val ab→Option ρ) (j:Val ab→Option ρ):Option ρ :=
  ifb (ilt b h) (Ĭ g b fun a=>Ã (sa e f a.1 a.2) fun d=>ß (æ ((List.length c)+(List.length ([(d,a.2)])))) (ck (b+(1:Int)) fun k=>i k (c++([(d,a.2)])))) (j c)
def jS (e:Val ar) (f:Val aF) (g:Val ah) (h:Int) (b:Int) (c:Val ah) (i:Int→Val ah→Option ρ) (j:Val ah→Option ρ):Option ρ :=
  ifb (ilt b h) (Ĭ g b fun a=>Ã (sa e f a.1 a.2.1.1) fun d=>ß (æ ((List.length c)+(List.length ([(d,a.2)])))) (ck (b+(1:Int)) fun k=>i k (c++([(d,a.2)])))) (j c)
def jR (d:Val ar) (e:Val aF) (h:Val ac) (i:Int) (b:Int) (c:Val ac) (j:Int→Val ac→Option ρ) (k:Val ac→Option ρ):Option ρ :=
  ifb (ilt b i) (Ĭ h b fun a=>Ã (i6 a.2.2.1 a.2.1 d e) fun f=>Ã (i6 a.2.2.2.1 a.2.1 d e) fun g=>ß (æ ((List.length c)+(List.length ([(a.1,a.2.1,f,g,a.2.2.2.2)])))) (ck (b+(1:Int)) fun l=>j l (c++([(a.1,a.2.1,f,g,a.2.2.2.2)])))) (k c)
def jQ (e:Val ar) (f:Val aF) (g:Val ab) (h:Int) (b:Int) (c:Val ab) (i:Int→Val ab→Option ρ) (j:Val ab→Option ρ):Option ρ :=
  ifb (ilt b h) (Ĭ g b fun a=>Ã (sa e f a.1 a.2) fun d=>ß (æ ((List.length c)+(List.length ([(d,a.2)])))) (ck (b+(1:Int)) fun k=>i k (c++([(d,a.2)])))) (j c)
def uk (a:Val Â) (b:Val aj) (k:Val È→Option ρ):Option ρ :=
  ß (æ (List.length a.1.2.1)) (Ê (fun(c:Val ba) g=>jT a b a.1.2.2.1 (Ø a.1.2.2.1) c.1 c.2 (fun h i=>g (h,i)) (fun j=>Ê (fun(d:(Val (.pair tI ah))) l=>jS a b a.1.2.2.2.1 (Ø a.1.2.2.2.1) d.1 d.2 (fun m n=>l (m,n)) (fun o=>Ê (fun(e:Val aH) p=>jR a b a.1.2.2.2.2.1 (Ø a.1.2.2.2.2.1) e.1 e.2 (fun q r=>p (q,r)) (fun s=>Ê (fun(f:Val ba) t=>jQ a b a.1.2.2.2.2.2 (Ø a.1.2.2.2.2.2) f.1 f.2 (fun u v=>t (u,v)) (fun w=>k (a.1.1,a.1.2.1,j,o,s,w))) ((0:Int),[]))) ((0:Int),[]))) ((0:Int),[]))) ((0:Int),[]))
def iu (a:Val Â) (b:Val aj):Option (Val È):=uk a b some
def Qg (b:Val Ì) (a:Int) (k:Bool→Option ρ):Option ρ :=
  ifb (ige a 0) (k (ilt a b.1)) (k false)
def yM (a:Val Ì) (b:Int):Option (Bool):=Qg a b some
def qR (f:Val ak) (g:Int) (d:Int) (e:Val ak) (a:Int) (h:Int→Option ρ) (c:Val Ä→Option ρ) (i:Unit→Option ρ):Option ρ :=
  ifb (ilt a g) (Ĭ f a fun b=>Ã (yM (d,e) b.1) fun j=>ifb (!j) (c ((1:Int),a)) (Ã (yM (d,e) b.2.1) fun k=>ifb (!k) (c ((1:Int),a)) (ifb (ieq b.1 b.2.1) (c ((1:Int),a)) (ifb (ilt b.2.2 (-4503599627370496:Int)) (c ((1:Int),a)) (ifb (igt b.2.2 4503599627370496) (c ((1:Int),a)) (ck (a+(1:Int)) fun l=>h l)))))) (i ())
def J9 (a:Val Ì) (k:Val Ä→Option ρ):Option ρ :=
  ifb (ilt a.1 1) (k ((1:Int),(-1:Int))) (ifb (igt a.1 60) (k ((1:Int),(-1:Int))) (ifb (igt (Ø a.2) 300) (k ((2:Int),(-1:Int))) (Ê (fun(c:Int) d=>qR a.2 (Ø a.2) a.1 a.2 c (fun e=>d e) (fun b=>k (b.1,b.2)) (fun _=>k ((0:Int),(-1:Int)))) (0:Int))))
def pI (a:Val Ì):Option (Val Ä):=J9 a some
def gS (c:Val ak) (d:Int) (b:Int) (a:Int) (e:Int→Int→Option ρ) (f:Int→Option ρ):Option ρ :=
  ifb (ilt a d) (Ĭ c a fun g=>ck (b+(Yv g.2.2 (0:Int))) fun h=>ck (a+(1:Int)) fun i=>e h i) (f b)
def Ŗ (f:Int) (d:Val aa) (a:Int) (b:Val aq) (c:Val aa) (e:Int→Val aq→Val aa→Option ρ) (g:Val aL→Option ρ):Option ρ :=
  ifb (ilt a f) (ß ((ile 0 a)&&(ilt a (ì d))) (ĸ d (Int.toNat a) fun h=>ifb (ine h 1152921504606846976) (ß (æ ((List.length c)+(List.length ([a])))) (ß ((ile 0 a)&&(ilt a (ì b))) (ĸ b (Int.toNat a) fun k=>ck (a+(1:Int)) fun i=>e i (List.set b (Int.toNat a) true) (c++([a]))))) (ck (a+(1:Int)) fun j=>e j b c))) (g (b,c))
def iV (m:Val ao) (j:Int) (d:Int) (n:Val ak) (o:Int) (f:Int) (b:Val aa) (c:Val aq) (e:Val aa) (g:Int→Val aa→Val aq→Val aa→Option ρ) (l:(Val (.pair .bool (.pair aa aL)))→Option ρ) (p:(Val (.pair aa aL))→Option ρ):Option ρ :=
  ifb (ilt f o) (Ĭ n f fun a=>ifb (ine a.1 d) (ck (f+(1:Int)) fun q=>g q b c e) (L5 (k:=tI) (v:=.bool) f m (fun r=>ifb r (ck (f+(1:Int)) fun s=>g s b c e) (ß ((ile 0 d)&&(ilt d (ì b))) (ĸ b (Int.toNat d) fun t=>ck (t+a.2.2) fun u=>ß ((ile 0 a.2.1)&&(ilt a.2.1 (ì b))) (ĸ b (Int.toNat a.2.1) fun w=>ifb (ige u w) (ck (f+(1:Int)) fun x=>g x b c e) (ß ((ile 0 d)&&(ilt d (ì b))) (ĸ b (Int.toNat d) fun y=>ck (y+a.2.2) fun h=>ß ((ile 0 a.2.1)&&(ilt a.2.1 (ì b))) (ĸ b (Int.toNat a.2.1) fun M=>ß ((ile 0 a.2.1)&&(ilt a.2.1 (ì (List.set b (Int.toNat a.2.1) h)))) (ĸ (List.set b (Int.toNat a.2.1) h) (Int.toNat a.2.1) fun z=>ifb (ilt z j) (l (false,(List.set b (Int.toNat a.2.1) h),c,e)) (ß ((ile 0 a.2.1)&&(ilt a.2.1 (ì c))) (ĸ c (Int.toNat a.2.1) fun A=>ifb (!A) (ß (æ ((List.length e)+(List.length ([a.2.1])))) (ß ((ile 0 a.2.1)&&(ilt a.2.1 (ì c))) (ĸ c (Int.toNat a.2.1) fun N=>ck (f+(1:Int)) fun B=>g B (List.set b (Int.toNat a.2.1) h) (List.set c (Int.toNat a.2.1) true) (e++([a.2.1]))))) (ck (f+(1:Int)) fun C=>g C (List.set b (Int.toNat a.2.1) h) c e))))))))))) (ß ((ile 0 d)&&(ilt d (ì b))) (ĸ b (Int.toNat d) fun D=>ck (D+a.2.2) fun E=>ß ((ile 0 a.2.1)&&(ilt a.2.1 (ì b))) (ĸ b (Int.toNat a.2.1) fun F=>ifb (ige E F) (ck (f+(1:Int)) fun G=>g G b c e) (ß ((ile 0 d)&&(ilt d (ì b))) (ĸ b (Int.toNat d) fun H=>ck (H+a.2.2) fun i=>ß ((ile 0 a.2.1)&&(ilt a.2.1 (ì b))) (ĸ b (Int.toNat a.2.1) fun O=>ß ((ile 0 a.2.1)&&(ilt a.2.1 (ì (List.set b (Int.toNat a.2.1) i)))) (ĸ (List.set b (Int.toNat a.2.1) i) (Int.toNat a.2.1) fun I=>ifb (ilt I j) (l (false,(List.set b (Int.toNat a.2.1) i),c,e)) (ß ((ile 0 a.2.1)&&(ilt a.2.1 (ì c))) (ĸ c (Int.toNat a.2.1) fun J=>ifb (!J) (ß (æ ((List.length e)+(List.length ([a.2.1])))) (ß ((ile 0 a.2.1)&&(ilt a.2.1 (ì c))) (ĸ c (Int.toNat a.2.1) fun P=>ck (f+(1:Int)) fun K=>g K (List.set b (Int.toNat a.2.1) i) (List.set c (Int.toNat a.2.1) true) (e++([a.2.1]))))) (ck (f+(1:Int)) fun L=>g L (List.set b (Int.toNat a.2.1) i) c e)))))))))))) (p (b,c,e))
def ĩ (l:Val ao) (m:Int) (n:Int) (k:Val ak) (h:Val aa) (d:Val aq) (b:Val aa) (c:Val aa) (o:Val aa→Val aq→Val aa→Val aa→Option ρ) (i:(Val (.pair .bool aM))→Option ρ):Option ρ :=
  ifb (ieq (Ø c) 0) (i (true,h,d,b,c)) (ß (ilt 0 (ì c)) (ĸ c 0 fun a=>ß (ile 1 (ì c)) (ß (decide (1+(List.length c-1)=List.length c)) (ß ((ile 0 a)&&(ilt a (ì d))) (ĸ d (Int.toNat a) fun x=>ß ((ile 0 a)&&(ilt a (ì b))) (ĸ b (Int.toNat a) fun p=>ck (p+(1:Int)) fun e=>ß ((ile 0 a)&&(ilt a (ì b))) (ĸ b (Int.toNat a) fun y=>ß ((ile 0 a)&&(ilt a (ì (List.set b (Int.toNat a) e)))) (ĸ (List.set b (Int.toNat a) e) (Int.toNat a) fun q=>ck (n+(1:Int)) fun r=>ifb (igt q r) (i (false,h,(List.set d (Int.toNat a) false),(List.set b (Int.toNat a) e),(List.drop 1 c))) (Ê (fun(f:(Val (.pair tI (.pair aa aL)))) s=>iV l m a k (Ø k) f.1 f.2.1 f.2.2.1 f.2.2.2 (fun t u v w=>s (t,u,v,w)) (fun g=>i (g.1,g.2.1,g.2.2.1,(List.set b (Int.toNat a) e),g.2.2.2)) (fun j=>o j.1 j.2.1 (List.set b (Int.toNat a) e) j.2.2)) ((0:Int),h,(List.set d (Int.toNat a) false),(List.drop 1 c)))))))))))
def iU (c:Int) (d:Int) (a:Int) (b:Val aa) (e:Int→Val aa→Option ρ) (f:Val aa→Option ρ):Option ρ :=
  ifb (ilt a d) (ß ((ile 0 a)&&(ilt a (ì b))) (ĸ b (Int.toNat a) fun g=>ck (g-c) fun h=>ß ((ile 0 a)&&(ilt a (ì b))) (ĸ b (Int.toNat a) fun j=>ck (a+(1:Int)) fun i=>e i (List.set b (Int.toNat a) h)))) (f b)
def xr (a:Val Ì) (h:Val ao) (k:(Val (.pair aa .bool))→Option ρ):Option ρ :=
  ß ((ile 0 a.1)&&(æ (Int.toNat a.1))) (ß ((ile 0 a.1)&&(æ (Int.toNat a.1))) (ß ((ile 0 a.1)&&(æ (Int.toNat a.1))) (Ê (fun(e:Val Ä) i=>gS a.2 (Ø a.2) e.1 e.2 (fun j l=>i (j,l)) (fun m=>Ê (fun(d:(Val (.pair tI aL))) n=>Ŗ a.1 (List.replicate (Int.toNat a.1) (0:Int)) d.1 d.2.1 d.2.2 (fun o p q=>n (o,p,q)) (fun f=>Ê (fun(c:Val aM) r=>ĩ h m a.1 a.2 c.1 c.2.1 c.2.2.1 c.2.2.2 (fun s t u v=>r (s,t,u,v)) (fun b=>ifb (!b.1) (k ([],false)) (ß (ilt 0 (ì b.2.1)) (ĸ b.2.1 0 fun w=>Ê (fun(g:Val Ğ) x=>iU w (Ø b.2.1) g.1 g.2 (fun y z=>x (y,z)) (fun A=>k (A,true))) ((0:Int),b.2.1))))) ((List.replicate (Int.toNat a.1) (0:Int)),f.1,(List.replicate (Int.toNat a.1) (0:Int)),f.2))) ((0:Int),(List.replicate (Int.toNat a.1) false),[]))) ((0:Int),(0:Int)))))
def kp (a:Val Ì) (b:Val ao):Option ((Val (.pair aa .bool))):=xr a b some
def rN (a:Val Ì) (k:Val aP→Option ρ):Option ρ :=
  Ã (pI a) fun b=>ifb (ine b.1 0) (k (false,b.1)) (Ã (kp a ([])) fun c=>k (c.2,(0:Int)))
def mK (a:Val Ì):Option ((Val aP)):=rN a some
def wZ (a:Val Â) (b:Val aj) (k:Bool→Option ρ):Option ρ :=
  Ã (iu a b) fun c=>Ã (iD c) fun d=>Ã (mK d.1) fun e=>k e.1
def Θ (a:Val Â) (b:Val aj):Option (Bool):=wZ a b some
def ol (d:Int) (e:Val aa) (f:Int) (g:Val ai) (b:Int) (a:Int) (c:Int→Int→Option ρ) (h:Int→Option ρ):Option ρ :=
  ifb (ilt a f) (Ĭ e a fun i=>Ĭ g d fun j=>Ĭ j.2 a fun k=>ifb (ine k i) (ck (b+(1:Int)) fun l=>ck (a+(1:Int)) fun m=>c l m) (ck (a+(1:Int)) fun n=>c b n)) (h b)
def om (e:Val aj) (f:Int) (g:Val ai) (b:Int) (a:Int) (h:Int→Int→Option ρ) (i:Int→Option ρ):Option ρ :=
  ifb (ilt a f) (Ĭ e a fun c=>Ê (fun(d:Val Ä) j=>ol a c (Ø c) g d.1 d.2 (fun k l=>j (k,l)) (fun m=>ck (a+(1:Int)) fun n=>h m n)) (b,(0:Int))) (i b)
def EP (c:Val Â) (a:Val aj) (k:Int→Option ρ):Option ρ :=
  Ê (fun(b:Val Ä) d=>om a (Ø a) c.2 b.1 b.2 (fun e f=>d (e,f)) (fun g=>k g)) ((0:Int),(0:Int))
def Ĵ (a:Val Â) (b:Val aj):Option (Int):=EP a b some
def pA (a:Int) (k:Bool→Option ρ):Option ρ :=
  k (ine a a)
def lm (a:Int):Option (Bool):=pA a some
def mh (a:Int) (b:Int) (k:Int→Option ρ):Option ρ :=
  Ã (lm a) fun d=>Ã (lm b) fun c=>ifb d (ifb c (k (0:Int)) (k (-1:Int))) (ifb c (k (1:Int)) (ifb (ilt a b) (k (-1:Int)) (ifb (igt a b) (k (1:Int)) (k (0:Int)))))
def gW (a:Int) (b:Int):Option (Int):=mh a b some
def EQ (b:Val aj) (c:Val aj) (a:Val ar) (k:Int→Option ρ):Option ρ :=
  Ã (Ĵ a b) fun d=>Ã (Ĵ a c) fun e=>Ã (gW d e) fun f=>k f
def ji (a:Val aj) (b:Val aj) (c:Val ar):Option (Int):=EQ a b c some
def ç (h:Int) (i:Int) (j:Int) (k:Val af) (l:Val ab) (m:Val ah) (n:Val ac) (o:Val ab) (p:Val ai) (a:Int) (b:Val ag) (q:Int→Val ag→Option ρ) (g:Val ag→Option ρ):Option ρ :=
  ifb (igt a h) (ß ((ile 0 a)&&(ilt a (ì b))) (ĸ b (Int.toNat a) fun r=>ck (a-(1:Int)) fun d=>ß ((ile 0 d)&&(ilt d (ì b))) (ĸ b (Int.toNat d) fun s=>Ã (ji r s (((i,j),k,l,m,n,o),p)) fun t=>ifb (ilt t 0) (ck (a-(1:Int)) fun c=>ck (a-(1:Int)) fun e=>ß ((ile 0 e)&&(ilt e (ì b))) (ĸ b (Int.toNat e) fun f=>ß ((ile 0 a)&&(ilt a (ì b))) (ĸ b (Int.toNat a) fun u=>ß ((ile 0 a)&&(ilt a (ì b))) (ĸ b (Int.toNat a) fun w=>ß ((ile 0 c)&&(ilt c (ì (List.set b (Int.toNat a) f)))) (ĸ (List.set b (Int.toNat a) f) (Int.toNat c) fun x=>ck (a-(1:Int)) fun v=>q v (List.set (List.set b (Int.toNat a) f) (Int.toNat c) u)))))) (g b)))) (g b)
def ĉ (d:Int) (e:Int) (f:Int) (g:Int) (h:Val af) (i:Val ab) (j:Val ah) (k:Val ac) (l:Val ab) (m:Val ai) (a:Int) (b:Val ag) (n:Int→Val ag→Option ρ) (o:Val ag→Option ρ):Option ρ :=
  ifb (ilt a e) (Ê (fun(c:Val aB) p=>ç d f g h i j k l m c.1 c.2 (fun q r=>p (q,r)) (fun s=>ck (a+(1:Int)) fun t=>n t s)) (a,b)) (o b)
def Ũ (c:Val ag) (a:Int) (d:Int) (mm:Val Â) (k:((Val ag))×(Val Â)→Option ρ):Option ρ :=
  ck (a+(1:Int)) fun e=>Ê (fun(b:Val aB) f=>ĉ a d mm.1.1.1 mm.1.1.2 mm.1.2.1 mm.1.2.2.1 mm.1.2.2.2.1 mm.1.2.2.2.2.1 mm.1.2.2.2.2.2 mm.2 b.1 b.2 (fun g h=>f (g,h)) (fun i=>k (i,mm))) (e,c)
def å (a:Val ag) (b:Int) (c:Int) (mm:Val Â):Option (((Val ag))×(Val Â)):=Ũ a b c mm some
def Ĉ (h:Int) (i:Int) (j:Int) (b:Int) (a:Val ag) (k:Int→Val ag→Option ρ) (l:Val ag→Option ρ):Option ρ :=
  ifb (ilt b j) (ck (h+b) fun c=>ck (i+b) fun d=>ck (i+b) fun e=>ß ((ile 0 e)&&(ilt e (ì a))) (ĸ a (Int.toNat e) fun f=>ck (h+b) fun g=>ß ((ile 0 g)&&(ilt g (ì a))) (ĸ a (Int.toNat g) fun m=>ß ((ile 0 c)&&(ilt c (ì a))) (ĸ a (Int.toNat c) fun o=>ß ((ile 0 d)&&(ilt d (ì (List.set a (Int.toNat c) f)))) (ĸ (List.set a (Int.toNat c) f) (Int.toNat d) fun p=>ck (b+(1:Int)) fun n=>k n (List.set (List.set a (Int.toNat c) f) (Int.toNat d) m)))))) (l a)
def ω (h:Int) (i:Int) (j:Int) (b:Int) (a:Val ag) (k:Int→Val ag→Option ρ) (l:Val ag→Option ρ):Option ρ :=
  ifb (ilt b j) (ck (h+b) fun c=>ck (i+b) fun d=>ck (i+b) fun e=>ß ((ile 0 e)&&(ilt e (ì a))) (ĸ a (Int.toNat e) fun f=>ck (h+b) fun g=>ß ((ile 0 g)&&(ilt g (ì a))) (ĸ a (Int.toNat g) fun m=>ß ((ile 0 c)&&(ilt c (ì a))) (ĸ a (Int.toNat c) fun o=>ß ((ile 0 d)&&(ilt d (ì (List.set a (Int.toNat c) f)))) (ĸ (List.set a (Int.toNat c) f) (Int.toNat d) fun p=>ck (b+(1:Int)) fun n=>k n (List.set (List.set a (Int.toNat c) f) (Int.toNat d) m)))))) (l a)
def į (c:Int) (a:Int) (b:Int) (d:Val ag) (e:Int→Int→Val ag→Option ρ) (h:Val aB→Option ρ):Option ρ :=
  ifb (ine a b) (ifb (igt a b) (ck (c-a) fun i=>Ê (fun(f:Val aB) j=>Ĉ i c b f.1 f.2 (fun k l=>j (k,l)) (fun m=>ck (a-b) fun n=>e n b m)) ((0:Int),d)) (ck (c-a) fun o=>ck (c+b) fun p=>ck (p-a) fun q=>Ê (fun(g:Val aB) r=>ω o q a g.1 g.2 (fun s t=>r (s,t)) (fun u=>ck (b-a) fun v=>e a v u)) ((0:Int),d))) (h (a,d))
def ψ (h:Int) (i:Int) (j:Int) (b:Int) (a:Val ag) (k:Int→Val ag→Option ρ) (l:Val ag→Option ρ):Option ρ :=
  ifb (ilt b j) (ck (h+b) fun c=>ck (i+b) fun d=>ck (i+b) fun e=>ß ((ile 0 e)&&(ilt e (ì a))) (ĸ a (Int.toNat e) fun f=>ck (h+b) fun g=>ß ((ile 0 g)&&(ilt g (ì a))) (ĸ a (Int.toNat g) fun m=>ß ((ile 0 c)&&(ilt c (ì a))) (ĸ a (Int.toNat c) fun o=>ß ((ile 0 d)&&(ilt d (ì (List.set a (Int.toNat c) f)))) (ĸ (List.set a (Int.toNat c) f) (Int.toNat d) fun p=>ck (b+(1:Int)) fun n=>k n (List.set (List.set a (Int.toNat c) f) (Int.toNat d) m)))))) (l a)
def iT (e:Val ag) (f:Int) (a:Int) (g:Int) (mm:Val Â) (k:((Val ag))×(Val Â)→Option ρ):Option ρ :=
  ck (a-f) fun h=>ck (g-a) fun i=>Ê (fun(b:(Val (.pair tI aB))) j=>į a b.1 b.2.1 b.2.2 (fun l m n=>j (l,m,n)) (fun c=>ck (a-c.1) fun o=>Ê (fun(d:Val aB) p=>ψ o a c.1 d.1 d.2 (fun q r=>p (q,r)) (fun s=>k (s,mm))) ((0:Int),c.2))) (h,i,e)
def Ķ (a:Val ag) (b:Int) (c:Int) (d:Int) (mm:Val Â):Option (((Val ag))×(Val Â)):=iT a b c d mm some
def ù (rec:Val ag→Int→Int→Int→Val Â→Option ((Val ag)×(Val Â))) (d:Int) (b:Val ag) (g:Int) (h:Int) (i:Val af) (j:Val ab) (k:Val ah) (l:Val ac) (m:Val ab) (n:Val ai) (c:Int) (e:Int) (f:Int→Int→Option ρ) (o:Int→Option ρ):Option ρ :=
  ifb (ilt c e) (ck (c+e) fun a=>ß ((ile 0 (IntKind.wrap .i64 (hZ .u64 (IntKind.wrap .u64 a) (1:Int))))&&(ilt (IntKind.wrap .i64 (hZ .u64 (IntKind.wrap .u64 a) (1:Int))) (ì b))) (ĸ b (Int.toNat (IntKind.wrap .i64 (hZ .u64 (IntKind.wrap .u64 a) (1:Int)))) fun p=>ß ((ile 0 d)&&(ilt d (ì b))) (ĸ b (Int.toNat d) fun q=>Ã (ji p q (((g,h),i,j,k,l,m),n)) fun r=>ifb (ilt r 0) (ck ((IntKind.wrap .i64 (hZ .u64 (IntKind.wrap .u64 a) (1:Int)))+(1:Int)) fun s=>f s e) (f c (IntKind.wrap .i64 (hZ .u64 (IntKind.wrap .u64 a) (1:Int))))))) (o c)
def î (rec:Val ag→Int→Int→Int→Val Â→Option ((Val ag)×(Val Â))) (f:Int) (a:Int) (b:Val ag) (g:Int→Val ag→Option ρ) (h:Val ag→Option ρ):Option ρ :=
  ck (f-(1:Int)) fun i=>ifb (ilt a i) (ck (a+(1:Int)) fun c=>ck (a+(1:Int)) fun d=>ß ((ile 0 d)&&(ilt d (ì b))) (ĸ b (Int.toNat d) fun e=>ß ((ile 0 a)&&(ilt a (ì b))) (ĸ b (Int.toNat a) fun j=>ß ((ile 0 a)&&(ilt a (ì b))) (ĸ b (Int.toNat a) fun l=>ß ((ile 0 c)&&(ilt c (ì (List.set b (Int.toNat a) e)))) (ĸ (List.set b (Int.toNat a) e) (Int.toNat c) fun m=>ck (a+(1:Int)) fun k=>g k (List.set (List.set b (Int.toNat a) e) (Int.toNat c) j)))))) (h b)
def ø (rec:Val ag→Int→Int→Int→Val Â→Option ((Val ag)×(Val Â))) (d:Int) (b:Val ag) (g:Int) (h:Int) (i:Val af) (j:Val ab) (k:Val ah) (l:Val ac) (m:Val ab) (n:Val ai) (c:Int) (e:Int) (f:Int→Int→Option ρ) (o:Int→Option ρ):Option ρ :=
  ifb (ilt c e) (ck (c+e) fun a=>ß ((ile 0 d)&&(ilt d (ì b))) (ĸ b (Int.toNat d) fun p=>ß ((ile 0 (IntKind.wrap .i64 (hZ .u64 (IntKind.wrap .u64 a) (1:Int))))&&(ilt (IntKind.wrap .i64 (hZ .u64 (IntKind.wrap .u64 a) (1:Int))) (ì b))) (ĸ b (Int.toNat (IntKind.wrap .i64 (hZ .u64 (IntKind.wrap .u64 a) (1:Int)))) fun q=>Ã (ji p q (((g,h),i,j,k,l,m),n)) fun r=>ifb (!(ilt r 0)) (ck ((IntKind.wrap .i64 (hZ .u64 (IntKind.wrap .u64 a) (1:Int)))+(1:Int)) fun s=>f s e) (f c (IntKind.wrap .i64 (hZ .u64 (IntKind.wrap .u64 a) (1:Int))))))) (o c)
def í (rec:Val ag→Int→Int→Int→Val Â→Option ((Val ag)×(Val Â))) (f:Int) (a:Int) (b:Val ag) (g:Int→Val ag→Option ρ) (h:Val ag→Option ρ):Option ρ :=
  ifb (igt a f) (ck (a-(1:Int)) fun c=>ck (a-(1:Int)) fun d=>ß ((ile 0 d)&&(ilt d (ì b))) (ĸ b (Int.toNat d) fun e=>ß ((ile 0 a)&&(ilt a (ì b))) (ĸ b (Int.toNat a) fun i=>ß ((ile 0 a)&&(ilt a (ì b))) (ĸ b (Int.toNat a) fun k=>ß ((ile 0 c)&&(ilt c (ì (List.set b (Int.toNat a) e)))) (ĸ (List.set b (Int.toNat a) e) (Int.toNat c) fun l=>ck (a-(1:Int)) fun j=>g j (List.set (List.set b (Int.toNat a) e) (Int.toNat c) i)))))) (h b)
def Þ (rec:Val ag→Int→Int→Int→Val Â→Option ((Val ag)×(Val Â))) (g:Int) (b:Val ag) (h:Int) (i:Int) (j:Val af) (k:Val ab) (l:Val ah) (m:Val ac) (n:Val ab) (o:Val ai) (c:Int) (d:Int) (f:Int→Int→Option ρ) (p:Int→Option ρ):Option ρ :=
  ifb (ilt c d) (ck (c+d) fun a=>ck (g-(IntKind.wrap .i64 (hZ .u64 (IntKind.wrap .u64 a) (1:Int)))) fun e=>ß ((ile 0 e)&&(ilt e (ì b))) (ĸ b (Int.toNat e) fun q=>ß ((ile 0 (IntKind.wrap .i64 (hZ .u64 (IntKind.wrap .u64 a) (1:Int))))&&(ilt (IntKind.wrap .i64 (hZ .u64 (IntKind.wrap .u64 a) (1:Int))) (ì b))) (ĸ b (Int.toNat (IntKind.wrap .i64 (hZ .u64 (IntKind.wrap .u64 a) (1:Int)))) fun r=>Ã (ji q r (((h,i),j,k,l,m,n),o)) fun s=>ifb (!(ilt s 0)) (ck ((IntKind.wrap .i64 (hZ .u64 (IntKind.wrap .u64 a) (1:Int)))+(1:Int)) fun t=>f t d) (f c (IntKind.wrap .i64 (hZ .u64 (IntKind.wrap .u64 a) (1:Int))))))) (p c)
def Ġ (rec:Val ag→Int→Int→Int→Val Â→Option ((Val ag)×(Val Â))) (c:Val ag) (f:Int) (g:Int) (b:Int) (mm:Val Â) (k:((Val ag))×(Val Â)→Option ρ):Option ρ :=
  ck (g-f) fun R=>ifb (ieq R 1) (Ê (fun(t:Val Ä) S=>ù rec f c mm.1.1.1 mm.1.1.2 mm.1.2.1 mm.1.2.2.1 mm.1.2.2.2.1 mm.1.2.2.2.2.1 mm.1.2.2.2.2.2 mm.2 t.1 t.2 (fun T U=>S (T,U)) (fun V=>Ê (fun(u:Val aB) W=>î rec V u.1 u.2 (fun X Y=>W (X,Y)) (fun Z=>k (Z,mm))) (f,c))) (g,b)) (ck (b-g) fun dc=>ifb (ieq dc 1) (Ê (fun(v:Val Ä) df=>ø rec g c mm.1.1.1 mm.1.1.2 mm.1.2.1 mm.1.2.2.1 mm.1.2.2.2.1 mm.1.2.2.2.2.1 mm.1.2.2.2.2.2 mm.2 v.1 v.2 (fun dg dh=>df (dg,dh)) (fun di=>Ê (fun(w:Val aB) dj=>í rec di w.1 w.2 (fun dk dl=>dj (dk,dl)) (fun dm=>k (dm,mm))) (g,c))) (f,g)) (ck (f+b) fun a=>ck ((IntKind.wrap .i64 (hZ .u64 (IntKind.wrap .u64 a) (1:Int)))+g) fun s=>ifb (igt g (IntKind.wrap .i64 (hZ .u64 (IntKind.wrap .u64 a) (1:Int)))) (ck (s-b) fun dt=>ck (s-1) fun du=>Ê (fun(x:Val Ä) dv=>Þ rec du c mm.1.1.1 mm.1.1.2 mm.1.2.1 mm.1.2.2.1 mm.1.2.2.2.1 mm.1.2.2.2.2.1 mm.1.2.2.2.2.2 mm.2 x.1 x.2 (fun dw dz=>dv (dw,dz)) (fun j=>ck (s-j) fun d=>ifb (ilt j g) (ifb (ilt g d) (Ã (Ķ c j g d mm) fun h=>ifb (ilt f j) (ifb (ilt j (IntKind.wrap .i64 (hZ .u64 (IntKind.wrap .u64 a) (1:Int)))) (Ã (rec h.1 f j (IntKind.wrap .i64 (hZ .u64 (IntKind.wrap .u64 a) (1:Int))) h.2) fun m=>ifb (ilt (IntKind.wrap .i64 (hZ .u64 (IntKind.wrap .u64 a) (1:Int))) d) (ifb (ilt d b) (Ã (rec m.1 (IntKind.wrap .i64 (hZ .u64 (IntKind.wrap .u64 a) (1:Int))) d b m.2) fun y=>k (y.1,y.2)) (k (m.1,m.2))) (k (m.1,m.2))) (ifb (ilt (IntKind.wrap .i64 (hZ .u64 (IntKind.wrap .u64 a) (1:Int))) d) (ifb (ilt d b) (Ã (rec h.1 (IntKind.wrap .i64 (hZ .u64 (IntKind.wrap .u64 a) (1:Int))) d b h.2) fun z=>k (z.1,z.2)) (k (h.1,h.2))) (k (h.1,h.2)))) (ifb (ilt (IntKind.wrap .i64 (hZ .u64 (IntKind.wrap .u64 a) (1:Int))) d) (ifb (ilt d b) (Ã (rec h.1 (IntKind.wrap .i64 (hZ .u64 (IntKind.wrap .u64 a) (1:Int))) d b h.2) fun A=>k (A.1,A.2)) (k (h.1,h.2))) (k (h.1,h.2)))) (ifb (ilt f j) (ifb (ilt j (IntKind.wrap .i64 (hZ .u64 (IntKind.wrap .u64 a) (1:Int)))) (Ã (rec c f j (IntKind.wrap .i64 (hZ .u64 (IntKind.wrap .u64 a) (1:Int))) mm) fun n=>ifb (ilt (IntKind.wrap .i64 (hZ .u64 (IntKind.wrap .u64 a) (1:Int))) d) (ifb (ilt d b) (Ã (rec n.1 (IntKind.wrap .i64 (hZ .u64 (IntKind.wrap .u64 a) (1:Int))) d b n.2) fun B=>k (B.1,B.2)) (k (n.1,n.2))) (k (n.1,n.2))) (ifb (ilt (IntKind.wrap .i64 (hZ .u64 (IntKind.wrap .u64 a) (1:Int))) d) (ifb (ilt d b) (Ã (rec c (IntKind.wrap .i64 (hZ .u64 (IntKind.wrap .u64 a) (1:Int))) d b mm) fun C=>k (C.1,C.2)) (k (c,mm))) (k (c,mm)))) (ifb (ilt (IntKind.wrap .i64 (hZ .u64 (IntKind.wrap .u64 a) (1:Int))) d) (ifb (ilt d b) (Ã (rec c (IntKind.wrap .i64 (hZ .u64 (IntKind.wrap .u64 a) (1:Int))) d b mm) fun D=>k (D.1,D.2)) (k (c,mm))) (k (c,mm))))) (ifb (ilt f j) (ifb (ilt j (IntKind.wrap .i64 (hZ .u64 (IntKind.wrap .u64 a) (1:Int)))) (Ã (rec c f j (IntKind.wrap .i64 (hZ .u64 (IntKind.wrap .u64 a) (1:Int))) mm) fun o=>ifb (ilt (IntKind.wrap .i64 (hZ .u64 (IntKind.wrap .u64 a) (1:Int))) d) (ifb (ilt d b) (Ã (rec o.1 (IntKind.wrap .i64 (hZ .u64 (IntKind.wrap .u64 a) (1:Int))) d b o.2) fun E=>k (E.1,E.2)) (k (o.1,o.2))) (k (o.1,o.2))) (ifb (ilt (IntKind.wrap .i64 (hZ .u64 (IntKind.wrap .u64 a) (1:Int))) d) (ifb (ilt d b) (Ã (rec c (IntKind.wrap .i64 (hZ .u64 (IntKind.wrap .u64 a) (1:Int))) d b mm) fun F=>k (F.1,F.2)) (k (c,mm))) (k (c,mm)))) (ifb (ilt (IntKind.wrap .i64 (hZ .u64 (IntKind.wrap .u64 a) (1:Int))) d) (ifb (ilt d b) (Ã (rec c (IntKind.wrap .i64 (hZ .u64 (IntKind.wrap .u64 a) (1:Int))) d b mm) fun G=>k (G.1,G.2)) (k (c,mm))) (k (c,mm)))))) (dt,(IntKind.wrap .i64 (hZ .u64 (IntKind.wrap .u64 a) (1:Int))))) (ck (s-1) fun d8=>Ê (fun(H:Val Ä) d9=>Þ rec d8 c mm.1.1.1 mm.1.1.2 mm.1.2.1 mm.1.2.2.1 mm.1.2.2.2.1 mm.1.2.2.2.2.1 mm.1.2.2.2.2.2 mm.2 H.1 H.2 (fun ee eh=>d9 (ee,eh)) (fun l=>ck (s-l) fun e=>ifb (ilt l g) (ifb (ilt g e) (Ã (Ķ c l g e mm) fun i=>ifb (ilt f l) (ifb (ilt l (IntKind.wrap .i64 (hZ .u64 (IntKind.wrap .u64 a) (1:Int)))) (Ã (rec i.1 f l (IntKind.wrap .i64 (hZ .u64 (IntKind.wrap .u64 a) (1:Int))) i.2) fun p=>ifb (ilt (IntKind.wrap .i64 (hZ .u64 (IntKind.wrap .u64 a) (1:Int))) e) (ifb (ilt e b) (Ã (rec p.1 (IntKind.wrap .i64 (hZ .u64 (IntKind.wrap .u64 a) (1:Int))) e b p.2) fun I=>k (I.1,I.2)) (k (p.1,p.2))) (k (p.1,p.2))) (ifb (ilt (IntKind.wrap .i64 (hZ .u64 (IntKind.wrap .u64 a) (1:Int))) e) (ifb (ilt e b) (Ã (rec i.1 (IntKind.wrap .i64 (hZ .u64 (IntKind.wrap .u64 a) (1:Int))) e b i.2) fun J=>k (J.1,J.2)) (k (i.1,i.2))) (k (i.1,i.2)))) (ifb (ilt (IntKind.wrap .i64 (hZ .u64 (IntKind.wrap .u64 a) (1:Int))) e) (ifb (ilt e b) (Ã (rec i.1 (IntKind.wrap .i64 (hZ .u64 (IntKind.wrap .u64 a) (1:Int))) e b i.2) fun K=>k (K.1,K.2)) (k (i.1,i.2))) (k (i.1,i.2)))) (ifb (ilt f l) (ifb (ilt l (IntKind.wrap .i64 (hZ .u64 (IntKind.wrap .u64 a) (1:Int)))) (Ã (rec c f l (IntKind.wrap .i64 (hZ .u64 (IntKind.wrap .u64 a) (1:Int))) mm) fun q=>ifb (ilt (IntKind.wrap .i64 (hZ .u64 (IntKind.wrap .u64 a) (1:Int))) e) (ifb (ilt e b) (Ã (rec q.1 (IntKind.wrap .i64 (hZ .u64 (IntKind.wrap .u64 a) (1:Int))) e b q.2) fun L=>k (L.1,L.2)) (k (q.1,q.2))) (k (q.1,q.2))) (ifb (ilt (IntKind.wrap .i64 (hZ .u64 (IntKind.wrap .u64 a) (1:Int))) e) (ifb (ilt e b) (Ã (rec c (IntKind.wrap .i64 (hZ .u64 (IntKind.wrap .u64 a) (1:Int))) e b mm) fun M=>k (M.1,M.2)) (k (c,mm))) (k (c,mm)))) (ifb (ilt (IntKind.wrap .i64 (hZ .u64 (IntKind.wrap .u64 a) (1:Int))) e) (ifb (ilt e b) (Ã (rec c (IntKind.wrap .i64 (hZ .u64 (IntKind.wrap .u64 a) (1:Int))) e b mm) fun N=>k (N.1,N.2)) (k (c,mm))) (k (c,mm))))) (ifb (ilt f l) (ifb (ilt l (IntKind.wrap .i64 (hZ .u64 (IntKind.wrap .u64 a) (1:Int)))) (Ã (rec c f l (IntKind.wrap .i64 (hZ .u64 (IntKind.wrap .u64 a) (1:Int))) mm) fun r=>ifb (ilt (IntKind.wrap .i64 (hZ .u64 (IntKind.wrap .u64 a) (1:Int))) e) (ifb (ilt e b) (Ã (rec r.1 (IntKind.wrap .i64 (hZ .u64 (IntKind.wrap .u64 a) (1:Int))) e b r.2) fun O=>k (O.1,O.2)) (k (r.1,r.2))) (k (r.1,r.2))) (ifb (ilt (IntKind.wrap .i64 (hZ .u64 (IntKind.wrap .u64 a) (1:Int))) e) (ifb (ilt e b) (Ã (rec c (IntKind.wrap .i64 (hZ .u64 (IntKind.wrap .u64 a) (1:Int))) e b mm) fun P=>k (P.1,P.2)) (k (c,mm))) (k (c,mm)))) (ifb (ilt (IntKind.wrap .i64 (hZ .u64 (IntKind.wrap .u64 a) (1:Int))) e) (ifb (ilt e b) (Ã (rec c (IntKind.wrap .i64 (hZ .u64 (IntKind.wrap .u64 a) (1:Int))) e b mm) fun Q=>k (Q.1,Q.2)) (k (c,mm))) (k (c,mm)))))) (f,g))))
def ğ:Nat→Val ag→Int→Int→Int→Val Â→Option ((Val ag)×(Val Â))
  |0=>fun _ _ _ _ _=>none
  |n+1=>fun a b c d mm=>Ġ (ğ n) a b c d mm some
def Đ (a:Val ag) (b:Int) (c:Int) (d:Int) (mm:Val Â):Option (((Val ag))×(Val Â)):=ğ 100 a b c d mm
def χ (m:Int) (n:Int) (c:Int) (b:Int) (d:Val ag) (e:Int) (f:Int) (g:Val af) (h:Val ab) (i:Val ah) (j:Val ac) (k:Val ab) (l:Val ai) (o:Int→Int→Val ag→Int→Int→Val af→Val ab→Val ah→Val ac→Val ab→Val ai→Option ρ) (p:Val au→Option ρ):Option ρ :=
  ifb (ile b m) (Ã (å d c b (((e,f),g,h,i,j,k),l)) fun a=>ck (b+n) fun q=>o b q a.1 a.2.1.1.1 a.2.1.1.2 a.2.1.2.1 a.2.1.2.2.1 a.2.1.2.2.2.1 a.2.1.2.2.2.2.1 a.2.1.2.2.2.2.2 a.2.2) (p (c,d,e,f,g,h,i,j,k,l))
def ς (n:Int) (d:Int) (c:Int) (b:Int) (e:Val ag) (f:Int) (g:Int) (h:Val af) (i:Val ab) (j:Val ah) (k:Val ac) (l:Val ab) (m:Val ai) (o:Int→Int→Val ag→Int→Int→Val af→Val ab→Val ah→Val ac→Val ab→Val ai→Option ρ) (p:Val au→Option ρ):Option ρ :=
  ifb (ile b n) (ck (c+d) fun q=>Ã (Đ e c q b (((f,g),h,i,j,k,l),m)) fun a=>ck ((2:Int)*d) fun r=>ck (b+r) fun s=>o b s a.1 a.2.1.1.1 a.2.1.1.2 a.2.1.2.1 a.2.1.2.2.1 a.2.1.2.2.2.1 a.2.1.2.2.2.2.1 a.2.1.2.2.2.2.2 a.2.2) (p (c,e,f,g,h,i,j,k,l,m))
def υ (e:Int) (d:Int) (f:Val ag) (g:Int) (h:Int) (i:Val af) (j:Val ab) (k:Val ah) (l:Val ac) (m:Val ab) (n:Val ai) (o:Int→Val ag→Int→Int→Val af→Val ab→Val ah→Val ac→Val ab→Val ai→Option ρ) (q:(Val (.pair ag ae))→Option ρ):Option ρ :=
  ifb (ilt d e) (ck ((2:Int)*d) fun r=>Ê (fun(b:(Val (.pair tI au))) s=>ς e d b.1 b.2.1 b.2.2.1 b.2.2.2.1 b.2.2.2.2.1 b.2.2.2.2.2.1 b.2.2.2.2.2.2.1 b.2.2.2.2.2.2.2.1 b.2.2.2.2.2.2.2.2.1 b.2.2.2.2.2.2.2.2.2.1 b.2.2.2.2.2.2.2.2.2.2 (fun t u v w x y z A B C D=>s (t,u,v,w,x,y,z,A,B,C,D)) (fun a=>ck (a.1+d) fun p=>ifb (ilt p e) (Ã (Đ a.2.1 a.1 p e (((a.2.2.1,a.2.2.2.1),a.2.2.2.2.1,a.2.2.2.2.2.1,a.2.2.2.2.2.2.1,a.2.2.2.2.2.2.2.1,a.2.2.2.2.2.2.2.2.1),a.2.2.2.2.2.2.2.2.2)) fun c=>ck (d*(2:Int)) fun E=>o E c.1 c.2.1.1.1 c.2.1.1.2 c.2.1.2.1 c.2.1.2.2.1 c.2.1.2.2.2.1 c.2.1.2.2.2.2.1 c.2.1.2.2.2.2.2 c.2.2) (ck (d*(2:Int)) fun F=>o F a.2.1 a.2.2.1 a.2.2.2.1 a.2.2.2.2.1 a.2.2.2.2.2.1 a.2.2.2.2.2.2.1 a.2.2.2.2.2.2.2.1 a.2.2.2.2.2.2.2.2.1 a.2.2.2.2.2.2.2.2.2))) ((0:Int),r,f,g,h,i,j,k,l,m,n)) (q (f,g,h,i,j,k,l,m,n))
def iS (g:Val ag) (f:Int) (mm:Val Â) (k:((Val ag))×(Val Â)→Option ρ):Option ρ :=
  Ê (fun(a:(Val (.pair tI au))) h=>χ f (20:Int) a.1 a.2.1 a.2.2.1 a.2.2.2.1 a.2.2.2.2.1 a.2.2.2.2.2.1 a.2.2.2.2.2.2.1 a.2.2.2.2.2.2.2.1 a.2.2.2.2.2.2.2.2.1 a.2.2.2.2.2.2.2.2.2.1 a.2.2.2.2.2.2.2.2.2.2 (fun i j l m n o p q r s t=>h (i,j,l,m,n,o,p,q,r,s,t)) (fun b=>Ã (å b.2.1 b.1 f (((b.2.2.1,b.2.2.2.1),b.2.2.2.2.1,b.2.2.2.2.2.1,b.2.2.2.2.2.2.1,b.2.2.2.2.2.2.2.1,b.2.2.2.2.2.2.2.2.1),b.2.2.2.2.2.2.2.2.2)) fun d=>Ê (fun(c:Val au) u=>υ f c.1 c.2.1 c.2.2.1 c.2.2.2.1 c.2.2.2.2.1 c.2.2.2.2.2.1 c.2.2.2.2.2.2.1 c.2.2.2.2.2.2.2.1 c.2.2.2.2.2.2.2.2.1 c.2.2.2.2.2.2.2.2.2 (fun v w x y z A B C D E=>u (v,w,x,y,z,A,B,C,D,E)) (fun e=>k (e.1,(((e.2.1,e.2.2.1),e.2.2.2.1,e.2.2.2.2.1,e.2.2.2.2.2.1,e.2.2.2.2.2.2.1,e.2.2.2.2.2.2.2.1),e.2.2.2.2.2.2.2.2)))) ((20:Int),d.1,d.2.1.1.1,d.2.1.1.2,d.2.1.2.1,d.2.1.2.2.1,d.2.1.2.2.2.1,d.2.1.2.2.2.2.1,d.2.1.2.2.2.2.2,d.2.2))) ((0:Int),(20:Int),g,mm.1.1.1,mm.1.1.2,mm.1.2.1,mm.1.2.2.1,mm.1.2.2.2.1,mm.1.2.2.2.2.1,mm.1.2.2.2.2.2,mm.2)
def ĵ (a:Val ag) (b:Int) (mm:Val Â):Option (((Val ag))×(Val Â)):=iS a b mm some
def Bc (a:Val ag) (y:Val aj) (b:Val ag→Option ρ):Option ρ :=
  ß (æ ((List.length a)+(List.length ([y])))) (b (a++([y])))
def uq (c:Int) (d:Int) (e:Int) (f:Val af) (g:Val ab) (h:Val ah) (i:Val ac) (j:Val ab) (k:Val ai) (b:Val ag) (a:Int) (l:Int→Option ρ) (m:Int→Option ρ) (n:Unit→Option ρ):Option ρ :=
  ifb (ilt a c) (ß ((ile 0 a)&&(ilt a (ì b))) (ĸ b (Int.toNat a) fun o=>Ã (Θ (((d,e),f,g,h,i,j),k) o) fun p=>ifb (!p) (m a) (ck (a+(1:Int)) fun q=>l q))) (n ())
def l8 (f:Int) (g:Int) (h:Val af) (i:Val ab) (j:Val ah) (k:Val ac) (l:Val ab) (m:Val ai) (b:Int) (c:Int) (a:Val ag) (d:Int→Int→Val ag→Option ρ) (n:Val aB→Option ρ):Option ρ :=
  ifb (ilt c (Ø a)) (ß ((ile 0 c)&&(ilt c (ì a))) (ĸ a (Int.toNat c) fun e=>Ã (Θ (((f,g),h,i,j,k,l),m) e) fun o=>ifb (!(!o)) (ß ((ile 0 b)&&(ilt b (ì a))) (ĸ a (Int.toNat b) fun s=>ck (b+(1:Int)) fun p=>ck (c+(1:Int)) fun q=>d p q (List.set a (Int.toNat b) e))) (ck (c+(1:Int)) fun r=>d b r a))) (n (b,a))
def PW (b:Val Â) (k:Val ag→Option ρ):Option ρ :=
  Ã (mn b.2) fun g=>xT (fun(h:Val ag) (i:Val aj) j=>Bc h i (fun l=>j l)) g ([]) (fun f=>Ã (ĵ f (Ø f) b) fun c=>Ê (fun(m:Int) n=>uq (Ø c.1) b.1.1.1 b.1.1.2 b.1.2.1 b.1.2.2.1 b.1.2.2.2.1 b.1.2.2.2.2.1 b.1.2.2.2.2.2 b.2 c.1 m (fun o=>n o) (fun d=>ifb (ieq d (-1:Int)) (k c.1) (ck (d+(1:Int)) fun p=>Ê (fun(e:(Val (.pair tI aB))) q=>l8 b.1.1.1 b.1.1.2 b.1.2.1 b.1.2.2.1 b.1.2.2.2.1 b.1.2.2.2.2.1 b.1.2.2.2.2.2 b.2 e.1 e.2.1 e.2.2 (fun r s t=>q (r,s,t)) (fun a=>ß ((ile 0 a.1)&&(ile a.1 (ì a.2))) (ß ((ile 0 a.1)&&(ile a.1 (ì (List.take (Int.toNat a.1) a.2++List.replicate (List.length a.2-(Int.toNat a.1)) ([])++List.drop ((Int.toNat a.1)+(List.length a.2-(Int.toNat a.1))) a.2)))) (k (List.take (Int.toNat a.1) (List.drop 0 (List.take (Int.toNat a.1) a.2++List.replicate (List.length a.2-(Int.toNat a.1)) ([])++List.drop ((Int.toNat a.1)+(List.length a.2-(Int.toNat a.1))) a.2))))))) (d,p,c.1))) (fun _=>k c.1)) (0:Int))
def D3 (a:Val Â):Option ((Val ag)):=PW a some
def Wh (a:Val Â) (k:(Val (.pair ag tI))→Option ρ):Option ρ :=
  Ã (ŗ a) fun b=>ifb (ine b 0) (k ([],b)) (Ã (D3 a) fun c=>k (c,(0:Int)))
def Rq (a:Val Â):Option ((Val (.pair ag tI))):=Wh a some
def AZ (a:Val ag) (y:Val aj) (b:Val ag→Option ρ):Option ρ :=
  ß (æ ((List.length a)+(List.length ([y])))) (b (a++([y])))
def PO (a:Val Â) (k:Val ag→Option ρ):Option ρ :=
  Ã (mn a.2) fun c=>xT (fun(d:Val ag) (e:Val aj) f=>AZ d e (fun g=>f g)) c ([]) (fun b=>Ã (ĵ b (Ø b) a) fun h=>k h.1)
def ro (a:Val Â):Option ((Val ag)):=PO a some
def jU (c:Val ag) (d:Int) (e:Int) (f:Int) (g:Val af) (h:Val ab) (i:Val ah) (j:Val ac) (k:Val ab) (l:Val ai) (a:Int) (m:Int→Option ρ) (n:(Val (.pair aj .bool))→Option ρ) (o:Unit→Option ρ):Option ρ :=
  ifb (ilt a d) (Ĭ c a fun b=>Ã (Θ (((e,f),g,h,i,j,k),l) b) fun p=>ifb p (n (b,true)) (ck (a+(1:Int)) fun q=>m q)) (o ())
def ur (a:Val Â) (k:(Val (.pair aj .bool))→Option ρ):Option ρ :=
  Ã (ro a) fun b=>Ê (fun(d:Int) e=>jU b (Ø b) a.1.1.1 a.1.1.2 a.1.2.1 a.1.2.2.1 a.1.2.2.2.1 a.1.2.2.2.2.1 a.1.2.2.2.2.2 a.2 d (fun f=>e f) (fun c=>k (c.1,c.2)) (fun _=>k ([],false))) (0:Int)
def ô (a:Val Â):Option ((Val (.pair aj .bool))):=ur a some
def JO (a:Val Â) (k:(Val (.pair aj tI))→Option ρ):Option ρ :=
  Ã (ŗ a) fun b=>ifb (ine b 0) (k ([],b)) (Ã (ô a) fun c=>ifb (!c.2) (k ([],(5:Int))) (k (c.1,(0:Int))))
def nE (a:Val Â):Option ((Val (.pair aj tI))):=JO a some
def jW (b:Val aa) (c:Val aa) (a:Int) (d:Int→Option ρ) (e:Bool→Option ρ) (f:Unit→Option ρ):Option ρ :=
  ifb (ilt a (Ø b)) (Ĭ b a fun g=>Ĭ c a fun h=>ifb (ine g h) (e false) (ck (a+(1:Int)) fun i=>d i)) (f ())
def uF (a:Val aa) (b:Val aa) (k:Bool→Option ρ):Option ρ :=
  ifb (ine (Ø a) (Ø b)) (k false) (Ê (fun(c:Int) d=>jW a b c (fun e=>d e) (fun f=>k f) (fun _=>k true)) (0:Int))
def jj (a:Val aa) (b:Val aa):Option (Bool):=uF a b some
def kY (b:Val aj) (c:Val aj) (a:Int) (d:Int→Option ρ) (e:Bool→Option ρ) (f:Unit→Option ρ):Option ρ :=
  ifb (ilt a (Ø b)) (Ĭ b a fun g=>Ĭ c a fun h=>Ã (jj g h) fun i=>ifb (!i) (e false) (ck (a+(1:Int)) fun j=>d j)) (f ())
def xq (a:Val aj) (b:Val aj) (k:Bool→Option ρ):Option ρ :=
  ifb (ine (Ø a) (Ø b)) (k false) (Ê (fun(c:Int) d=>kY a b c (fun e=>d e) (fun f=>k f) (fun _=>k true)) (0:Int))
def rq (a:Val aj) (b:Val aj):Option (Bool):=xq a b some
def qB (b:Val af) (c:Int) (d:Int) (a:Int) (e:Int→Option ρ) (f:Int→Option ρ) (g:Unit→Option ρ):Option ρ :=
  ifb (ilt a c) (Ĭ b a fun h=>ifb (ieq h.1 d) (f a) (ck (a+(1:Int)) fun i=>e i)) (g ())
def Jp (a:Val Â) (c:Int) (b:Int) (k:Int→Option ρ):Option ρ :=
  ifb (ilt b 0) (k (1:Int)) (ifb (igt b 20000) (k (1:Int)) (Ê (fun(d:Int) e=>qB a.1.2.1 (Ø a.1.2.1) c d (fun f=>e f) (fun g=>ifb (!(ige g 0)) (k (5:Int)) (k (0:Int))) (fun _=>k (5:Int))) (0:Int)))
def tF (a:Val Â) (b:Int) (c:Int):Option (Int):=Jp a b c some
def FK (a:Val aa) (b:Val aa) (k:(Val (.pair aa ax))→Option ρ):Option ρ :=
  Ã (mr a) fun c=>ifb (!c) (k ([],[],(1:Int))) (Ã (mr b) fun d=>ifb (!d) (k ([],[],(1:Int))) (Ã (Ι a b) fun e=>Ã (Ι b a) fun f=>k (e,f,(0:Int))))
def oU (a:Val aa) (b:Val aa):Option ((Val (.pair aa ax))):=FK a b some
def jV (g:Int) (b:Int) (c:Val ac) (a:Int) (d:Int→Option ρ) (h:Int→Option ρ) (i:Unit→Option ρ):Option ρ :=
  ifb (ilt a g) (ß ((ile 0 a)&&(ilt a (ì c))) (ĸ c (Int.toNat a) fun e=>Ã (oU e.2.2.1 e.2.2.2.1) fun f=>Ã (Û f.1 b) fun j=>ifb j (ck (a+(1:Int)) fun k=>d k) (Ã (Û f.2.1 b) fun l=>ifb (!l) (h a) (ck (a+(1:Int)) fun m=>d m)))) (i ())
def Α (f:Int) (a:Int) (c:Int) (b:Val ac) (e:Int→Int→Val ac→Option ρ) (h:Val aH→Option ρ):Option ρ :=
  ifb (ilt c (Ø b)) (ß ((ile 0 c)&&(ilt c (ì b))) (ĸ b (Int.toNat c) fun d=>Ã (oU d.2.2.1 d.2.2.2.1) fun g=>Ã (Û g.1 f) fun i=>ifb i (ß ((ile 0 a)&&(ilt a (ì b))) (ĸ b (Int.toNat a) fun p=>ck (a+(1:Int)) fun j=>ck (c+(1:Int)) fun k=>e j k (List.set b (Int.toNat a) d))) (Ã (Û g.2.1 f) fun l=>ifb (!(!l)) (ß ((ile 0 a)&&(ilt a (ì b))) (ĸ b (Int.toNat a) fun q=>ck (a+(1:Int)) fun m=>ck (c+(1:Int)) fun n=>e m n (List.set b (Int.toNat a) d))) (ck (c+(1:Int)) fun o=>e a o b)))) (h (a,b))
def ut (b:Val Â) (c:Int) (k:Val aP→Option ρ):Option ρ :=
  Ã (ŗ b) fun f=>ifb (ine f 0) (k (false,f)) (Ã (tF b c (0:Int)) fun g=>ifb (ine g 0) (k (false,g)) (ß (æ (List.length b.1.2.2.2.2.1)) (Ê (fun(h:Int) i=>jV (Ø b.1.2.2.2.2.1) c b.1.2.2.2.2.1 h (fun j=>i j) (fun d=>ifb (ieq d (-1:Int)) (Ã (ô b) fun l=>k ((!l.2),(0:Int))) (ck (d+(1:Int)) fun m=>Ê (fun(e:(Val (.pair tI aH))) n=>Α c e.1 e.2.1 e.2.2 (fun o p q=>n (o,p,q)) (fun a=>ß ((ile 0 a.1)&&(ile a.1 (ì a.2))) (ß ((ile 0 a.1)&&(ile a.1 (ì (List.take (Int.toNat a.1) a.2++List.replicate (List.length a.2-(Int.toNat a.1)) ((0:Int),(0:Int),[],[],(0:Int),(0:Int),(0:Int),(0:Int))++List.drop ((Int.toNat a.1)+(List.length a.2-(Int.toNat a.1))) a.2)))) (Ã (ô ((b.1.1,b.1.2.1,b.1.2.2.1,b.1.2.2.2.1,(List.take (Int.toNat a.1) (List.drop 0 (List.take (Int.toNat a.1) a.2++List.replicate (List.length a.2-(Int.toNat a.1)) ((0:Int),(0:Int),[],[],(0:Int),(0:Int),(0:Int),(0:Int))++List.drop ((Int.toNat a.1)+(List.length a.2-(Int.toNat a.1))) a.2))),b.1.2.2.2.2.2),b.2)) fun r=>k ((!r.2),(0:Int)))))) (d,m,b.1.2.2.2.2.1))) (fun _=>Ã (ô b) fun s=>k ((!s.2),(0:Int)))) (0:Int))))
def oA (a:Val Â) (b:Int):Option ((Val aP)):=ut a b some
def un (c:Int) (d:Val aa) (b:Val ac) (a:Int) (e:Int→Option ρ) (f:Int→Option ρ) (g:Unit→Option ρ):Option ρ :=
  ifb (ilt a c) (ß ((ile 0 a)&&(ilt a (ì b))) (ĸ b (Int.toNat a) fun h=>Ã (Û d h.1) fun i=>ifb (!i) (f a) (ck (a+(1:Int)) fun j=>e j))) (g ())
def l6 (f:Val aa) (b:Int) (c:Int) (a:Val ac) (d:Int→Int→Val ac→Option ρ) (g:Val aH→Option ρ):Option ρ :=
  ifb (ilt c (Ø a)) (ß ((ile 0 c)&&(ilt c (ì a))) (ĸ a (Int.toNat c) fun e=>Ã (Û f e.1) fun h=>ifb (!(!h)) (ß ((ile 0 b)&&(ilt b (ì a))) (ĸ a (Int.toNat b) fun l=>ck (b+(1:Int)) fun i=>ck (c+(1:Int)) fun j=>d i j (List.set a (Int.toNat b) e))) (ck (c+(1:Int)) fun k=>d b k a))) (g (b,a))
def PP (b:Val Â) (e:Val aa) (k:Val Â→Option ρ):Option ρ :=
  ß (æ (List.length b.1.2.2.2.2.1)) (Ê (fun(f:Int) g=>un (Ø b.1.2.2.2.2.1) e b.1.2.2.2.2.1 f (fun h=>g h) (fun c=>ifb (ieq c (-1:Int)) (k b) (ck (c+(1:Int)) fun i=>Ê (fun(d:(Val (.pair tI aH))) j=>l6 e d.1 d.2.1 d.2.2 (fun l m n=>j (l,m,n)) (fun a=>ß ((ile 0 a.1)&&(ile a.1 (ì a.2))) (ß ((ile 0 a.1)&&(ile a.1 (ì (List.take (Int.toNat a.1) a.2++List.replicate (List.length a.2-(Int.toNat a.1)) ((0:Int),(0:Int),[],[],(0:Int),(0:Int),(0:Int),(0:Int))++List.drop ((Int.toNat a.1)+(List.length a.2-(Int.toNat a.1))) a.2)))) (k ((b.1.1,b.1.2.1,b.1.2.2.1,b.1.2.2.2.1,(List.take (Int.toNat a.1) (List.drop 0 (List.take (Int.toNat a.1) a.2++List.replicate (List.length a.2-(Int.toNat a.1)) ((0:Int),(0:Int),[],[],(0:Int),(0:Int),(0:Int),(0:Int))++List.drop ((Int.toNat a.1)+(List.length a.2-(Int.toNat a.1))) a.2))),b.1.2.2.2.2.2),b.2))))) (c,i,b.1.2.2.2.2.1))) (fun _=>k b)) (0:Int))
def vm (a:Val Â) (b:Val aa):Option (Val Â):=PP a b some
def uz (d:Val ac) (e:Int) (a:Int) (b:Val aa) (f:Int→Val aa→Option ρ) (g:Val aa→Option ρ):Option ρ :=
  ifb (ilt a e) (Ĭ d a fun c=>ß (æ ((List.length b)+(List.length ([c.1])))) (ck (a+(1:Int)) fun h=>f h (b++([c.1])))) (g b)
def ph (f:Int) (g:Int) (h:Val af) (i:Val ab) (j:Val ah) (k:Val ac) (l:Val ab) (m:Val ai) (b:Val aa) (a:Int) (d:Val aa→Int→Option ρ) (n:Val aa→Option ρ):Option ρ :=
  ifb (ige a 0) (ß ((ile 0 a)&&(ile a (ì b))) (ck (a+(1:Int)) fun c=>ß ((ile 0 c)&&(ile c (ì b))) (Ã (Ħ ([(List.take (Int.toNat a) b),(List.drop (Int.toNat c) b)])) fun e=>Ã (vm (((f,g),h,i,j,k,l),m) e) fun o=>Ã (ô o) fun p=>ifb (!p.2) (ck (a-(1:Int)) fun q=>d e q) (ck (a-(1:Int)) fun r=>d b r)))) (n b)
def Qb (a:Val Â) (k:Val ax→Option ρ):Option ρ :=
  Ã (ŗ a) fun b=>ifb (ine b 0) (k ([],b)) (Ã (ô a) fun f=>ifb f.2 (k ([],(5:Int))) (Ê (fun(c:Val Ğ) g=>uz a.1.2.2.2.2.1 (Ø a.1.2.2.2.2.1) c.1 c.2 (fun h i=>g (h,i)) (fun d=>ck ((Ø d)-(1:Int)) fun j=>Ê (fun(e:Val ax) l=>ph a.1.1.1 a.1.1.2 a.1.2.1 a.1.2.2.1 a.1.2.2.2.1 a.1.2.2.2.2.1 a.1.2.2.2.2.2 a.2 e.1 e.2 (fun m n=>l (m,n)) (fun o=>k (o,(0:Int)))) (d,j))) ((0:Int),[])))
def oB (a:Val Â):Option ((Val ax)):=Qb a some
def ot (e:Int) (f:Val aa) (g:Int) (a:Int) (b:Val aa) (c:Int→Val aa→Option ρ) (h:Val aa→Option ρ):Option ρ :=
  ifb (ilt a g) (Ĭ f a fun d=>ß (ile 0 a) (ifb (ieq (andI .i64 (hZ .i64 e a) (1:Int)) 1) (ß (æ ((List.length b)+(List.length ([d])))) (ck (a+(1:Int)) fun i=>c i (b++([d])))) (ck (a+(1:Int)) fun j=>c j b))) (h b)
def EX (a:Val aa) (c:Int) (k:Val aa→Option ρ):Option ρ :=
  Ê (fun(b:Val Ğ) d=>ot c a (Ø a) b.1 b.2 (fun e f=>d (e,f)) (fun g=>k g)) ((0:Int),[])
def iB (a:Val aa) (b:Int):Option ((Val aa)):=EX a b some
def kM (b:Val ac) (c:Int) (d:Int) (a:Int) (e:Int→Option ρ) (f:Int→Option ρ) (g:Unit→Option ρ):Option ρ :=
  ifb (ilt a c) (Ĭ b a fun h=>ifb (ieq h.1 d) (f a) (ck (a+(1:Int)) fun i=>e i)) (g ())
def π (d:Val aa) (e:Int) (b:Val ac) (a:Int) (f:Int→Option ρ) (c:Int→Option ρ) (g:Unit→Option ρ):Option ρ :=
  ifb (ilt a e) (Ĭ d a fun h=>Ê (fun(i:Int) j=>kM b (Ø b) h i (fun k=>j k) (fun l=>ifb (!(ige l 0)) (c (5:Int)) (ck (a+(1:Int)) fun m=>f m)) (fun _=>c (5:Int))) (0:Int)) (g ())
def iQ (b:Val aa) (a:Int) (c:Int→Option ρ) (d:Int→Option ρ) (e:Unit→Option ρ):Option ρ :=
  ifb (ilt a (Ø b)) (Ĭ b a fun f=>ck (a-(1:Int)) fun g=>Ĭ b g fun h=>ifb (ile f h) (d (6:Int)) (ck (a+(1:Int)) fun i=>c i)) (e ())
def iP (c:Val ag) (d:Int) (e:Int) (f:Int) (g:Val af) (h:Val ab) (i:Val ah) (j:Val ac) (k:Val ab) (l:Val ai) (m:Val aa) (n:Int) (a:Int) (o:Int→Option ρ) (p:(Val (.pair aj .bool))→Option ρ) (q:Unit→Option ρ):Option ρ :=
  ifb (ilt a d) (Ĭ c a fun b=>Ã (iB m n) fun r=>Ã (vm (((e,f),g,h,i,j,k),l) r) fun s=>Ã (Θ s b) fun t=>ifb (!(!t)) (p (b,true)) (ck (a+(1:Int)) fun u=>o u)) (q ())
def Ŵ (b:Val aa) (e:Val aa) (f:Int) (a:Int) (g:Int→Option ρ) (c:Int→Option ρ) (h:Unit→Option ρ):Option ρ :=
  ifb (ilt a f) (Ĭ e a fun i=>ifb (ige a (Ø b)) (c (1:Int)) (Ĭ b a fun j=>Ã (gW i j) fun d=>ifb (ine d 0) (c d) (ck (a+(1:Int)) fun k=>g k))) (h ())
def ŕ (c:Int) (d:Int) (b:Val aa) (a:Int) (e:Int→Option ρ) (f:Unit→Option ρ) (g:Unit→Option ρ):Option ρ :=
  ifb (ilt a d) (ß ((ile 0 a)&&(ilt a (ì b))) (ĸ b (Int.toNat a) fun h=>ifb (ieq (Gb .i64 c h) 0) (f ()) (ck (a+(1:Int)) fun i=>e i))) (g ())
def Ŕ (b:Int) (d:Val ag) (e:Int) (f:Val aa) (g:Int) (h:Int) (i:Val af) (j:Val ab) (k:Val ah) (l:Val ac) (m:Val ab) (n:Val ai) (c:Int) (a:Val aa) (o:Int→Val aa→Option ρ) (p:Val aa→Option ρ) (q:Val aa→Option ρ):Option ρ :=
  ifb (ilt c e) (Ĭ d c fun r=>Ã (iB f b) fun s=>Ã (vm (((g,h),i,j,k,l,m),n) s) fun t=>Ã (Θ t r) fun u=>ifb (!(!u)) (ß (æ ((List.length a)+(List.length ([b])))) (p (a++([b])))) (ck (c+(1:Int)) fun v=>o v a)) (q a)
def ŵ (g:Val ag) (t:Int) (h:Val aa) (i:Int) (j:Int) (k:Val af) (l:Val ab) (m:Val ah) (n:Val ac) (o:Val ab) (p:Val ai) (c:Val aa) (e:Int) (a:Int) (b:Val aa) (d:Val aa→Int→Int→Val aa→Option ρ) (u:Val Ğ→Option ρ):Option ρ :=
  ifb (ilt a t) (Ã (iB h a) fun f=>ifb (igt (Ø f) (Ø c)) (ck (a+(1:Int)) fun v=>d c e v b) (ifb (ieq (Ø f) (Ø c)) (Ê (fun(w:Int) x=>Ŵ c f (Ø f) w (fun y=>x y) (fun z=>ifb (ige z 0) (ck (a+(1:Int)) fun A=>d c e A b) (Ê (fun(B:Int) C=>ŕ a (Ø b) b B (fun D=>C D) (fun _=>ck (a+(1:Int)) fun E=>d c e E b) (fun _=>Ê (fun(q:Val Ğ) F=>Ŕ a g (Ø g) h i j k l m n o p q.1 q.2 (fun G H=>F (G,H)) (fun I=>ck (a+(1:Int)) fun J=>d c e J I) (fun K=>ck (a+(1:Int)) fun L=>d f a L K)) ((0:Int),b))) (0:Int))) (fun _=>ifb (ilt (Ø f) (Ø c)) (Ê (fun(M:Int) N=>ŕ a (Ø b) b M (fun O=>N O) (fun _=>ck (a+(1:Int)) fun P=>d c e P b) (fun _=>Ê (fun(r:Val Ğ) Q=>Ŕ a g (Ø g) h i j k l m n o p r.1 r.2 (fun R S=>Q (R,S)) (fun T=>ck (a+(1:Int)) fun U=>d c e U T) (fun V=>ck (a+(1:Int)) fun W=>d f a W V)) ((0:Int),b))) (0:Int)) (ck (a+(1:Int)) fun X=>d c e X b))) (0:Int)) (Ê (fun(Y:Int) Z=>ŕ a (Ø b) b Y (fun dc=>Z dc) (fun _=>ck (a+(1:Int)) fun df=>d c e df b) (fun _=>Ê (fun(s:Val Ğ) dg=>Ŕ a g (Ø g) h i j k l m n o p s.1 s.2 (fun dh di=>dg (dh,di)) (fun dj=>ck (a+(1:Int)) fun dk=>d c e dk dj) (fun dl=>ck (a+(1:Int)) fun dm=>d f a dm dl)) ((0:Int),b))) (0:Int)))) (u (e,b))
def xg (a:Val Â) (b:Val aa) (k:Val ax→Option ρ):Option ρ :=
  Ã (ŗ a) fun g=>ifb (ine g 0) (k ([],g)) (ifb (igt (Ø b) 8) (k ([],(2:Int))) (Ê (fun(h:Int) i=>π b (Ø b) a.1.2.2.2.2.1 h (fun j=>i j) (fun l=>k ([],l)) (fun _=>Ê (fun(m:Int) n=>iQ b m (fun o=>n o) (fun p=>k ([],p)) (fun _=>Ã (ro a) fun d=>ß (ile 0 (Ø b)) (ck ((shlI .i64 (1:Int) (Ø b))-(1:Int)) fun c=>Ê (fun(q:Int) r=>iP d (Ø d) a.1.1.1 a.1.1.2 a.1.2.1 a.1.2.2.1 a.1.2.2.2.1 a.1.2.2.2.2.1 a.1.2.2.2.2.2 a.2 b c q (fun s=>r s) (fun t=>ifb t.2 (k ([],(5:Int))) (Ê (fun(e:(Val (.pair aa aG))) u=>ŵ d c b a.1.1.1 a.1.1.2 a.1.2.1 a.1.2.2.1 a.1.2.2.2.1 a.1.2.2.2.2.1 a.1.2.2.2.2.2 a.2 e.1 e.2.1 e.2.2.1 e.2.2.2 (fun v w x y=>u (v,w,x,y)) (fun z=>Ã (iB b z.1) fun A=>k (A,(0:Int)))) (b,c,(0:Int),[]))) (fun _=>Ê (fun(f:(Val (.pair aa aG))) B=>ŵ d c b a.1.1.1 a.1.1.2 a.1.2.1 a.1.2.2.1 a.1.2.2.2.1 a.1.2.2.2.2.1 a.1.2.2.2.2.2 a.2 f.1 f.2.1 f.2.2.1 f.2.2.2 (fun C D E F=>B (C,D,E,F)) (fun G=>Ã (iB b G.1) fun H=>k (H,(0:Int)))) (b,c,(0:Int),[]))) (0:Int)))) (1:Int))) (0:Int)))
def ĥ (a:Val Â) (b:Val aa):Option ((Val ax)):=xg a b some
def P3 (a:Val Â) (k:(Val (.pair ag tI))→Option ρ):Option ρ :=
  Ã (ŗ a) fun b=>ifb (ine b 0) (k ([],b)) (Ã (ro a) fun c=>k (c,(0:Int)))
def Il (a:Val Â):Option ((Val (.pair ag tI))):=P3 a some
def KK (a:Val È) (d:Val Ä) (k:Val Ä→Option ρ):Option ρ :=
  Ã (ī a) fun b=>ifb (ine b 0) (k ((0:Int),b)) (Ã (pK a) fun e=>Ã (ó e d) fun c=>ifb (ilt c 0) (k ((0:Int),(5:Int))) (ck (c+(1:Int)) fun f=>k (f,(0:Int))))
def pL (a:Val È) (b:Val Ä):Option (Val Ä):=KK a b some
def vd (f:Int) (a:Int) (c:Val ac) (g:Int→Val ac→Option ρ) (h:Val ac→Option ρ):Option ρ :=
  ifb (ilt a f) (ß ((ile 0 a)&&(ilt a (ì c))) (ĸ c (Int.toNat a) fun d=>ß (æ (List.length d.2.2.1)) (ß (æ (List.length d.2.2.2.1)) (ß ((ile 0 a)&&(ilt a (ì c))) (ĸ c (Int.toNat a) fun b=>ß ((ile 0 a)&&(ilt a (ì (List.set c (Int.toNat a) (b.1,b.2.1,d.2.2.1,b.2.2.2))))) (ĸ (List.set c (Int.toNat a) (b.1,b.2.1,d.2.2.1,b.2.2.2)) (Int.toNat a) fun e=>ck (a+(1:Int)) fun i=>g i (List.set (List.set c (Int.toNat a) (b.1,b.2.1,d.2.2.1,b.2.2.2)) (Int.toNat a) (e.1,e.2.1,e.2.2.1,d.2.2.2.1,e.2.2.2.2)))))))) (h c)
def QY (a:Val È) (b:Val Ä) (k:(Val (.pair È tI))→Option ρ):Option ρ :=
  Ã (ī a) fun c=>ifb (ine c 0) (k ((((0:Int),(0:Int)),[],[],[],[],[]),c)) (ß (æ (List.length a.2.1)) (ß (æ (List.length a.2.2.1)) (ß (æ (List.length a.2.2.2.1)) (ß (æ (List.length a.2.2.2.2.2)) (ß (æ (List.length a.2.2.2.2.1)) (Ê (fun(d:Val aH) g=>vd (Ø a.2.2.2.2.1) d.1 d.2 (fun h i=>g (h,i)) (fun e=>ß (æ ((List.length a.2.2.2.2.2)+(List.length ([b])))) (Ã (ī (a.1,a.2.1,a.2.2.1,a.2.2.2.1,e,(a.2.2.2.2.2++([b])))) fun f=>ifb (ine f 0) (k ((((0:Int),(0:Int)),[],[],[],[],[]),f)) (k ((a.1,a.2.1,a.2.2.1,a.2.2.2.1,e,(a.2.2.2.2.2++([b]))),(0:Int)))))) ((0:Int),a.2.2.2.2.1)))))))
def Iq (a:Val È) (b:Val Ä):Option ((Val (.pair È tI))):=QY a b some
def qN (b:Val aa) (c:Int) (d:Int) (e:Val ak) (a:Int) (f:Int→Option ρ) (g:Int→Option ρ) (h:Unit→Option ρ):Option ρ :=
  ifb (ilt a c) (Ĭ b a fun i=>Ã (yM (d,e) i) fun j=>ifb (!j) (g (1:Int)) (ck (a+(1:Int)) fun k=>f k)) (h ())
def JZ (a:Val Ì) (b:Val aa) (k:Int→Option ρ):Option ρ :=
  Ã (pI a) fun c=>ifb (ine c.1 0) (k c.1) (Ê (fun(d:Int) e=>qN b (Ø b) a.1 a.2 d (fun f=>e f) (fun g=>k g) (fun _=>Ã (kp a ([])) fun h=>ifb (!h.2) (k (9:Int)) (k (0:Int)))) (0:Int))
def D8 (a:Val Ì) (b:Val aa):Option (Int):=JZ a b some
def ow (c:Int) (a:Int) (b:Val aa) (d:Int→Val aa→Option ρ) (e:Val aa→Option ρ):Option ρ :=
  ifb (ilt a c) (ß ((ile 0 a)&&(ilt a (ì b))) (ĸ b (Int.toNat a) fun g=>ck (a+(1:Int)) fun f=>d f (List.set b (Int.toNat a) (1152921504606846976:Int)))) (e b)
def uK (c:Val ak) (d:Int) (b:Int) (a:Int) (e:Int→Int→Option ρ) (f:Int→Option ρ):Option ρ :=
  ifb (ilt a d) (Ĭ c a fun g=>ck (b+(Yv g.2.2 (0:Int))) fun h=>ck (a+(1:Int)) fun i=>e h i) (f b)
def uJ (f:Int) (d:Val aa) (a:Int) (b:Val aq) (c:Val aa) (e:Int→Val aq→Val aa→Option ρ) (g:Val aL→Option ρ):Option ρ :=
  ifb (ilt a f) (ß ((ile 0 a)&&(ilt a (ì d))) (ĸ d (Int.toNat a) fun h=>ifb (ine h 1152921504606846976) (ß (æ ((List.length c)+(List.length ([a])))) (ß ((ile 0 a)&&(ilt a (ì b))) (ĸ b (Int.toNat a) fun k=>ck (a+(1:Int)) fun i=>e i (List.set b (Int.toNat a) true) (c++([a]))))) (ck (a+(1:Int)) fun j=>e j b c))) (g (b,c))
def C6 (m:Val ao) (j:Int) (d:Int) (n:Val ak) (o:Int) (f:Int) (b:Val aa) (c:Val aq) (e:Val aa) (g:Int→Val aa→Val aq→Val aa→Option ρ) (l:(Val (.pair .bool (.pair aa aL)))→Option ρ) (p:(Val (.pair aa aL))→Option ρ):Option ρ :=
  ifb (ilt f o) (Ĭ n f fun a=>ifb (ine a.1 d) (ck (f+(1:Int)) fun q=>g q b c e) (L5 (k:=tI) (v:=.bool) f m (fun r=>ifb r (ck (f+(1:Int)) fun s=>g s b c e) (ß ((ile 0 d)&&(ilt d (ì b))) (ĸ b (Int.toNat d) fun t=>ck (t+a.2.2) fun u=>ß ((ile 0 a.2.1)&&(ilt a.2.1 (ì b))) (ĸ b (Int.toNat a.2.1) fun w=>ifb (ige u w) (ck (f+(1:Int)) fun x=>g x b c e) (ß ((ile 0 d)&&(ilt d (ì b))) (ĸ b (Int.toNat d) fun y=>ck (y+a.2.2) fun h=>ß ((ile 0 a.2.1)&&(ilt a.2.1 (ì b))) (ĸ b (Int.toNat a.2.1) fun M=>ß ((ile 0 a.2.1)&&(ilt a.2.1 (ì (List.set b (Int.toNat a.2.1) h)))) (ĸ (List.set b (Int.toNat a.2.1) h) (Int.toNat a.2.1) fun z=>ifb (ilt z j) (l (false,(List.set b (Int.toNat a.2.1) h),c,e)) (ß ((ile 0 a.2.1)&&(ilt a.2.1 (ì c))) (ĸ c (Int.toNat a.2.1) fun A=>ifb (!A) (ß (æ ((List.length e)+(List.length ([a.2.1])))) (ß ((ile 0 a.2.1)&&(ilt a.2.1 (ì c))) (ĸ c (Int.toNat a.2.1) fun N=>ck (f+(1:Int)) fun B=>g B (List.set b (Int.toNat a.2.1) h) (List.set c (Int.toNat a.2.1) true) (e++([a.2.1]))))) (ck (f+(1:Int)) fun C=>g C (List.set b (Int.toNat a.2.1) h) c e))))))))))) (ß ((ile 0 d)&&(ilt d (ì b))) (ĸ b (Int.toNat d) fun D=>ck (D+a.2.2) fun E=>ß ((ile 0 a.2.1)&&(ilt a.2.1 (ì b))) (ĸ b (Int.toNat a.2.1) fun F=>ifb (ige E F) (ck (f+(1:Int)) fun G=>g G b c e) (ß ((ile 0 d)&&(ilt d (ì b))) (ĸ b (Int.toNat d) fun H=>ck (H+a.2.2) fun i=>ß ((ile 0 a.2.1)&&(ilt a.2.1 (ì b))) (ĸ b (Int.toNat a.2.1) fun O=>ß ((ile 0 a.2.1)&&(ilt a.2.1 (ì (List.set b (Int.toNat a.2.1) i)))) (ĸ (List.set b (Int.toNat a.2.1) i) (Int.toNat a.2.1) fun I=>ifb (ilt I j) (l (false,(List.set b (Int.toNat a.2.1) i),c,e)) (ß ((ile 0 a.2.1)&&(ilt a.2.1 (ì c))) (ĸ c (Int.toNat a.2.1) fun J=>ifb (!J) (ß (æ ((List.length e)+(List.length ([a.2.1])))) (ß ((ile 0 a.2.1)&&(ilt a.2.1 (ì c))) (ĸ c (Int.toNat a.2.1) fun P=>ck (f+(1:Int)) fun K=>g K (List.set b (Int.toNat a.2.1) i) (List.set c (Int.toNat a.2.1) true) (e++([a.2.1]))))) (ck (f+(1:Int)) fun L=>g L (List.set b (Int.toNat a.2.1) i) c e)))))))))))) (p (b,c,e))
def uI (l:Val ao) (m:Int) (n:Int) (k:Val ak) (h:Val aa) (d:Val aq) (b:Val aa) (c:Val aa) (o:Val aa→Val aq→Val aa→Val aa→Option ρ) (i:(Val (.pair .bool aM))→Option ρ):Option ρ :=
  ifb (ieq (Ø c) 0) (i (true,h,d,b,c)) (ß (ilt 0 (ì c)) (ĸ c 0 fun a=>ß (ile 1 (ì c)) (ß (decide (1+(List.length c-1)=List.length c)) (ß ((ile 0 a)&&(ilt a (ì d))) (ĸ d (Int.toNat a) fun x=>ß ((ile 0 a)&&(ilt a (ì b))) (ĸ b (Int.toNat a) fun p=>ck (p+(1:Int)) fun e=>ß ((ile 0 a)&&(ilt a (ì b))) (ĸ b (Int.toNat a) fun y=>ß ((ile 0 a)&&(ilt a (ì (List.set b (Int.toNat a) e)))) (ĸ (List.set b (Int.toNat a) e) (Int.toNat a) fun q=>ck (n+(1:Int)) fun r=>ifb (igt q r) (i (false,h,(List.set d (Int.toNat a) false),(List.set b (Int.toNat a) e),(List.drop 1 c))) (Ê (fun(f:(Val (.pair tI (.pair aa aL)))) s=>C6 l m a k (Ø k) f.1 f.2.1 f.2.2.1 f.2.2.2 (fun t u v w=>s (t,u,v,w)) (fun g=>i (g.1,g.2.1,g.2.2.1,(List.set b (Int.toNat a) e),g.2.2.2)) (fun j=>o j.1 j.2.1 (List.set b (Int.toNat a) e) j.2.2)) ((0:Int),h,(List.set d (Int.toNat a) false),(List.drop 1 c)))))))))))
def Fm (a:Val Ì) (i:Val ao) (b:Int) (k:Val aa→Option ρ):Option ρ :=
  ß ((ile 0 a.1)&&(æ (Int.toNat a.1))) (Ê (fun(f:Val Ğ) j=>ow (Ø (List.replicate (Int.toNat a.1) (0:Int))) f.1 f.2 (fun l m=>j (l,m)) (fun c=>ß ((ile 0 b)&&(ilt b (ì c))) (ĸ c (Int.toNat b) fun B=>ß ((ile 0 a.1)&&(æ (Int.toNat a.1))) (ß ((ile 0 a.1)&&(æ (Int.toNat a.1))) (Ê (fun(g:Val Ä) n=>uK a.2 (Ø a.2) g.1 g.2 (fun o p=>n (o,p)) (fun q=>Ê (fun(e:(Val (.pair tI aL))) r=>uJ a.1 (List.set c (Int.toNat b) (0:Int)) e.1 e.2.1 e.2.2 (fun s t u=>r (s,t,u)) (fun h=>Ê (fun(d:Val aM) v=>uI i q a.1 a.2 d.1 d.2.1 d.2.2.1 d.2.2.2 (fun w x y z=>v (w,x,y,z)) (fun A=>k A.2.1)) ((List.set c (Int.toNat b) (0:Int)),h.1,(List.replicate (Int.toNat a.1) (0:Int)),h.2))) ((0:Int),(List.replicate (Int.toNat a.1) false),[]))) ((0:Int),(0:Int))))))) ((0:Int),(List.replicate (Int.toNat a.1) (0:Int))))
def tG (a:Val Ì) (b:Val ao) (c:Int):Option ((Val aa)):=Fm a b c some
def qP (c:Int) (d:Int) (e:Val ak) (a:Int) (b:Val aa) (f:Int→Val aa→Option ρ) (g:Val aa→Option ρ):Option ρ :=
  ifb (ilt a c) (Ã (tG (d,e) ([]) a) fun h=>Ĭ h (0:Int) fun i=>ß ((ile 0 a)&&(ilt a (ì b))) (ĸ b (Int.toNat a) fun k=>ck (a+(1:Int)) fun j=>f j (List.set b (Int.toNat a) i))) (g b)
def qO (f:Val aa) (g:Int) (c:Val aa) (a:Int) (b:Val ab) (h:Int→Val ab→Option ρ) (i:Val ab→Option ρ):Option ρ :=
  ifb (ilt a g) (ß ((ile 0 a)&&(ilt a (ì c))) (ĸ c (Int.toNat a) fun j=>ck (0-j) fun d=>Ĭ f a fun e=>ß (æ ((List.length b)+(List.length ([(d,e)])))) (ck (a+(1:Int)) fun k=>h k (b++([(d,e)]))))) (i b)
def J2 (a:Val Ì) (k:Val bg→Option ρ):Option ρ :=
  Ã (D8 a ([])) fun b=>ifb (ine b 0) (k ([],b)) (Ã (tG a ([]) (0:Int)) fun c=>ß ((ile 0 a.1)&&(æ (Int.toNat a.1))) (Ê (fun(d:Val Ğ) f=>qP (Ø (List.replicate (Int.toNat a.1) (0:Int))) a.1 a.2 d.1 d.2 (fun g h=>f (g,h)) (fun i=>Ê (fun(e:Val ba) j=>qO c (Ø c) i e.1 e.2 (fun l m=>j (l,m)) (fun n=>k (n,(0:Int)))) ((0:Int),[]))) ((0:Int),(List.replicate (Int.toNat a.1) (0:Int)))))
def tJ (a:Val Ì):Option ((Val bg)):=J2 a some
def ES (a:Val È) (b:Val Ä) (k:Val BV→Option ρ):Option ρ :=
  Ã (pL a b) fun f=>ifb (ine f.2 0) (Ã (Iq a b) fun c=>ifb (ine c.2 0) (k (((0:Int),(0:Int)),c.2)) (Ã (pL c.1 b) fun g=>Ã (iD c.1) fun h=>Ã (tJ h.1) fun d=>ifb (ine d.2 0) (k (((0:Int),(0:Int)),d.2)) (Ĭ d.1 g.1 fun i=>k (i,(0:Int))))) (Ã (pL a b) fun j=>Ã (iD a) fun l=>Ã (tJ l.1) fun e=>ifb (ine e.2 0) (k (((0:Int),(0:Int)),e.2)) (Ĭ e.1 j.1 fun m=>k (m,(0:Int))))
def yJ (a:Val È) (b:Val Ä):Option (Val BV):=ES a b some
def ov (r:Int) (e:Int) (s:Val ag) (t:Int) (f:Int) (g:Int) (h:Val af) (i:Val ab) (j:Val ah) (l:Val ac) (m:Val ab) (n:Val ai) (c:Int) (a:Val aQ) (o:Int→Val aQ→Option ρ) (u:(Val (.pair tI aQ))→Option ρ) (w:Val aQ→Option ρ):Option ρ :=
  ifb (ilt c t) (Ĭ s c fun p=>Ã (sa (((f,g),h,i,j,l,m),n) p r e) fun d=>Ã (iu (((f,g),h,i,j,l,m),n) p) fun x=>Ã (yJ x (d,e)) fun b=>ifb (ine b.2 0) (u (b.2,a)) (L5 (k:=tI) (v:=Ä) d a (fun q=>ck (c+(1:Int)) fun y=>o y (Oe (k:=tI) (v:=Ä) d ((Yv b.1.1 q.1),(WU b.1.2 q.2)) a)) (ck (c+(1:Int)) fun z=>o z (Oe (k:=tI) (v:=Ä) d b.1 a)))) (w a)
def ou (f:Val af) (g:Int) (h:Val aQ) (a:Int) (b:Val ak) (d:Int→Val ak→Option ρ) (i:Val ak→Option ρ):Option ρ :=
  ifb (ilt a g) (Ĭ f a fun c=>L5 (k:=tI) (v:=Ä) c.1 h (fun e=>ß (æ ((List.length b)+(List.length ([(c.1,e)])))) (ck (a+(1:Int)) fun j=>d j (b++([(c.1,e)])))) (ck (a+(1:Int)) fun l=>d l b)) (i b)
def E7 (a:Val Â) (c:Int) (d:Int) (k:(Val (.pair ak tI))→Option ρ):Option ρ :=
  Ã (ŗ a) fun e=>ifb (ine e 0) (k ([],e)) (Ã (tF a c d) fun f=>ifb (ine f 0) (k ([],f)) (Ã (D3 a) fun b=>ifb (ieq (Ø b) 0) (k ([],(5:Int))) (Ê (fun(g:(Val (.pair tI aQ))) i=>ov c d b (Ø b) a.1.1.1 a.1.1.2 a.1.2.1 a.1.2.2.1 a.1.2.2.2.1 a.1.2.2.2.2.1 a.1.2.2.2.2.2 a.2 g.1 g.2 (fun j l=>i (j,l)) (fun m=>k ([],m.1)) (fun n=>Ê (fun(h:Val Ì) o=>ou a.1.2.1 (Ø a.1.2.1) n h.1 h.2 (fun p q=>o (p,q)) (fun r=>k (r,(0:Int)))) ((0:Int),[]))) ((0:Int),[]))))
def yL (a:Val Â) (b:Int) (c:Int):Option ((Val (.pair ak tI))):=E7 a b c some
def wY (a:Val aa) (y:Int) (b:Val aa→Option ρ):Option ρ :=
  ß (æ ((List.length a)+(List.length ([y])))) (b (a++([y])))
def qC (h:Val aj) (i:Int) (j:Val ai) (c:Int) (k:Int→Option ρ) (d:Bool→Option ρ) (l:Unit→Option ρ):Option ρ :=
  ifb (ilt c i) (Ĭ h c fun e=>Ĭ j c fun f=>ifb (ine (Ø e) (Ø f.2)) (d false) (Ã (yE e) fun m=>xT (fun(n:Val aa) (o:Int) p=>wY n o (fun q=>p q)) m ([]) (fun g=>ß (æ (List.length g)) (Ã (DZ (wt g)) fun a=>Ã (DZ f.2) fun b=>ifb (!((AB a.1 b.1)&&((AB a.2.1 b.2.1)&&((AB a.2.2.1 b.2.2.1)&&((AB a.2.2.2.1 b.2.2.2.1)&&((AB a.2.2.2.2 b.2.2.2.2)&&true)))))) (d false) (ck (c+(1:Int)) fun r=>k r))))) (l ())
def Jv (b:Val Â) (a:Val aj) (k:Bool→Option ρ):Option ρ :=
  ifb (ine (Ø a) (Ø b.2)) (k false) (Ê (fun(c:Int) d=>qC a (Ø a) b.2 c (fun e=>d e) (fun f=>k f) (fun _=>k true)) (0:Int))
def D0 (a:Val Â) (b:Val aj):Option (Bool):=Jv a b some
def JJ (a:Val Â) (c:Val aj) (k:Int→Option ρ):Option ρ :=
  Ã (ŗ a) fun b=>ifb (ine b 0) (k b) (Ã (D0 a c) fun d=>ifb (!d) (k (1:Int)) (k (0:Int)))
def D4 (a:Val Â) (b:Val aj):Option (Int):=JJ a b some
def Wc (a:Val Â) (b:Val aj) (c:Int) (d:Int) (k:Val Ä→Option ρ):Option ρ :=
  Ã (D4 a b) fun e=>ifb (ine e 0) (k ((0:Int),e)) (Ã (tF a c d) fun f=>ifb (ine f 0) (k ((0:Int),f)) (Ã (sa a b c d) fun g=>k (g,(0:Int))))
def Rp (a:Val Â) (b:Val aj) (c:Int) (d:Int):Option (Val Ä):=Wc a b c d some
def yx (c:Int) (a:Int) (b:Val aa) (d:Int→Val aa→Option ρ) (e:Val aa→Option ρ):Option ρ :=
  ifb (ilt a c) (ß ((ile 0 a)&&(ilt a (ì b))) (ĸ b (Int.toNat a) fun g=>ck (a+(1:Int)) fun f=>d f (List.set b (Int.toNat a) (1152921504606846976:Int)))) (e b)
def Qh (c:Int) (a:Int) (b:Val aa) (d:Int→Val aa→Option ρ) (e:Val aa→Option ρ):Option ρ :=
  ifb (ilt a c) (ß ((ile 0 a)&&(ilt a (ì b))) (ĸ b (Int.toNat a) fun g=>ck (a+(1:Int)) fun f=>d f (List.set b (Int.toNat a) (1152921504606846976:Int)))) (e b)
def C5 (d:Val aa) (f:Val ak) (g:Int) (c:Int) (b:Val aa) (e:Int→Val aa→Option ρ) (h:Val aa→Option ρ):Option ρ :=
  ifb (ilt c g) (Ĭ f c fun a=>Ĭ d a.2.1 fun i=>ifb (ine i 1152921504606846976) (ß ((ile 0 a.1)&&(ilt a.1 (ì b))) (ĸ b (Int.toNat a.1) fun j=>Ĭ d a.2.1 fun k=>ck (a.2.2+k) fun l=>ß ((ile 0 a.1)&&(ilt a.1 (ì b))) (ĸ b (Int.toNat a.1) fun o=>ck (c+(1:Int)) fun m=>e m (List.set b (Int.toNat a.1) (Yv j l))))) (ck (c+(1:Int)) fun n=>e n b)) (h b)
def Ib (i:Int) (b:Int) (d:Val ak) (e:Int) (a:Val aj) (j:Int→Val aj→Option ρ) (k:Val aj→Option ρ):Option ρ :=
  ifb (ilt e i) (ck ((Ø a)-(1:Int)) fun c=>ß ((ile 0 c)&&(ilt c (ì a))) (ĸ a (Int.toNat c) fun l=>ß ((ile 0 b)&&(æ (Int.toNat b))) (Ê (fun(f:Val Ğ) m=>Qh (Ø (List.replicate (Int.toNat b) (0:Int))) f.1 f.2 (fun n o=>m (n,o)) (fun p=>Ê (fun(g:Val Ğ) q=>C5 l d (Ø d) g.1 g.2 (fun r s=>q (r,s)) (fun h=>ß (æ ((List.length a)+(List.length ([h])))) (ck (e+(1:Int)) fun t=>j t (a++([h]))))) ((0:Int),p))) ((0:Int),(List.replicate (Int.toNat b) (0:Int)))))) (k a)
def JW (a:Val Ì) (b:Int) (f:Int) (k:Val aj→Option ρ):Option ρ :=
  ß ((ile 0 a.1)&&(æ (Int.toNat a.1))) (Ê (fun(d:Val Ğ) g=>yx (Ø (List.replicate (Int.toNat a.1) (0:Int))) d.1 d.2 (fun h i=>g (h,i)) (fun c=>ß ((ile 0 b)&&(ilt b (ì c))) (ĸ c (Int.toNat b) fun o=>Ê (fun(e:Val bf) j=>Ib f a.1 a.2 e.1 e.2 (fun l m=>j (l,m)) (fun n=>k n)) ((0:Int),[(List.set c (Int.toNat b) (0:Int))])))) ((0:Int),(List.replicate (Int.toNat a.1) (0:Int))))
def D7 (a:Val Ì) (b:Int) (c:Int):Option ((Val aj)):=JW a b c some
def nk (d:Int) (c:Int) (e:Val ak) (a:Int) (b:Val ag) (f:Int→Val ag→Option ρ) (g:Val ag→Option ρ):Option ρ :=
  ifb (ilt a d) (Ã (D7 (c,e) a c) fun h=>ß ((ile 0 a)&&(ilt a (ì b))) (ĸ b (Int.toNat a) fun j=>ck (a+(1:Int)) fun i=>f i (List.set b (Int.toNat a) h))) (g b)
def GD (g:Int) (h:Val aj) (j:Val ak) (k:Int) (e:Int) (b:Int) (a:Int) (c:Val aa) (f:Int→Int→Int→Val aa→Option ρ) (i:Val aG→Option ρ):Option ρ :=
  ifb (ilt a k) (Ĭ j a fun d=>ifb (ieq d.1 e) (ck (g-(1:Int)) fun l=>Ĭ h l fun m=>Ĭ m d.2.1 fun n=>ifb (ine n 1152921504606846976) (ck (b+d.2.2) fun o=>ck (g-(1:Int)) fun p=>Ĭ h p fun q=>Ĭ q d.2.1 fun r=>ck (o+r) fun s=>ifb (ilt s 0) (ß (æ ((List.length c)+(List.length ([a])))) (ck (b+d.2.2) fun t=>i (d.2.1,t,(c++([a]))))) (ck (a+(1:Int)) fun u=>f e b u c)) (ck (a+(1:Int)) fun v=>f e b v c)) (ck (a+(1:Int)) fun w=>f e b w c)) (i (e,b,c))
def xD (f:Val aj) (d:Val ak) (g:Int) (b:Int) (h:Int) (e:Val aa) (i:Int→Int→Int→Val aa→Option ρ) (j:Val aa→Option ρ):Option ρ :=
  ifb (igt b 0) (Ê (fun(a:(Val (.pair tI aG))) k=>GD b f d (Ø d) a.1 a.2.1 a.2.2.1 a.2.2.2 (fun l m n o=>k (l,m,n,o)) (fun c=>ck (b-(1:Int)) fun p=>i c.1 p c.2.1 c.2.2)) (g,h,(0:Int),e)) (j e)
def nh (e:Int) (h:Val ak) (i:Int) (j:Int) (k:Val ak) (b:Val ag) (c:Int) (f:Int→Option ρ) (l:Unit→Option ρ) (m:Val Ğ→Option ρ) (n:Unit→Option ρ):Option ρ :=
  ifb (ilt c i) (Ĭ h c fun a=>ß ((ile 0 a.1)&&(ilt a.1 (ì b))) (ĸ b (Int.toNat a.1) fun o=>ck (e-(1:Int)) fun p=>Ĭ o p fun q=>Ĭ q a.2.1 fun g=>ifb (ieq g 1152921504606846976) (ck (c+(1:Int)) fun r=>f r) (ck (a.2.2+g) fun s=>ifb (ige s 0) (ck (c+(1:Int)) fun t=>f t) (ifb (igt e j) (l ()) (ß ((ile 0 a.1)&&(ilt a.1 (ì b))) (ĸ b (Int.toNat a.1) fun u=>Ê (fun(d:(Val (.pair tI aG))) v=>xD u k d.1 d.2.1 d.2.2.1 d.2.2.2 (fun w x y z=>v (w,x,y,z)) (fun A=>m ((0:Int),A))) (a.1,e,(0:Int),[]))))))) (n ())
def qQ (d:Int) (a:Val ak) (e:Val ag) (b:Int) (f:Int→Option ρ) (g:Unit→Option ρ) (h:Val Ğ→Option ρ):Option ρ :=
  Ê (fun(i:Int) j=>nh b a (Ø a) d a e i (fun k=>j k) (fun _=>g ()) (fun c=>h (c.1,c.2)) (fun _=>ck (b+(1:Int)) fun l=>f l)) (0:Int)
def C9 (a:Val Ì) (k:Val ax→Option ρ):Option ρ :=
  Ã (pI a) fun b=>ifb (ine b.1 0) (k ([],b.1)) (Ã (kp a ([])) fun e=>ifb e.2 (k ([],(5:Int))) (ß ((ile 0 a.1)&&(æ (Int.toNat a.1))) (Ê (fun(c:Val aB) f=>nk (Ø (List.replicate (Int.toNat a.1) ([]:Val aj))) a.1 a.2 c.1 c.2 (fun g h=>f (g,h)) (fun i=>Ê (fun(j:Int) l=>qQ a.1 a.2 i j (fun m=>l m) (fun _=>k ([],(5:Int))) (fun d=>k (d.2,d.1))) (1:Int))) ((0:Int),(List.replicate (Int.toNat a.1) ([]:Val aj))))))
def nF (a:Val Ì):Option ((Val ax)):=C9 a some
def qJ (d:Val ag) (e:Int) (f:Int) (g:Int) (h:Val af) (i:Val ab) (j:Val ah) (k:Val ac) (l:Val ab) (m:Val ai) (b:Int) (a:Val aj) (n:Int→Val aj→Option ρ) (o:Val bf→Option ρ) (p:Val aj→Option ρ):Option ρ :=
  ifb (ilt b e) (Ĭ d b fun q=>Ã (iu (((f,g),h,i,j,k,l),m) q) fun r=>Ã (iD r) fun s=>Ã (nF s.1) fun c=>ifb (ine c.2 0) (o ((5:Int),a)) (ß (æ ((List.length a)+(List.length ([c.1])))) (ck (b+(1:Int)) fun t=>n t (a++([c.1]))))) (p a)
def JM (a:Val Â) (k:(Val (.pair aj tI))→Option ρ):Option ρ :=
  Ã (ŗ a) fun b=>ifb (ine b 0) (k ([],b)) (Ã (ro a) fun c=>Ê (fun(d:Val bf) e=>qJ c (Ø c) a.1.1.1 a.1.1.2 a.1.2.1 a.1.2.2.1 a.1.2.2.2.1 a.1.2.2.2.2.1 a.1.2.2.2.2.2 a.2 d.1 d.2 (fun f g=>e (f,g)) (fun h=>k ([],h.1)) (fun i=>k (i,(0:Int)))) ((0:Int),[]))
def D6 (a:Val Â):Option ((Val (.pair aj tI))):=JM a some
def mG (d:Val aa) (e:Int) (f:Val ak) (a:Int) (g:Int→Option ρ) (b:Int→Option ρ) (h:Unit→Option ρ):Option ρ :=
  ifb (ilt a e) (Ĭ d a fun c=>ifb (ilt c 0) (b a) (ifb (ige c (Ø f)) (b a) (ck (a+(1:Int)) fun i=>g i))) (h ())
def Bj (b:Val Ì) (a:Val aa) (k:Int→Option ρ):Option ρ :=
  ifb (igt (Ø a) 80) (k (2:Int)) (Ê (fun(c:Int) d=>mG a (Ø a) b.2 c (fun e=>d e) (fun f=>ifb (ige f 0) (k (1:Int)) (k (0:Int))) (fun _=>k (0:Int))) (0:Int))
def vn (a:Val Ì) (b:Val aa):Option (Int):=Bj a b some
def uG (e:Val aa) (f:Int) (g:Val ak) (c:Int) (d:Int) (a:Int) (h:Int→Int→Int→Option ρ) (i:(Val (.pair tI (.pair tI .bool)))→Option ρ) (j:Val Ä→Option ρ):Option ρ :=
  ifb (ilt a f) (Ĭ e a fun k=>Ĭ g k fun b=>ifb (ine b.1 c) (i ((0:Int),(0:Int),false)) (ck (d+b.2.2) fun l=>ck (a+(1:Int)) fun m=>h b.2.1 l m)) (j (c,d))
def Qf (e:Val Ì) (f:Int) (c:Val aa) (k:(Val (.pair tI (.pair tI .bool)))→Option ρ):Option ρ :=
  Ê (fun(a:Val œ) g=>uG c (Ø c) e.2 a.1 a.2.1 a.2.2 (fun h i j=>g (h,i,j)) (fun b=>k (b.1,b.2.1,b.2.2)) (fun d=>k (d.1,d.2,true))) (f,(0:Int),(0:Int))
def Im (a:Val Ì) (b:Int) (c:Val aa):Option ((Val (.pair tI (.pair tI .bool)))):=Qf a b c some
def rO (a:Val Ì) (b:Val aa) (k:Int→Option ρ):Option ρ :=
  Ã (pI a) fun d=>ifb (ine d.1 0) (k d.1) (Ã (vn a b) fun e=>ifb (ine e 0) (k e) (ifb (ieq (Ø b) 0) (k (8:Int)) (Ĭ b (0:Int) fun g=>Ĭ a.2 g fun f=>Ã (Im a f.1 b) fun c=>ifb (!c.2.2) (k (8:Int)) (ifb (ine c.1 f.1) (k (8:Int)) (ifb (ige c.2.1 0) (k (8:Int)) (k (0:Int)))))))
def mL (a:Val Ì) (b:Val aa):Option (Int):=rO a b some
def jd (b:Val aj) (c:Val ag) (d:Int) (e:Int) (f:Int) (g:Val af) (h:Val ab) (i:Val ah) (j:Val ac) (k:Val ab) (l:Val ai) (a:Int) (m:Int→Option ρ) (n:Int→Option ρ) (o:Unit→Option ρ):Option ρ :=
  ifb (ilt a d) (Ĭ c a fun p=>Ã (iu (((e,f),g,h,i,j,k),l) p) fun q=>Ã (iD q) fun r=>Ĭ b a fun s=>Ã (mL r.1 s) fun t=>ifb (ine t 0) (n (8:Int)) (ck (a+(1:Int)) fun u=>m u)) (o ())
def rJ (a:Val Â) (c:Val aj) (k:Int→Option ρ):Option ρ :=
  Ã (ŗ a) fun d=>ifb (ine d 0) (k d) (Ã (ro a) fun b=>ifb (ine (Ø c) (Ø b)) (k (8:Int)) (Ê (fun(e:Int) f=>jd c b (Ø b) a.1.1.1 a.1.1.2 a.1.2.1 a.1.2.2.1 a.1.2.2.2.1 a.1.2.2.2.2.1 a.1.2.2.2.2.2 a.2 e (fun g=>f g) (fun h=>k h) (fun _=>k (0:Int))) (0:Int)))
def jJ (a:Val Â) (b:Val aj):Option (Int):=rJ a b some
def Gv (a:Val ac) (k:Val Â→Option ρ):Option ρ :=
  ß (æ ((List.length ([((7:Int),(10:Int),[(1:Int)],[(2:Int)],(-20:Int),(1:Int),(100:Int),(200:Int))]))+(List.length a))) (k ((((0:Int),(2:Int)),[((1:Int),(0:Int),(1000:Int),((-5:Int),(5:Int)),((1:Int),(10:Int)),(1:Int)),((2:Int),(0:Int),(1000:Int),((-50:Int),(50:Int)),((1:Int),(4:Int)),(0:Int)),((3:Int),(0:Int),(1100:Int),((-1:Int),(1:Int)),((0:Int),(1:Int)),(0:Int))],[((1:Int),(10:Int))],[((1:Int),((20:Int),(29:Int)),(3:Int))],(([((7:Int),(10:Int),[(1:Int)],[(2:Int)],(-20:Int),(1:Int),(100:Int),(200:Int))])++a),[]),[((12:Int),[(2:Int),(3:Int)])]))
def Ŭ (a:Val ac):Option (Val Â):=Gv a some
def AY (k:Bool→Option ρ):Option ρ :=
  Ã (Ŭ ([])) fun m=>Ã (Il m) fun b=>Ã (Ŭ ([])) fun n=>Ã (Rq n) fun f=>Ã (Ŭ ([((8:Int),(15:Int),[(2:Int)],[(1:Int)],(100:Int),(1:Int),(0:Int),(0:Int))])) fun o=>Ã (nE o) fun g=>Ã (Ŭ ([((8:Int),(15:Int),[(2:Int)],[(1:Int)],(100:Int),(1:Int),(0:Int),(0:Int))])) fun p=>Ã (yL p (2:Int) (15:Int)) fun c=>Ã (Ŭ ([((8:Int),(15:Int),[(2:Int)],[(1:Int)],(100:Int),(1:Int),(0:Int),(0:Int)),((9:Int),(15:Int),[(3:Int)],[],(1100:Int),(0:Int),(0:Int),(0:Int))])) fun a=>Ã (oB a) fun h=>Ã (ĥ a ([(7:Int),(8:Int),(9:Int)])) fun i=>Ã (oA a (2:Int)) fun j=>ifb (ine b.2 0) (k false) (ifb (ine f.2 0) (k false) (ifb (ine g.2 0) (k false) (ifb (ine c.2 0) (k false) (ifb (ine h.2 0) (k false) (ifb (ine i.2 0) (k false) (ifb (ine j.2 0) (k false) (ifb (ine (Ø b.1) 2) (k false) (ifb (ine (Ø f.1) 2) (k false) (ifb j.1 (k false) (Ã (D6 a) fun d=>Ĭ b.1 (1:Int) fun q=>Ã (Rp a q (2:Int) (13:Int)) fun l=>ifb (ine d.2 0) (k false) (ifb (ine l.2 0) (k false) (ifb (ine l.1 3) (k false) (Ã (jJ a d.1) fun r=>ifb (ine r 0) (k false) (Ã (Ŭ ([])) fun s=>Ã (jJ s d.1) fun t=>ifb (ine t 8) (k false) (Ã (rq g.1 ([[(3:Int),(2:Int)]])) fun u=>ifb u (ifb (ieq (Ø c.1) 1) (Ĭ c.1 (0:Int) fun e=>ifb ((AB e.1 (3:Int))&&((AB e.2.1 (1099:Int))&&((AB e.2.2 (1101:Int))&&true))) (Ã (jj h.1 ([(8:Int),(9:Int)])) fun v=>ifb v (Ã (jj i.1 ([(8:Int),(9:Int)])) fun w=>k w) (k false)) (k false)) (k false)) (k false))))))))))))))))
def ir:Option (Bool):=AY some
def uw (a:Val Â) (c:Val aa) (k:Val aP→Option ρ):Option ρ :=
  Ã (ŗ a) fun b=>ifb (ine b 0) (k (false,b)) (Ã (vm a c) fun d=>Ã (ô d) fun e=>k (e.2,(0:Int)))
def Ū (a:Val Â) (b:Val aa):Option ((Val aP)):=uw a b some
def mJ (f:Int) (a:Int) (c:Val ac) (g:Int→Val ac→Option ρ) (h:Val ac→Option ρ):Option ρ :=
  ifb (ilt a f) (ß ((ile 0 a)&&(ilt a (ì c))) (ĸ c (Int.toNat a) fun d=>ß (æ (List.length d.2.2.1)) (ß (æ (List.length d.2.2.2.1)) (ß ((ile 0 a)&&(ilt a (ì c))) (ĸ c (Int.toNat a) fun b=>ß ((ile 0 a)&&(ilt a (ì (List.set c (Int.toNat a) (b.1,b.2.1,d.2.2.1,b.2.2.2))))) (ĸ (List.set c (Int.toNat a) (b.1,b.2.1,d.2.2.1,b.2.2.2)) (Int.toNat a) fun e=>ck (a+(1:Int)) fun i=>g i (List.set (List.set c (Int.toNat a) (b.1,b.2.1,d.2.2.1,b.2.2.2)) (Int.toNat a) (e.1,e.2.1,e.2.2.1,d.2.2.2.1,e.2.2.2.2)))))))) (h c)
def mI (c:Int) (d:Val aa) (b:Val ac) (a:Int) (e:Int→Option ρ) (f:Int→Option ρ) (g:Unit→Option ρ):Option ρ :=
  ifb (ilt a c) (ß ((ile 0 a)&&(ilt a (ì b))) (ĸ b (Int.toNat a) fun h=>Ã (Û d h.1) fun i=>ifb i (f a) (ck (a+(1:Int)) fun j=>e j))) (g ())
def Ξ (f:Val aa) (b:Int) (c:Int) (a:Val ac) (d:Int→Int→Val ac→Option ρ) (g:Val aH→Option ρ):Option ρ :=
  ifb (ilt c (Ø a)) (ß ((ile 0 c)&&(ilt c (ì a))) (ĸ a (Int.toNat c) fun e=>Ã (Û f e.1) fun h=>ifb (!h) (ß ((ile 0 b)&&(ilt b (ì a))) (ĸ a (Int.toNat b) fun l=>ck (b+(1:Int)) fun i=>ck (c+(1:Int)) fun j=>d i j (List.set a (Int.toNat b) e))) (ck (c+(1:Int)) fun k=>d b k a))) (g (b,a))
def BB (a:Val È) (f:Val aa) (k:(Val (.pair È tI))→Option ρ):Option ρ :=
  Ã (ī a) fun g=>ifb (ine g 0) (k ((((0:Int),(0:Int)),[],[],[],[],[]),g)) (ß (æ (List.length a.2.1)) (ß (æ (List.length a.2.2.1)) (ß (æ (List.length a.2.2.2.1)) (ß (æ (List.length a.2.2.2.2.2)) (ß (æ (List.length a.2.2.2.2.1)) (Ê (fun(h:Val aH) m=>mJ (Ø a.2.2.2.2.1) h.1 h.2 (fun n o=>m (n,o)) (fun c=>Ê (fun(p:Int) q=>mI (Ø c) f c p (fun r=>q r) (fun d=>ifb (ieq d (-1:Int)) (Ã (ī (a.1,a.2.1,a.2.2.1,a.2.2.2.1,c,a.2.2.2.2.2)) fun i=>ifb (ine i 0) (k ((((0:Int),(0:Int)),[],[],[],[],[]),i)) (k ((a.1,a.2.1,a.2.2.1,a.2.2.2.1,c,a.2.2.2.2.2),(0:Int)))) (ck (d+(1:Int)) fun s=>Ê (fun(e:(Val (.pair tI aH))) t=>Ξ f e.1 e.2.1 e.2.2 (fun u v w=>t (u,v,w)) (fun b=>ß ((ile 0 b.1)&&(ile b.1 (ì b.2))) (ß ((ile 0 b.1)&&(ile b.1 (ì (List.take (Int.toNat b.1) b.2++List.replicate (List.length b.2-(Int.toNat b.1)) ((0:Int),(0:Int),[],[],(0:Int),(0:Int),(0:Int),(0:Int))++List.drop ((Int.toNat b.1)+(List.length b.2-(Int.toNat b.1))) b.2)))) (Ã (ī (a.1,a.2.1,a.2.2.1,a.2.2.2.1,(List.take (Int.toNat b.1) (List.drop 0 (List.take (Int.toNat b.1) b.2++List.replicate (List.length b.2-(Int.toNat b.1)) ((0:Int),(0:Int),[],[],(0:Int),(0:Int),(0:Int),(0:Int))++List.drop ((Int.toNat b.1)+(List.length b.2-(Int.toNat b.1))) b.2))),a.2.2.2.2.2)) fun j=>ifb (ine j 0) (k ((((0:Int),(0:Int)),[],[],[],[],[]),j)) (k ((a.1,a.2.1,a.2.2.1,a.2.2.2.1,(List.take (Int.toNat b.1) (List.drop 0 (List.take (Int.toNat b.1) b.2++List.replicate (List.length b.2-(Int.toNat b.1)) ((0:Int),(0:Int),[],[],(0:Int),(0:Int),(0:Int),(0:Int))++List.drop ((Int.toNat b.1)+(List.length b.2-(Int.toNat b.1))) b.2))),a.2.2.2.2.2),(0:Int))))))) (d,s,c))) (fun _=>Ã (ī (a.1,a.2.1,a.2.2.1,a.2.2.2.1,c,a.2.2.2.2.2)) fun l=>ifb (ine l 0) (k ((((0:Int),(0:Int)),[],[],[],[],[]),l)) (k ((a.1,a.2.1,a.2.2.1,a.2.2.2.1,c,a.2.2.2.2.2),(0:Int))))) (0:Int))) ((0:Int),a.2.2.2.2.1)))))))
def vt (a:Val È) (b:Val aa):Option ((Val (.pair È tI))):=BB a b some
def EV (a:Val È) (k:Val È→Option ρ):Option ρ :=
  Ã (vt a ([])) fun b=>k b.1
def yK (a:Val È):Option (Val È):=EV a some
def uu (e:Int) (d:Val ai) (a:Int) (b:Val ai) (f:Int→Val ai→Option ρ) (g:Val ai→Option ρ):Option ρ :=
  ifb (ilt a e) (ß ((ile 0 a)&&(ilt a (ì d))) (ĸ d (Int.toNat a) fun c=>ß (æ (List.length c.2)) (ß (æ ((List.length b)+(List.length ([c])))) (ck (a+(1:Int)) fun h=>f h (b++([c])))))) (g b)
def P2 (a:Val Â) (b:Val Ğ) (k:(Val (.pair Â tI))→Option ρ):Option ρ :=
  Ã (ŗ a) fun c=>ifb (ine c 0) (k (((((0:Int),(0:Int)),[],[],[],[],[]),[]),c)) (Ã (yK a.1) fun d=>ß (æ (List.length a.2)) (ß (æ ((List.length a.2)+(List.length ([b])))) (Ê (fun(e:(Val (.pair tI ai))) h=>uu (Ø (a.2++([b]))) (a.2++([b])) e.1 e.2 (fun i j=>h (i,j)) (fun f=>Ã (ŗ (d,f)) fun g=>ifb (ine g 0) (k (((((0:Int),(0:Int)),[],[],[],[],[]),[]),g)) (k ((d,f),(0:Int))))) ((0:Int),[]))))
def D5 (a:Val Â) (b:Val Ğ):Option ((Val (.pair Â tI))):=P2 a b some
def oj (a:Val aa) (f:Int) (g:Int) (h:Val af) (i:Val ab) (j:Val ah) (k:Val ac) (l:Val ab) (m:Val ai) (b:Int) (n:Int→Option ρ) (d:Bool→Option ρ) (o:Unit→Option ρ):Option ρ :=
  ifb (ilt b (Ø a)) (ß ((ile 0 b)&&(ile b (ì a))) (ß (æ (0+(List.length (List.take (Int.toNat b) a)))) (ck (b+(1:Int)) fun c=>ß ((ile 0 c)&&(ile c (ì a))) (ß (æ ((List.length (([])++(List.take (Int.toNat b) a)))+(List.length (List.drop (Int.toNat c) a)))) (Ã (Ū (((f,g),h,i,j,k,l),m) ((([])++(List.take (Int.toNat b) a))++(List.drop (Int.toNat c) a))) fun e=>ifb (ine e.2 0) (d false) (ifb (!e.1) (d false) (ck (b+(1:Int)) fun p=>n p))))))) (o ())
def EN (a:Val Â) (b:Val aa) (k:Bool→Option ρ):Option ρ :=
  Ã (Ū a b) fun c=>ifb (ine c.2 0) (k false) (ifb c.1 (k false) (Ê (fun(d:Int) e=>oj b a.1.1.1 a.1.1.2 a.1.2.1 a.1.2.2.1 a.1.2.2.2.1 a.1.2.2.2.2.1 a.1.2.2.2.2.2 a.2 d (fun f=>e f) (fun g=>k g) (fun _=>k true)) (0:Int)))
def Ĩ (a:Val Â) (b:Val aa):Option (Bool):=EN a b some
def rH (c:Val Â) (d:Val aa) (f:Int) (g:Val Ğ) (k:Bool→Option ρ):Option ρ :=
  Ã (yI c) fun s=>ifb (!s) (Ã ir fun t=>k t) (ifb (igt (Ø d) 8) (Ã ir fun u=>k u) (ifb (ilt f 0) (Ã ir fun v=>k v) (ifb (igt (Ø g.2) 9) (Ã ir fun w=>k w) (Ã (Ū c d) fun o=>ifb (ine o.2 0) (Ã ir fun x=>k x) (ZW (α:=(Val (.pair aa (.pair tI (.pair tI (.pair af (.pair ab (.pair ah (.pair ac (.pair ab (.pair ai Ğ))))))))))) (fun j=>ifb o.1 (ifb (igt (Ø d) 0) (ifb (AB (Ø d) 0) (none) (ß ((ile 0 (Int.tmod f (Ø d)))&&(ile (Int.tmod f (Ø d)) (ì d))) (ß (æ (0+(List.length (List.take (Int.toNat (Int.tmod f (Ø d))) d)))) (ck ((Int.tmod f (Ø d))+(1:Int)) fun h=>ß ((ile 0 h)&&(ile h (ì d))) (ß (æ ((List.length (([])++(List.take (Int.toNat (Int.tmod f (Ø d))) d)))+(List.length (List.drop (Int.toNat h) d)))) (Ã (Ū c ((([])++(List.take (Int.toNat (Int.tmod f (Ø d))) d))++(List.drop (Int.toNat h) d))) fun p=>ifb (ine p.2 0) (k false) (ifb (!p.1) (k false) (j (d,c.1.1.1,c.1.1.2,c.1.2.1,c.1.2.2.1,c.1.2.2.2.1,c.1.2.2.2.2.1,c.1.2.2.2.2.2,c.2,g.1,g.2))))))))) (j (d,c.1.1.1,c.1.1.2,c.1.2.1,c.1.2.2.1,c.1.2.2.2.1,c.1.2.2.2.2.1,c.1.2.2.2.2.2,c.2,g.1,g.2))) (j (d,c.1.1.1,c.1.1.2,c.1.2.1,c.1.2.2.1,c.1.2.2.2.1,c.1.2.2.2.2.1,c.1.2.2.2.2.2,c.2,g.1,g.2))) (fun a=>Ã (nE (((a.2.1,a.2.2.1),a.2.2.2.1,a.2.2.2.2.1,a.2.2.2.2.2.1,a.2.2.2.2.2.2.1,a.2.2.2.2.2.2.2.1),a.2.2.2.2.2.2.2.2.1)) fun i=>Ã (D5 (((a.2.1,a.2.2.1),a.2.2.2.1,a.2.2.2.2.1,a.2.2.2.2.2.1,a.2.2.2.2.2.2.1,a.2.2.2.2.2.2.2.1),a.2.2.2.2.2.2.2.2.1) a.2.2.2.2.2.2.2.2.2) fun q=>ZW (α:=(Val (.pair aa az))) (fun l=>ifb (ieq i.2 0) (ifb (ieq q.2 0) (Ã (nE q.1) fun y=>ifb (ine y.2 0) (k false) (l (a.1,i.2,a.2.1,a.2.2.1,a.2.2.2.1,a.2.2.2.2.1,a.2.2.2.2.2.1,a.2.2.2.2.2.2.1,a.2.2.2.2.2.2.2.1,a.2.2.2.2.2.2.2.2.1))) (l (a.1,i.2,a.2.1,a.2.2.1,a.2.2.2.1,a.2.2.2.2.1,a.2.2.2.2.2.1,a.2.2.2.2.2.2.1,a.2.2.2.2.2.2.2.1,a.2.2.2.2.2.2.2.2.1))) (l (a.1,i.2,a.2.1,a.2.2.1,a.2.2.2.1,a.2.2.2.2.1,a.2.2.2.2.2.1,a.2.2.2.2.2.2.1,a.2.2.2.2.2.2.2.1,a.2.2.2.2.2.2.2.2.1))) (fun b=>Ã (oB (((b.2.2.1,b.2.2.2.1),b.2.2.2.2.1,b.2.2.2.2.2.1,b.2.2.2.2.2.2.1,b.2.2.2.2.2.2.2.1,b.2.2.2.2.2.2.2.2.1),b.2.2.2.2.2.2.2.2.2)) fun m=>ifb ((ieq m.2 0)==(ieq b.2.1 0)) (k false) (ZW (α:=(Val (.pair aa ae))) (fun r=>ifb (ieq m.2 0) (Ã (Ĩ (((b.2.2.1,b.2.2.2.1),b.2.2.2.2.1,b.2.2.2.2.2.1,b.2.2.2.2.2.2.1,b.2.2.2.2.2.2.2.1,b.2.2.2.2.2.2.2.2.1),b.2.2.2.2.2.2.2.2.2) m.1) fun z=>ifb (!z) (k false) (r (b.1,b.2.2.1,b.2.2.2.1,b.2.2.2.2.1,b.2.2.2.2.2.1,b.2.2.2.2.2.2.1,b.2.2.2.2.2.2.2.1,b.2.2.2.2.2.2.2.2.1,b.2.2.2.2.2.2.2.2.2))) (r (b.1,b.2.2.1,b.2.2.2.1,b.2.2.2.2.1,b.2.2.2.2.2.1,b.2.2.2.2.2.2.1,b.2.2.2.2.2.2.2.1,b.2.2.2.2.2.2.2.2.1,b.2.2.2.2.2.2.2.2.2))) (fun e=>Ã (ĥ (((e.2.1,e.2.2.1),e.2.2.2.1,e.2.2.2.2.1,e.2.2.2.2.2.1,e.2.2.2.2.2.2.1,e.2.2.2.2.2.2.2.1),e.2.2.2.2.2.2.2.2) e.1) fun n=>Ã ir fun A=>ifb A (ifb (ine n.2 0) (k true) (Ã (Ĩ (((e.2.1,e.2.2.1),e.2.2.2.1,e.2.2.2.2.1,e.2.2.2.2.2.1,e.2.2.2.2.2.2.1,e.2.2.2.2.2.2.2.1),e.2.2.2.2.2.2.2.2) n.1) fun B=>ifb B (k (ile (Ø n.1) (Ø e.1))) (k false))) (k false))))))))))
def rZ (a:Val Â) (b:Val aa) (c:Int) (d:Val Ğ):Option (Bool):=rH a b c d some
end Go.Proofs.ZzM
end
