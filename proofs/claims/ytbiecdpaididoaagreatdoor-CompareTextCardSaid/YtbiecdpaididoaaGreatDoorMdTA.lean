/- lemmas -/
import Derived.Test.YtbiecdpaididoaaGreatDoorAmC
set_option linter.all false
noncomputable section
variable {ρ:Type}
set_option maxRecDepth 100000
namespace Go.Proofs.ZzM
open Go Go.Am
abbrev tI:Ty:=.int .i64
abbrev Å:Ty:=(.pair tI tI)
abbrev ù:Ty:=(.pair Å Å)
abbrev ι:Ty:=(.pair tI Å)
abbrev Ι:Ty:=(.pair Å tI)
abbrev ω:Ty:=(.pair tI Ι)
abbrev pT:Ty:=(.pair ù tI)
abbrev í:Ty:=(.pair tI (.slice ι))
abbrev tr:Ty:=(.pair (.slice ι) (.slice Å))
abbrev Ô:Ty:=(.pair tI (.pair tI (.pair tI (.pair Å Ι))))
abbrev Ï:Ty:=(.pair tI (.pair tI (.pair (.slice tI) (.pair (.slice tI) (.pair tI ι)))))
abbrev Ä:Ty:=(.pair Å (.pair (.slice Ô) (.pair (.slice Å) (.pair (.slice ω) (.pair (.slice Ï) (.slice Å))))))
abbrev Y0:Ty:=(.pair Ä (.pair (.slice Å) (.pair í (.slice Å))))
abbrev aa:Ty:=(.slice Å)
abbrev ab:Ty:=(.slice Ï)
abbrev ac:Ty:=(.slice tI)
abbrev ae:Ty:=(.slice Ô)
abbrev af:Ty:=(.slice ω)
abbrev ag:Ty:=(.pair tI (.pair tI (.pair ae (.pair aa (.pair af (.pair ab aa))))))
abbrev ah:Ty:=(.slice ι)
abbrev ai:Ty:=(.slice .str)
abbrev aj:Ty:=(.pair tI (.pair tI (.pair ae (.pair aa (.pair af (.pair ab (.pair aa (.pair tI ag))))))))
abbrev ak:Ty:=(.map tI Ô)
abbrev am:Ty:=(.pair tI (.pair tI (.pair tI (.pair ae (.pair aa (.pair af (.pair ab (.pair aa (.pair tI (.pair tI (.pair tI (.pair tI (.pair tI ι)))))))))))))
abbrev ao:Ty:=(.map tI .bool)
abbrev aq:Ty:=(.pair tI (.pair tI (.pair ae (.pair aa (.pair af (.pair ab (.pair aa (.pair tI (.pair tI (.pair ac (.pair ac (.pair tI (.pair tI (.pair tI (.pair tI ac)))))))))))))))
abbrev ar:Ty:=(.slice .bool)
abbrev au:Ty:=(.pair tI (.pair tI (.pair tI ι)))
abbrev aw:Ty:=(.pair tI (.pair tI (.pair tI (.pair ae (.pair aa (.pair af (.pair ab (.pair aa (.pair tI ι)))))))))
abbrev ax:Ty:=(.pair tI ac)
abbrev ay:Ty:=(.pair tI (.pair tI (.pair ae (.pair aa (.pair af (.pair ab (.pair aa tI)))))))
abbrev az:Ty:=(.pair ac ac)
abbrev aB:Ty:=(.pair tI (.pair tI (.pair ae (.pair aa (.pair af (.pair ab (.pair aa ag)))))))
abbrev aD:Ty:=(.pair .str tI)
abbrev aE:Ty:=(.pair Ä Ï)
abbrev aF:Ty:=(.ptr Y0)
abbrev aG:Ty:=(.pair tI tr)
abbrev aH:Ty:=(.pair ar ac)
abbrev aI:Ty:=(.pair tI ag)
abbrev aJ:Ty:=(.slice ac)
abbrev aK:Ty:=(.pair Ä tI)
abbrev aL:Ty:=(.pair tI ai)
abbrev aM:Ty:=(.pair .str au)
abbrev aO:Ty:=(.pair ac (.pair ar az))
abbrev aP:Ty:=(.pair .bool tI)
abbrev aQ:Ty:=(.pair aa (.pair tI (.pair tI (.pair tI au))))
abbrev aR:Ty:=(.pair Ä (.pair ak tI))
abbrev an:=Val ac
abbrev bx:=Val Ä
abbrev c7:=Val Å
abbrev c8:=Val aa
abbrev fx:=Val ab
abbrev fy:=Val ai
abbrev ge:=Val Ï
abbrev io:=Val ae
abbrev js:=Val af
abbrev ly:=Val ax
abbrev pi:=Val (.map tI Ô)
abbrev px:=Val Ι
abbrev py:=Val ù
abbrev rd:=Val (.pair tI aa)
abbrev r7:=Val ah
abbrev th:=Val (.pair tI (.pair ac aH))
abbrev v6:=Val (.pair (.int .u64) (.int .u64))
abbrev v7:=Val aD
abbrev v8:=Val (.pair ac tI)
abbrev zC:=Val ak
abbrev z6:=Val ag
abbrev An:=Val Ô
abbrev At:=Val í
abbrev AN:=Val (.pair Ä Å)
abbrev AS:=Val (.pair ω .bool)
abbrev BY:=Val (.pair tI (.slice tI))
abbrev Do:=Val (.pair tI .str)
abbrev DO:=Val az
abbrev Fd:=Val aG
abbrev GE:=Val ar
abbrev GL:=Val (.pair aa tI)
abbrev GT:=Val (.pair tI aH)
abbrev Id:=Val aL
abbrev Is:=Val ω
abbrev ID:=Val aE
abbrev IN:=Val (.pair ac .bool)
abbrev IS:=Val aM
abbrev LE:=Val aj
abbrev LT:=Val aK
def iC (d:io) (e:Int) (a:Int) (b:zC) (f:Int->zC->Nm ρ) (g:zC->Nm ρ):Nm ρ :=
  ifb (ilt a e) (è d a fun c=>ck (a+(1:Int)) fun h=>f h (S8 (k:=tI) (v:=Ô) c.1 c b)) (g b)
def DM (a:bx) (k:zC->Nm ρ):Nm ρ :=
  Ó (fun(b:(Val (.pair tI ak))) c=>iC a.2.1 (ß a.2.1) b.1 b.2 (fun d e=>c (d,e)) (fun f=>k f)) ((0:Int),[])
def Ą (a:bx):Nm (zC):=DM a some
def ő (b:an) (c:Int) (d:Int) (a:Int) (e:Int->Nm ρ) (f:Int->Nm ρ) (g:Unit->Nm ρ):Nm ρ :=
  ifb (ilt a d) (è b a fun h=>ifb (ieq c h) (f a) (ck (a+(1:Int)) fun i=>e i)) (g ())
def nf (a:an) (b:Int) (k:Int->Nm ρ):Nm ρ :=
  Ó (fun(c:Int) d=>ő a b (ß a) c (fun e=>d e) (fun f=>k f) (fun _=>k (-1:Int))) (0:Int)
def Χ (a:an) (b:Int):Nm (Int):=nf a b some
def jn (a:an) (b:Int) (k:Bool->Nm ρ):Nm ρ :=
  Â (Χ a b) fun c=>k (ige c 0)
def ă (a:an) (b:Int):Nm (Bool):=jn a b some
def oK (f:fx) (g:Int) (d:Int) (a:Int) (b:an) (e:Int->an->Nm ρ) (h:an->Nm ρ):Nm ρ :=
  ifb (ilt a g) (è f a fun c=>Â (ă c.2.2.1 d) fun i=>Â (ă c.2.2.2.1 d) fun j=>ifb (!(i==j)) (ä (Ü ((List.length b)+(List.length ([c.2.1])))) (ck (a+(1:Int)) fun k=>e k (b++([c.2.1])))) (ck (a+(1:Int)) fun l=>e l b)) (h b)
def oJ (e:c8) (f:Int) (g:Int) (a:Int) (b:an) (d:Int->an->Nm ρ) (h:an->Nm ρ):Nm ρ :=
  ifb (ilt a f) (è e a fun c=>ifb (ieq c.1 g) (ä (Ü ((List.length b)+(List.length ([c.2])))) (ck (a+(1:Int)) fun i=>d i (b++([c.2])))) (ck (a+(1:Int)) fun j=>d j b)) (h b)
def P9 (a:bx) (b:An) (k:an->Nm ρ):Nm ρ :=
  Ó (fun(d:ly) f=>oK a.2.2.2.2.1 (ß a.2.2.2.2.1) b.1 d.1 d.2 (fun g h=>f (g,h)) (fun i=>Ó (fun(e:ly) j=>oJ a.2.2.2.2.2 (ß a.2.2.2.2.2) b.1 e.1 e.2 (fun l m=>j (l,m)) (fun c=>ä (Ü (List.length c)) (ä (Ü (List.length (vP c))) (k (sT (vP c)))))) ((0:Int),i))) ((0:Int),[b.2.1])
def jV (a:bx) (b:An):Nm (an):=P9 a b some
def lW (e:an) (f:Int) (c:Int) (a:Int) (b:c8) (g:Int->c8->Nm ρ) (h:c8->Nm ρ):Nm ρ :=
  ifb (ilt a f) (è e a fun d=>ä (Ü ((List.length b)+(List.length ([(c,d)])))) (ck (a+(1:Int)) fun i=>g i (b++([(c,d)])))) (h b)
def lX (f:io) (g:Int) (h:Int) (i:Int) (j:io) (k:c8) (l:js) (m:fx) (n:c8) (a:Int) (b:c8) (o:Int->c8->Nm ρ) (p:c8->Nm ρ):Nm ρ :=
  ifb (ilt a g) (è f a fun c=>Â (jV ((h,i),j,k,l,m,n) c) fun d=>Ó (fun(e:rd) q=>lW d (ß d) c.1 e.1 e.2 (fun r s=>q (r,s)) (fun t=>ck (a+(1:Int)) fun u=>o u t)) ((0:Int),b)) (p b)
def Ma (a:bx) (k:c8->Nm ρ):Nm ρ :=
  Ó (fun(b:rd) c=>lX a.2.1 (ß a.2.1) a.1.1 a.1.2 a.2.1 a.2.2.1 a.2.2.2.1 a.2.2.2.2.1 a.2.2.2.2.2 b.1 b.2 (fun d e=>c (d,e)) (fun f=>k f)) ((0:Int),[])
def kR (a:bx):Nm (c8):=Ma a some
def Hy (a:c7) (b:Int) (c:Int) (k:Bool->Nm ρ):Nm ρ :=
  ifb (ile b a.1) (ifb (ile a.1 a.2) (k (ile a.2 c)) (k false)) (k false)
def ł (a:c7) (b:Int) (c:Int):Nm (Bool):=Hy a b c some
def Hv (a:Int) (b:Int) (c:Int) (k:Bool->Nm ρ):Nm ρ :=
  ifb (ile b a) (k (ile a c)) (k false)
def ø (a:Int) (b:Int) (c:Int):Nm (Bool):=Hv a b c some
def Mb (a:Int) (k:Bool->Nm ρ):Nm ρ :=
  Â (ø a (0:Int) (20000:Int)) fun b=>k b
def fO (a:Int):Nm (Bool):=Mb a some
def P2 (a:Int) (k:Int->Nm ρ):Nm ρ :=
  ifb (ilt a 0) (k (IntKind.wrap .u64 (0-(IntKind.wrap .u64 a)))) (k (IntKind.wrap .u64 a))
def mi (a:Int):Nm (Int):=P2 a some
def sc (b:Int) (a:Int) (c:Int->Int->Nm ρ) (d:Int->Nm ρ):Nm ρ :=
  ifb (ine a 0) (ifb (š a 0) (none) (c a (Int.tmod b a))) (d b)
def Uj (b:Int) (c:Int) (k:Int->Nm ρ):Nm ρ :=
  Ó (fun(a:v6) d=>sc a.1 a.2 (fun e f=>d (e,f)) (fun g=>k g)) (b,c)
def EK (a:Int) (b:Int):Nm (Int):=Uj a b some
def L3 (a:c7) (k:Bool->Nm ρ):Nm ρ :=
  ifb (ige a.2 1) (ifb (ile a.2 2147483647) (Â (mi a.1) fun b=>ifb (ile b 2147483647) (Â (mi a.1) fun c=>Â (mi a.2) fun d=>Â (EK c d) fun e=>k (ieq e 1)) (k false)) (k false)) (k false)
def nS (a:c7):Nm (Bool):=L3 a some
def vA (a:An) (k:Bool->Nm ρ):Nm ρ :=
  Â (nS a.2.2.2.2.1) fun b=>ifb b (Â (ø a.2.2.2.2.1.1 (-1000:Int) (1000:Int)) fun c=>ifb c (Â (ø a.1 (1:Int) (1099511627776:Int)) fun d=>ifb d (Â (fO a.2.1) fun e=>ifb e (Â (ø a.2.2.1 (1:Int) (1125899906842624:Int)) fun f=>ifb f (Â (ł a.2.2.2.1 (-1073741824:Int) (1073741824:Int)) fun g=>ifb g (ifb (ile a.2.2.2.2.1.2 100) (Â (ø a.2.2.2.2.2 (0:Int) (1048576:Int)) fun h=>k h) (k false)) (k false)) (k false)) (k false)) (k false)) (Â (ø a.1 (1:Int) (1099511627776:Int)) fun i=>ifb i (Â (fO a.2.1) fun j=>ifb j (Â (ø a.2.2.1 (1:Int) (1125899906842624:Int)) fun l=>ifb l (Â (ł a.2.2.2.1 (-1073741824:Int) (1073741824:Int)) fun m=>ifb m (k false) (k false)) (k false)) (k false)) (k false))) (Â (ø a.1 (1:Int) (1099511627776:Int)) fun n=>ifb n (Â (fO a.2.1) fun o=>ifb o (Â (ø a.2.2.1 (1:Int) (1125899906842624:Int)) fun p=>ifb p (Â (ł a.2.2.2.1 (-1073741824:Int) (1073741824:Int)) fun q=>ifb q (k false) (k false)) (k false)) (k false)) (k false))
def o9 (a:An):Nm (Bool):=vA a some
def Ŵ (e:io) (f:Int) (g:io) (a:Int) (b:Int->Nm ρ) (c:Int->Nm ρ) (h:Unit->Nm ρ):Nm ρ :=
  ifb (ilt a f) (è e a fun d=>Â (o9 d) fun i=>ifb (!i) (c (1:Int)) (ifb (igt a 0) (ck (a-(1:Int)) fun j=>è g j fun k=>ifb (ile d.1 k.1) (c (6:Int)) (ck (a+(1:Int)) fun l=>b l)) (ck (a+(1:Int)) fun m=>b m))) (h ())
def ri (a:bx) (k:Int->Nm ρ):Nm ρ :=
  Ó (fun(b:Int) c=>Ŵ a.2.1 (ß a.2.1) a.2.1 b (fun d=>c d) (fun e=>k e) (fun _=>k (0:Int))) (0:Int)
def ĸ (a:bx):Nm (Int):=ri a some
def uq (a:zC) (b:Int) (c:Int) (k:Int->Nm ρ):Nm ρ :=
  Nx (k:=tI) (v:=Ô) b a (fun d=>ifb (ilt c d.2.1) (k (4:Int)) (k (0:Int))) (k (5:Int))
def Ō (a:zC) (b:Int) (c:Int):Nm (Int):=uq a b c some
def DS (b:Int) (a:Int) (c:(Val (.ptr ak))) (k:Int->Nm ρ):Nm ρ :=
  Â (fO a) fun d=>ifb (!d) (k (1:Int)) (Â (Ō c b a) fun e=>k e)
def đ (a:Int) (b:Int) (c:(Val (.ptr ak))):Nm (Int):=DS a b c some
def fU (d:js) (e:Int) (f:Int) (g:Int) (h:Int) (a:Int) (b:Int->Nm ρ) (i:Int->Nm ρ) (j:Unit->Nm ρ):Nm ρ :=
  ifb (ilt a e) (è d a fun c=>ifb (ieq c.1 f) (ifb (ile c.2.1.1 h) (ifb (ile g c.2.1.2) (i a) (ck (a+(1:Int)) fun k=>b k)) (ck (a+(1:Int)) fun l=>b l)) (ck (a+(1:Int)) fun m=>b m)) (j ())
def Ł (d:c8) (e:Int) (f:Int) (g:Int) (h:Int) (a:Int) (b:Int->Nm ρ) (i:Int->Nm ρ) (j:Unit->Nm ρ):Nm ρ :=
  ifb (ilt a e) (è d a fun c=>ifb (ieq c.1 f) (Â (ø c.2 g h) fun k=>ifb k (i a) (ck (a+(1:Int)) fun l=>b l)) (ck (a+(1:Int)) fun m=>b m)) (j ())
def oL (b:bx) (e:zC) (c:Int) (k:Int->Nm ρ):Nm ρ :=
  è b.2.2.2.1 c fun a=>Â (ł a.2.1 (0:Int) (20000:Int)) fun f=>ifb (!f) (k (1:Int)) (Â (ø a.2.2 (0:Int) (1048576:Int)) fun g=>ifb (!g) (k (1:Int)) (Â (Ō e a.1 a.2.1.1) fun d=>ifb (ine d 0) (k d) (ä ((ile 0 c)&&(ile c (Ć b.2.2.2.1))) (Ó (fun(h:Int) i=>fU (List.take (Int.toNat c) b.2.2.2.1) (ß (List.take (Int.toNat c) b.2.2.2.1)) a.1 a.2.1.1 a.2.1.2 h (fun j=>i j) (fun l=>ifb (ige l 0) (k (9:Int)) (Ó (fun(m:Int) n=>Ł b.2.2.1 (ß b.2.2.1) a.1 a.2.1.1 a.2.1.2 m (fun o=>n o) (fun p=>ifb (ige p 0) (k (9:Int)) (k (0:Int))) (fun _=>k (0:Int))) (0:Int))) (fun _=>Ó (fun(q:Int) r=>Ł b.2.2.1 (ß b.2.2.1) a.1 a.2.1.1 a.2.1.2 q (fun s=>r s) (fun t=>ifb (ige t 0) (k (9:Int)) (k (0:Int))) (fun _=>k (0:Int))) (0:Int))) (0:Int)))))
def Ņ (a:bx) (b:zC) (c:Int):Nm (Int):=oL a b c some
def oI (c:Int) (d:an) (b:an) (a:Int) (e:Int->Nm ρ) (f:Int->Nm ρ) (g:Unit->Nm ρ):Nm ρ :=
  ifb (ilt a c) (ä ((ile 0 a)&&(ilt a (Ć b))) (κ b (Int.toNat a) fun h=>Â (ă d h) fun i=>ifb i (f a) (ck (a+(1:Int)) fun j=>e j))) (g ())
def f5 (f:an) (b:Int) (c:Int) (a:an) (d:Int->Int->an->Nm ρ) (g:ly->Nm ρ):Nm ρ :=
  ifb (ilt c (ß a)) (ä ((ile 0 c)&&(ilt c (Ć a))) (κ a (Int.toNat c) fun e=>Â (ă f e) fun h=>ifb (!h) (ä ((ile 0 b)&&(ilt b (Ć a))) (κ a (Int.toNat b) fun l=>ck (b+(1:Int)) fun i=>ck (c+(1:Int)) fun j=>d i j (List.set a (Int.toNat b) e))) (ck (c+(1:Int)) fun k=>d b k a))) (g (b,a))
def P8 (b:an) (e:an) (k:an->Nm ρ):Nm ρ :=
  ä (Ü (List.length b)) (Ó (fun(f:Int) g=>oI (ß b) e b f (fun h=>g h) (fun c=>ifb (ieq c (-1:Int)) (k b) (ck (c+(1:Int)) fun i=>Ó (fun(d:(Val (.pair tI ax))) j=>f5 e d.1 d.2.1 d.2.2 (fun l m n=>j (l,m,n)) (fun a=>ä ((ile 0 a.1)&&(ile a.1 (Ć a.2))) (ä ((ile 0 a.1)&&(ile a.1 (Ć (List.take (Int.toNat a.1) a.2++List.replicate (List.length a.2-(Int.toNat a.1)) (0:Int)++List.drop ((Int.toNat a.1)+(List.length a.2-(Int.toNat a.1))) a.2)))) (k (List.take (Int.toNat a.1) (List.drop 0 (List.take (Int.toNat a.1) a.2++List.replicate (List.length a.2-(Int.toNat a.1)) (0:Int)++List.drop ((Int.toNat a.1)+(List.length a.2-(Int.toNat a.1))) a.2))))))) (c,i,b))) (fun _=>k b)) (0:Int))
def Ĭ (a:an) (b:an):Nm (an):=P8 a b some
def jP (e:an) (f:an) (g:Int) (a:Int) (b:Int->Nm ρ) (c:Bool->Nm ρ) (h:Unit->Nm ρ):Nm ρ :=
  ifb (ilt a g) (è f a fun d=>Â (ø d (1:Int) (1099511627776:Int)) fun i=>ifb (!i) (c false) (ifb (igt a 0) (ck (a-(1:Int)) fun j=>è e j fun k=>ifb (ile d k) (c false) (ck (a+(1:Int)) fun l=>b l)) (ck (a+(1:Int)) fun m=>b m))) (h ())
def Hx (a:an) (k:Bool->Nm ρ):Nm ρ :=
  Ó (fun(b:Int) c=>jP a a (ß a) b (fun d=>c d) (fun e=>k e) (fun _=>k (ile (ß a) 6))) (0:Int)
def iy (a:an):Nm (Bool):=Hx a some
def ń (d:Val aJ) (e:Int) (b:Int) (a:Int) (f:Int->Int->Nm ρ) (g:Int->Nm ρ):Nm ρ :=
  ifb (ilt a e) (è d a fun h=>ck (b+(ß h)) fun c=>ifb (ilt c 0) (none) (ck (a+(1:Int)) fun i=>f c i)) (g b)
def Ā (d:Val aJ) (e:Int) (a:Int) (b:an) (f:Int->an->Nm ρ) (g:an->Nm ρ):Nm ρ :=
  ifb (ilt a e) (è d a fun c=>ä (Ü ((List.length b)+(List.length c))) (ck (a+(1:Int)) fun h=>f h (b++c))) (g b)
def lz (a:Val aJ) (k:an->Nm ρ):Nm ρ :=
  Ó (fun(c:c7) g=>ń a (ß a) c.1 c.2 (fun h i=>g (h,i)) (fun d=>ifb (ilt d 0) (none) (ck (d-(0:Int)) fun b=>ifb (igt b 0) (ä ((ilt 0 b)&&(Ü (Int.toNat b))) (ä (ile 0 (Ć (List.replicate (Int.toNat b) (0:Int)))) (Ó (fun(e:ly) j=>Ā a (ß a) e.1 e.2 (fun l m=>j (l,m)) (fun n=>k n)) ((0:Int),(List.take 0 (List.replicate (Int.toNat b) (0:Int))))))) (Ó (fun(f:ly) o=>Ā a (ß a) f.1 f.2 (fun p q=>o (p,q)) (fun r=>k r)) ((0:Int),[]))))) ((0:Int),(0:Int))
def Đ (a:Val aJ):Nm (an):=lz a some
def oM (d:js) (e:Int) (f:Int) (g:Int) (a:Int) (c:Int->Nm ρ) (h:Int->Nm ρ) (i:Unit->Nm ρ):Nm ρ :=
  ifb (ilt a e) (è d a fun b=>ifb (ieq b.1 f) (Â (ø g b.2.1.1 b.2.1.2) fun j=>ifb j (h a) (ck (a+(1:Int)) fun k=>c k)) (ck (a+(1:Int)) fun l=>c l)) (i ())
def Qa (a:bx) (c:Int) (d:Int) (k:AS->Nm ρ):Nm ρ :=
  Ó (fun(e:Int) f=>oM a.2.2.2.1 (ß a.2.2.2.1) c d e (fun g=>f g) (fun b=>ifb (ilt b 0) (k (((0:Int),((0:Int),(0:Int)),(0:Int)),false)) (è a.2.2.2.1 b fun h=>k (h,true))) (fun _=>k (((0:Int),((0:Int),(0:Int)),(0:Int)),false))) (0:Int)
def jW (a:bx) (b:Int) (c:Int):Nm (AS):=Qa a b c some
def Ş (b:fx) (c:Int) (d:Int) (a:Int) (e:Int->Nm ρ) (f:Int->Nm ρ) (g:Unit->Nm ρ):Nm ρ :=
  ifb (ilt a c) (è b a fun h=>ifb (ieq h.1 d) (f a) (ck (a+(1:Int)) fun i=>e i)) (g ())
def ŝ (c:zC) (b:Int) (d:an) (e:Int) (f:Int) (a:Int) (g:Int->Nm ρ) (h:Int->Nm ρ) (i:Unit->Nm ρ):Nm ρ :=
  ifb (ilt a e) (è d a fun j=>Â (Ō c j f) fun k=>ifb (ieq k b) (h b) (ck (a+(1:Int)) fun l=>g l)) (i ())
def Ĝ (d:zC) (b:an) (e:Int) (f:Int) (c:an) (a:Int) (g:Int->Nm ρ) (h:Int->Nm ρ) (i:Unit->Nm ρ):Nm ρ :=
  ifb (ilt a e) (ä ((ile 0 a)&&(ilt a (Ć c))) (κ c (Int.toNat a) fun j=>Ó (fun(k:Int) l=>ŝ d j b (ß b) f k (fun m=>l m) (fun n=>h n) (fun _=>ck (a+(1:Int)) fun o=>g o)) (0:Int))) (i ())
def ě (b:an) (c:Int) (d:Int) (e:Int) (f:io) (g:c8) (h:js) (i:fx) (j:c8) (k:Int) (a:Int) (l:Int->Nm ρ) (m:Int->Nm ρ) (n:Unit->Nm ρ):Nm ρ :=
  ifb (ilt a c) (è b a fun o=>Â (jW ((d,e),f,g,h,i,j) o k) fun p=>ifb p.2 (m (9:Int)) (ck (a+(1:Int)) fun q=>l q)) (n ())
def jf (b:bx) (f:zC) (c:Int) (k:Int->Nm ρ):Nm ρ :=
  è b.2.2.2.2.1 c fun a=>Â (ø a.1 (1:Int) (1099511627776:Int)) fun l=>ifb (!l) (k (1:Int)) (Â (fO a.2.1) fun m=>ifb (!m) (k (1:Int)) (Â (ø a.2.2.2.2.1 (-1125899906842624:Int) (1125899906842624:Int)) fun n=>ifb (!n) (k (1:Int)) (Â (ø a.2.2.2.2.2.1 (0:Int) (1073741824:Int)) fun o=>ifb (!o) (k (1:Int)) (Â (ł a.2.2.2.2.2.2 (-10000:Int) (10000:Int)) fun p=>ifb (!p) (k (1:Int)) (Â (iy a.2.2.1) fun q=>ifb (!q) (k (1:Int)) (Â (iy a.2.2.2.1) fun r=>ifb (!r) (k (1:Int)) (ä ((ile 0 c)&&(ile c (Ć b.2.2.2.2.1))) (Ó (fun(s:Int) t=>Ş (List.take (Int.toNat c) b.2.2.2.2.1) (ß (List.take (Int.toNat c) b.2.2.2.2.1)) a.1 s (fun u=>t u) (fun v=>ifb (ige v 0) (k (6:Int)) (Â (Đ ([a.2.2.1,a.2.2.2.1])) fun d=>Ó (fun(w:Int) x=>Ĝ f d (ß ([(5:Int),(4:Int)])) a.2.1 ([(5:Int),(4:Int)]) w (fun y=>x y) (fun z=>k z) (fun _=>Ó (fun(A:Int) B=>ě d (ß d) b.1.1 b.1.2 b.2.1 b.2.2.1 b.2.2.2.1 b.2.2.2.2.1 b.2.2.2.2.2 a.2.1 A (fun C=>B C) (fun D=>k D) (fun _=>Â (Ĭ a.2.2.1 a.2.2.2.1) fun g=>Â (Ĭ a.2.2.2.1 a.2.2.1) fun h=>ifb (igt (ß g) 1) (k (1:Int)) (ifb (igt (ß h) 1) (k (1:Int)) (ck ((ß g)+(ß h)) fun E=>ifb (ieq E 0) (k (1:Int)) (k (0:Int)))))) (0:Int))) (0:Int))) (fun _=>Â (Đ ([a.2.2.1,a.2.2.2.1])) fun e=>Ó (fun(F:Int) G=>Ĝ f e (ß ([(5:Int),(4:Int)])) a.2.1 ([(5:Int),(4:Int)]) F (fun H=>G H) (fun I=>k I) (fun _=>Ó (fun(J:Int) K=>ě e (ß e) b.1.1 b.1.2 b.2.1 b.2.2.1 b.2.2.2.1 b.2.2.2.2.1 b.2.2.2.2.2 a.2.1 J (fun L=>K L) (fun M=>k M) (fun _=>Â (Ĭ a.2.2.1 a.2.2.2.1) fun i=>Â (Ĭ a.2.2.2.1 a.2.2.1) fun j=>ifb (igt (ß i) 1) (k (1:Int)) (ifb (igt (ß j) 1) (k (1:Int)) (ck ((ß i)+(ß j)) fun N=>ifb (ieq N 0) (k (1:Int)) (k (0:Int)))))) (0:Int))) (0:Int))) (0:Int)))))))))
def Ė (a:bx) (b:zC) (c:Int):Nm (Int):=jf a b c some
def iY (b:bx) (s:zC):Nm (NO Int) :=
  Â (CO (fun u=>đ u.1 u.2 s) (b.2.2.1:NO (Int×Int))) fun a=>Â (CO (fun i=>Ņ b s i) (pQ (b.2.2.2.1:NO Is).length)) fun c =>
    Â (CO (fun i=>Ė b s i) (pQ (b.2.2.2.2.1:NO ge).length)) fun d=>Â (CO (fun u=>đ u.1 u.2 s) (b.2.2.2.2.2:NO (Int×Int))) fun e=>some (a++(c++(d++e)))
def Ed (a:bx) (k:Int->Nm ρ):Nm ρ :=
  Â (ł a.1 (0:Int) (1000000:Int)) fun d=>ifb (!d) (k (1:Int)) (ifb (igt (ß a.2.1) 12) (k (2:Int)) (ifb (igt (ß a.2.2.1) 40) (k (2:Int)) (ifb (igt (ß a.2.2.2.1) 12) (k (2:Int)) (ifb (igt (ß a.2.2.2.2.1) 40) (k (2:Int)) (ifb (igt (ß a.2.2.2.2.2) 10) (k (2:Int)) (Â (ĸ a) fun b=>ifb (ine b 0) (k b) (Â (Ą a) fun e=>KK (iY a e) (fun f=>k f) (Â (kR a) fun c=>ifb (igt (ß c) 59) (k (2:Int)) (ck ((2:Int)*(ß a.2.1)) fun g=>ck ((ß c)-(ß a.2.1)) fun h=>ck ((2:Int)*h) fun i=>ck (g+i) fun j=>ck ((2:Int)*(ß a.2.2.2.2.1)) fun l=>ck (j+l) fun m=>ifb (igt m 300) (k (2:Int)) (k (0:Int)))))))))))
def Ē (a:bx):Nm (Int):=Ed a some
def jy (b:fx) (a:Int) (e:Int->Nm ρ) (c:Bool->Nm ρ) (d:Unit->Nm ρ):Nm ρ :=
  ifb (ilt a (ß b)) (ifb (ilt a 60) (è b a fun f=>ifb (igt (ß f.2.2.1) 9) (c false) (è b a fun g=>ifb (igt (ß g.2.2.2.1) 9) (c false) (ck (a+(1:Int)) fun h=>e h))) (d ())) (d ())
def G9 (a:bx) (k:Bool->Nm ρ):Nm ρ :=
  Ó (fun(b:Int) c=>jy a.2.2.2.2.1 b (fun d=>c d) (fun e=>k e) (fun _=>ifb (ile (ß a.2.1) 14) (ifb (ile (ß a.2.2.1) 42) (ifb (ile (ß a.2.2.2.1) 14) (ifb (ile (ß a.2.2.2.2.1) 42) (k (ile (ß a.2.2.2.2.2) 12)) (k false)) (k false)) (k false)) (k false))) (0:Int)
def sn (a:bx):Nm (Bool):=G9 a some
def oG (f:Int) (g:Int) (h:js) (i:Int) (j:Int) (b:Int) (a:Int) (d:Int->Int->Nm ρ) (k:Int->Nm ρ):Nm ρ :=
  ifb (ilt a i) (è h a fun c=>ck (g-(1:Int)) fun l=>ck ((Kc c.2.1.2 l)-(HL c.2.1.1 f)) fun m=>ck (m+1) fun e=>ifb (ieq c.1 j) (ifb (igt e 0) (ck (e*c.2.2) fun n=>ck (b+n) fun o=>ck (a+(1:Int)) fun p=>d o p) (ck (a+(1:Int)) fun q=>d b q)) (ck (a+(1:Int)) fun r=>d b r)) (k b)
def oF (e:Int) (f:Int) (g:c8) (h:Int) (i:Int) (a:Int) (b:an) (d:Int->an->Nm ρ) (j:an->Nm ρ):Nm ρ :=
  ifb (ilt a h) (è g a fun c=>ifb (ieq c.1 i) (ck (f-(1:Int)) fun k=>Â (ø c.2 e k) fun l=>ifb l (ä (Ü ((List.length b)+(List.length ([c.2])))) (ck (a+(1:Int)) fun m=>d m (b++([c.2])))) (ck (a+(1:Int)) fun n=>d n b)) (ck (a+(1:Int)) fun o=>d o b)) (j b)
def P6 (a:bx) (b:An) (d:Int) (e:Int) (k:Int->Nm ρ):Nm ρ :=
  Ó (fun(f:c7) h=>oG d e a.2.2.2.1 (ß a.2.2.2.1) b.1 f.1 f.2 (fun i j=>h (i,j)) (fun l=>Ó (fun(g:ly) m=>oF d e a.2.2.1 (ß a.2.2.1) b.1 g.1 g.2 (fun n o=>m (n,o)) (fun c=>ä (Ü (List.length c)) (ä (Ü (List.length (vP c))) (ck ((ß (sT (vP c)))*b.2.2.2.2.2) fun p=>ck (l+p) fun q=>k q)))) ((0:Int),[]))) ((0:Int),(0:Int))
def mj (a:bx) (b:An) (c:Int) (d:Int):Nm (Int):=P6 a b c d some
def ą (c:c8) (d:Int) (e:Int) (f:Int) (a:Int) (g:Int->Nm ρ) (h:Int->Nm ρ) (i:Unit->Nm ρ):Nm ρ :=
  ifb (ilt a d) (è c a fun b=>ifb ((š e b.1)&&((š f b.2)&&true)) (h a) (ck (a+(1:Int)) fun j=>g j)) (i ())
def Ż (a:c8) (b:c7) (k:Int->Nm ρ):Nm ρ :=
  Ó (fun(c:Int) d=>ą a (ß a) b.1 b.2 c (fun e=>d e) (fun f=>k f) (fun _=>k (-1:Int))) (0:Int)
def ď (a:c8) (b:c7):Nm (Int):=Ż a b some
def Aj (b:Val aF) (a:an) (c:Int) (k:Int->Nm ρ):Nm ρ :=
  ifb (ieq (ß a) 0) (k (0:Int)) (è a (0:Int) fun d=>Â (ď b.2.1 (d,c)) fun e=>ck (e+(1:Int)) fun f=>k f)
def ŗ (a:Val aF) (b:an) (c:Int):Nm (Int):=Aj a b c some
def pw (b:zC) (a:an) (k:c7->Nm ρ):Nm ρ :=
  ifb (ieq (ß a) 0) (k ((0:Int),(1:Int))) (è a (0:Int) fun c=>Nx (k:=tI) (v:=Ô) c b (fun d=>k d.2.2.2.2.1) (k ((0:Int),(0:Int))))
def ū (a:zC) (b:an):Nm c7:=pw a b some
def lV (b:c8) (c:Int) (a:Int) (d:Int->Nm ρ) (e:Int->Nm ρ) (f:Unit->Nm ρ):Nm ρ :=
  ifb (ilt a c) (è b a fun g=>Â (nS g) fun h=>ifb (!h) (e (1:Int)) (ck (a+(1:Int)) fun i=>d i)) (f ())
def LZ (a:c8) (k:Int->Nm ρ):Nm ρ :=
  Ó (fun(b:Int) c=>lV a (ß a) b (fun d=>c d) (fun e=>k e) (fun _=>k (0:Int))) (0:Int)
def fN (a:c8):Nm (Int):=LZ a some
def DJ (d:Int) (e:Int) (k:px->Nm ρ):Nm ρ :=
  Â (mi d) fun b=>Â (mi e) fun c=>Â (EK b c) fun a=>ifb (š a 0) (none) (ifb (š a 0) (none) (ifb (igt (IntKind.wrap .u64 (Int.tdiv b a)) 2147483647) (k (((0:Int),(0:Int)),(3:Int))) (ifb (igt (IntKind.wrap .u64 (Int.tdiv c a)) 2147483647) (k (((0:Int),(0:Int)),(3:Int))) (ifb (!((ilt d 0)==(ilt e 0))) (ck (0-(IntKind.wrap .i64 (IntKind.wrap .u64 (Int.tdiv b a)))) fun f=>k ((f,(IntKind.wrap .i64 (IntKind.wrap .u64 (Int.tdiv c a)))),(0:Int))) (k (((IntKind.wrap .i64 (IntKind.wrap .u64 (Int.tdiv b a))),(IntKind.wrap .i64 (IntKind.wrap .u64 (Int.tdiv c a)))),(0:Int)))))))
def kQ (a:Int) (b:Int):Nm px:=DJ a b some
def Un (a:c7) (b:c7) (k:px->Nm ρ):Nm ρ :=
  Â (fN ([a,b])) fun c=>ifb (ine c 0) (k (((0:Int),(0:Int)),c)) (ck (a.1*b.2) fun e=>ck (b.1*a.2) fun f=>ck (e-f) fun g=>ck (a.2*b.2) fun h=>Â (kQ g h) fun d=>k (d.1,d.2))
def JF (a:c7) (b:c7):Nm px:=Un a b some
def wZ (a:c7) (b:c7) (k:c7->Nm ρ):Nm ρ :=
  Â (JF a b) fun c=>k c.1
def o8 (a:c7) (b:c7):Nm c7:=wZ a b some
def Ul (a:c7) (b:c7) (k:Int->Nm ρ):Nm ρ :=
  ck (a.1*b.2) fun c=>ck (b.1*a.2) fun d=>ifb ((š a.1 b.1)&&((š a.2 b.2)&&true)) (k (0:Int)) (ifb (ilt c d) (k (-1:Int)) (ifb (igt c d) (k (1:Int)) (k (0:Int))))
def EL (a:c7) (b:c7):Nm (Int):=Ul a b some
def un (a:py) (k:Bool->Nm ρ):Nm ρ :=
  Â (fN ([a.1,a.2])) fun b=>ifb (ieq b 0) (Â (EL a.1 a.2) fun c=>k (ile c 0)) (k false)
def mH (a:py):Nm (Bool):=un a some
def Up (a:c7) (b:c7) (k:px->Nm ρ):Nm ρ :=
  Â (fN ([a,b])) fun c=>ifb (ine c 0) (k (((0:Int),(0:Int)),c)) (ck (a.1*b.1) fun e=>ck (a.2*b.2) fun f=>Â (kQ e f) fun d=>k (d.1,d.2))
def EN (a:c7) (b:c7):Nm px:=Up a b some
def DL (c:py) (d:c7) (k:Val pT->Nm ρ):Nm ρ :=
  Â (mH c) fun e=>ifb (!e) (k ((((0:Int),(0:Int)),(0:Int),(0:Int)),(1:Int))) (Â (nS d) fun f=>ifb (!f) (k ((((0:Int),(0:Int)),(0:Int),(0:Int)),(1:Int))) (Â (EN d c.1) fun a=>ifb (ine a.2 0) (k ((((0:Int),(0:Int)),(0:Int),(0:Int)),a.2)) (Â (EN d c.2) fun b=>ifb (ine b.2 0) (k ((((0:Int),(0:Int)),(0:Int),(0:Int)),b.2)) (Â (EL a.1 b.1) fun g=>ifb (igt g 0) (k ((b.1,a.1),(0:Int))) (k ((a.1,b.1),(0:Int)))))))
def EM (a:py) (b:c7):Nm (Val pT):=DL a b some
def wY (b:c7) (a:c7) (k:py->Nm ρ):Nm ρ :=
  Â (EM ((a.1,(1:Int)),a.2,(1:Int)) b) fun c=>k c.1
def jU (a:c7) (b:c7):Nm py:=wY a b some
def Hz (c:bx) (a:ge) (k:py->Nm ρ):Nm ρ :=
  Â (Ą c) fun b=>Â (Ĭ a.2.2.1 a.2.2.2.1) fun d=>Â (ū b d) fun e=>Â (Ĭ a.2.2.2.1 a.2.2.1) fun f=>Â (ū b f) fun g=>Â (o8 e g) fun h=>Â (jU h a.2.2.2.2.2.2) fun i=>k i
def iz (a:bx) (b:ge):Nm py:=Hz a b some
def Me (a:bx) (b:ge) (k:c7->Nm ρ):Nm ρ :=
  ck ((ß b.2.2.1)-(1:Int)) fun c=>ck ((ß b.2.2.2.1)-(1:Int)) fun d=>ck ((HL (0:Int) c)*a.1.1) fun e=>ck ((HL (0:Int) d)*a.1.2) fun f=>ck (e-f) fun g=>ck ((HL (0:Int) c)*a.1.2) fun h=>ck ((HL (0:Int) d)*a.1.1) fun i=>ck (h-i) fun j=>k (g,j)
def nV (a:bx) (b:ge):Nm c7:=Me a b some
def DK (b:Int) (a:Int) (k:Int->Nm ρ):Nm ρ :=
  ifb (š a 0) (none) (ck (Int.tdiv b a) fun c=>ifb (š a 0) (none) (ifb (ilt (Int.tmod b a) 0) (ck (c-1) fun d=>k d) (k c)))
def nQ (a:Int) (b:Int):Nm (Int):=DK a b some
def P3 (a:c7) (k:c7->Nm ρ):Nm ρ :=
  Â (fN ([a])) fun b=>ifb (ine b 0) (k ((0:Int),b)) (ck (0-a.1) fun c=>Â (nQ c a.2) fun d=>ck (0-d) fun e=>k (e,(0:Int)))
def xU (a:c7):Nm c7:=P3 a some
def L5 (a:c7) (k:c7->Nm ρ):Nm ρ :=
  Â (fN ([a])) fun b=>ifb (ine b 0) (k ((0:Int),b)) (Â (nQ a.1 a.2) fun c=>k (c,(0:Int)))
def rA (a:c7):Nm c7:=L5 a some
def P4 (b:bx) (a:ge) (k:c7->Nm ρ):Nm ρ :=
  Â (iz b a) fun c=>Â (nV b a) fun d=>Â (rA c.2) fun e=>Â (xU c.1) fun f=>ck (a.2.2.2.2.1-a.2.2.2.2.2.1) fun g=>ck (g-d.2) fun h=>ck (h-e.1) fun i=>ck (a.2.2.2.2.1+a.2.2.2.2.2.1) fun j=>ck (j-d.1) fun l=>ck (l-f.1) fun m=>k (i,m)
def oZ (a:bx) (b:ge):Nm c7:=P4 a b some
def oD (b:Int) (e:an) (h:Int) (j:Int) (k:Int) (l:io) (m:c8) (n:js) (o:fx) (p:c8) (q:Int) (r:Int) (s:Int) (t:Int) (u:Int) (v:Int) (w:Int) (x:Int) (a:Int) (f:r7) (g:c8) (y:Int->r7->c8->Nm ρ) (z:Val tr->Nm ρ):Nm ρ :=
  ifb (ilt a (ß e)) (ck (h+a) fun A=>ck (A-1) fun c=>ck (h+a) fun d=>ck (a-(1:Int)) fun B=>è e B fun C=>è e a fun D=>Â (mj ((j,k),l,m,n,o,p) (q,r,s,(t,u),(v,w),x) C D) fun E=>ck (0-E) fun F=>ck (0-F) fun i=>ä (Ü ((List.length f)+(List.length ([(c,d,(0:Int)),(d,c,i)])))) (ä (Ü ((List.length g)+(List.length ([((2:Int),b),((2:Int),b)])))) (ck (a+(1:Int)) fun G=>y G (f++([(c,d,(0:Int)),(d,c,i)])) (g++([((2:Int),b),((2:Int),b)]))))) (z (f,g))
def oE (q:io) (r:Int) (f:Int) (g:Int) (h:io) (i:c8) (j:js) (k:fx) (l:c8) (s:c8) (t:Int) (b:Int) (d:r7) (e:c8) (u:Int->r7->c8->Nm ρ) (v:Val tr->Nm ρ):Nm ρ :=
  ifb (ilt b r) (è q b fun a=>Â (jV ((f,g),h,i,j,k,l) a) fun w=>Â (ŗ (((f,g),h,i,j,k,l),s,(t,d),e) ([a.1]) a.2.1) fun c=>ck (a.2.2.1+a.2.2.2.1.1) fun x=>ck (a.2.2.1+a.2.2.2.1.2) fun n=>ck (0-x) fun o=>ä (Ü ((List.length d)+(List.length ([((0:Int),c,n),(c,(0:Int),o)])))) (ä (Ü ((List.length e)+(List.length ([((1:Int),b),((1:Int),b)])))) (Ó (fun(m:Fd) y=>oD b w c f g h i j k l a.1 a.2.1 a.2.2.1 a.2.2.2.1.1 a.2.2.2.1.2 a.2.2.2.2.1.1 a.2.2.2.2.1.2 a.2.2.2.2.2 m.1 m.2.1 m.2.2 (fun z A B=>y (z,A,B)) (fun p=>ck (b+(1:Int)) fun C=>u C p.1 p.2)) ((1:Int),(d++([((0:Int),c,n),(c,(0:Int),o)])),(e++([((1:Int),b),((1:Int),b)])))))) (v (d,e))
def oC (r:fx) (s:Int) (g:Int) (h:Int) (i:io) (j:c8) (k:js) (l:fx) (m:c8) (o:c8) (p:Int) (a:Int) (c:r7) (d:c8) (t:Int->r7->c8->Nm ρ) (u:Val tr->Nm ρ):Nm ρ :=
  ifb (ilt a s) (è r a fun b=>Â (Ĭ b.2.2.2.1 b.2.2.1) fun v=>Â (ŗ (((g,h),i,j,k,l,m),o,(p,c),d) v b.2.1) fun e=>Â (Ĭ b.2.2.1 b.2.2.2.1) fun w=>Â (ŗ (((g,h),i,j,k,l,m),o,(p,c),d) w b.2.1) fun f=>Â (oZ ((g,h),i,j,k,l,m) b) fun n=>ck (0-n.1) fun q=>ä (Ü ((List.length c)+(List.length ([(e,f,n.2),(f,e,q)])))) (ä (Ü ((List.length d)+(List.length ([((3:Int),a),((3:Int),a)])))) (ck (a+(1:Int)) fun x=>t x (c++([(e,f,n.2),(f,e,q)])) (d++([((3:Int),a),((3:Int),a)]))))) (u (c,d))
def P5 (a:bx) (k:Val aF->Nm ρ):Nm ρ :=
  Â (kR a) fun b=>ck ((ß b)+(1:Int)) fun c=>Ó (fun(d:Fd) h=>oE a.2.1 (ß a.2.1) a.1.1 a.1.2 a.2.1 a.2.2.1 a.2.2.2.1 a.2.2.2.2.1 a.2.2.2.2.2 b c d.1 d.2.1 d.2.2 (fun i j l=>h (i,j,l)) (fun f=>Ó (fun(e:Fd) m=>oC a.2.2.2.2.1 (ß a.2.2.2.2.1) a.1.1 a.1.2 a.2.1 a.2.2.1 a.2.2.2.1 a.2.2.2.2.1 a.2.2.2.2.2 b c e.1 e.2.1 e.2.2 (fun n o p=>m (n,o,p)) (fun g=>k (a,b,(c,g.1),g.2))) ((0:Int),f.1,f.2))) ((0:Int),[],[])
def sL (a:bx):Nm ((Val aF)):=P5 a some
def Œ (b:an) (c:Int) (a:Int) (d:Int->Nm ρ) (e:Int->Nm ρ) (f:Unit->Nm ρ):Nm ρ :=
  ifb (ilt a c) (è b a fun g=>Â (ø g (-4503599627370496:Int) (4503599627370496:Int)) fun h=>ifb (!h) (e a) (ck (a+(1:Int)) fun i=>d i)) (f ())
def ny (b:Val aF) (a:an) (k:Int->Nm ρ):Nm ρ :=
  ifb (ine (ß a) (ß b.2.1)) (k (1:Int)) (Ó (fun(c:Int) d=>Œ a (ß a) c (fun e=>d e) (fun f=>ifb (ige f 0) (k (1:Int)) (k (0:Int))) (fun _=>k (0:Int))) (0:Int))
def ζ (a:Val aF) (b:an):Nm (Int):=ny a b some
def P0 (b:At) (a:Int) (k:Bool->Nm ρ):Nm ρ :=
  ifb (ige a 0) (k (ilt a b.1)) (k false)
def sJ (a:At) (b:Int):Nm (Bool):=P0 a b some
def lU (f:r7) (g:Int) (d:Int) (e:r7) (a:Int) (h:Int->Nm ρ) (c:c7->Nm ρ) (i:Unit->Nm ρ):Nm ρ :=
  ifb (ilt a g) (è f a fun b=>Â (sJ (d,e) b.1) fun j=>ifb (!j) (c ((1:Int),a)) (Â (sJ (d,e) b.2.1) fun k=>ifb (!k) (c ((1:Int),a)) (ifb (ieq b.1 b.2.1) (c ((1:Int),a)) (ifb (ilt b.2.2 (-4503599627370496:Int)) (c ((1:Int),a)) (ifb (igt b.2.2 4503599627370496) (c ((1:Int),a)) (ck (a+(1:Int)) fun l=>h l)))))) (i ())
def LX (a:At) (k:c7->Nm ρ):Nm ρ :=
  ifb (ilt a.1 1) (k ((1:Int),(-1:Int))) (ifb (igt a.1 60) (k ((1:Int),(-1:Int))) (ifb (igt (ß a.2) 300) (k ((2:Int),(-1:Int))) (Ó (fun(c:Int) d=>lU a.2 (ß a.2) a.1 a.2 c (fun e=>d e) (fun b=>k (b.1,b.2)) (fun _=>k ((0:Int),(-1:Int)))) (0:Int))))
def ry (a:At):Nm c7:=LX a some
def oz (d:an) (e:Int) (a:Int) (f:Int->Nm ρ) (b:Int->Nm ρ) (g:Unit->Nm ρ):Nm ρ :=
  ifb (ilt a e) (è d a fun c=>ifb (ilt c (-1152921504606846976:Int)) (b a) (ifb (igt c 1152921504606846976) (b a) (ck (a+(1:Int)) fun h=>f h))) (g ())
def ip (c:an) (d:r7) (e:Int) (a:Int) (f:Int->Nm ρ) (g:Val aP->Nm ρ) (h:Unit->Nm ρ):Nm ρ :=
  ifb (ilt a e) (è d a fun b=>è c b.2.1 fun i=>è c b.1 fun j=>ck (j+b.2.2) fun k=>ifb (igt i k) (g (false,(0:Int))) (ck (a+(1:Int)) fun l=>f l)) (h ())
def P1 (b:At) (a:an) (k:Val aP->Nm ρ):Nm ρ :=
  Â (ry b) fun c=>ifb (ine c.1 0) (k (false,c.1)) (ifb (ine (ß a) b.1) (k (false,(1:Int))) (Ó (fun(f:Int) g=>oz a (ß a) f (fun h=>g h) (fun i=>ifb (ige i 0) (k (false,(1:Int))) (Ó (fun(j:Int) l=>ip a b.2 (ß b.2) j (fun m=>l m) (fun d=>k (d.1,d.2)) (fun _=>è a (0:Int) fun n=>k (ieq n 0,(0:Int)))) (0:Int))) (fun _=>Ó (fun(o:Int) p=>ip a b.2 (ß b.2) o (fun q=>p q) (fun e=>k (e.1,e.2)) (fun _=>è a (0:Int) fun r=>k (ieq r 0,(0:Int)))) (0:Int))) (0:Int)))
def B4 (a:At) (b:an):Nm ((Val aP)):=P1 a b some
def uA (b:Val aF) (a:an) (k:Bool->Nm ρ):Nm ρ :=
  ä (Ü ((List.length ([(0:Int)]))+(List.length a))) (Â (B4 b.2.2.1 (([(0:Int)])++a)) fun c=>k c.1)
def iE (a:Val aF) (b:an):Nm (Bool):=uA a b some
def Qe (a:bx) (b:an) (k:Val aP->Nm ρ):Nm ρ :=
  Â (Ē a) fun c=>ifb (ine c 0) (k (false,c)) (Â (sL a) fun d=>Â (ζ d b) fun e=>ifb (ine e 0) (k (false,e)) (Â (iE d b) fun f=>k (f,(0:Int))))
def xY (a:bx) (b:an):Nm ((Val aP)):=Qe a b some
def l5 (b:an) (c:Int) (a:Int) (d:Int->Nm ρ) (e:Int->Nm ρ) (f:Unit->Nm ρ):Nm ρ :=
  ifb (ilt a c) (è b a fun g=>Â (fO g) fun h=>ifb (!h) (e a) (ck (a+(1:Int)) fun i=>d i)) (f ())
def Mg (a:bx) (b:Int) (c:an) (k:Int->Nm ρ):Nm ρ :=
  Â (Ē a) fun d=>ifb (ine d 0) (k d) (Ó (fun(e:Int) f=>l5 c (ß c) e (fun g=>f g) (fun h=>ifb (ige h 0) (k (1:Int)) (Â (Ą a) fun i=>Nx (k:=tI) (v:=Ô) b i (fun l=>k (0:Int)) (k (5:Int)))) (fun _=>Â (Ą a) fun j=>Nx (k:=tI) (v:=Ô) b j (fun m=>k (0:Int)) (k (5:Int)))) (0:Int))
def xW (a:bx) (b:Int) (c:an):Nm (Int):=Mg a b c some
def Qd (c:bx) (d:Int) (a:Int) (b:Int) (k:c7->Nm ρ):Nm ρ :=
  Â (xW c d ([a,b])) fun e=>ifb (ine e 0) (k ((0:Int),e)) (Â (Ą c) fun g=>Nx (k:=tI) (v:=Ô) d g (fun f=>ifb (igt a b) (k ((0:Int),(3:Int))) (ifb (ilt a f.2.1) (k ((0:Int),(3:Int))) (Â (mj c f a b) fun h=>k (h,(0:Int))))) (ifb (igt a b) (k ((0:Int),(3:Int))) (ifb (ilt a 0) (k ((0:Int),(3:Int))) (Â (mj c ((0:Int),(0:Int),(0:Int),((0:Int),(0:Int)),((0:Int),(0:Int)),(0:Int)) a b) fun i=>k (i,(0:Int))))))
def B6 (a:bx) (b:Int) (c:Int) (d:Int):Nm c7:=Qd a b c d some
def oN (f:Int) (a:Int) (c:fx) (g:Int->fx->Nm ρ) (h:fx->Nm ρ):Nm ρ :=
  ifb (ilt a f) (ä ((ile 0 a)&&(ilt a (Ć c))) (κ c (Int.toNat a) fun d=>ä (Ü (List.length d.2.2.1)) (ä (Ü (List.length d.2.2.2.1)) (ä ((ile 0 a)&&(ilt a (Ć c))) (κ c (Int.toNat a) fun b=>ä ((ile 0 a)&&(ilt a (Ć (List.set c (Int.toNat a) (b.1,b.2.1,d.2.2.1,b.2.2.2))))) (κ (List.set c (Int.toNat a) (b.1,b.2.1,d.2.2.1,b.2.2.2)) (Int.toNat a) fun e=>ck (a+(1:Int)) fun i=>g i (List.set (List.set c (Int.toNat a) (b.1,b.2.1,d.2.2.1,b.2.2.2)) (Int.toNat a) (e.1,e.2.1,e.2.2.1,d.2.2.2.1,e.2.2.2.2)))))))) (h c)
def Qb (a:bx) (b:ge) (k:LT->Nm ρ):Nm ρ :=
  ä (Ü (List.length b.2.2.1)) (ä (Ü (List.length b.2.2.2.1)) (Â (Ē a) fun d=>ifb (ine d 0) (k ((((0:Int),(0:Int)),[],[],[],[],[]),d)) (ä (Ü (List.length a.2.1)) (ä (Ü (List.length a.2.2.1)) (ä (Ü (List.length a.2.2.2.1)) (ä (Ü (List.length a.2.2.2.2.2)) (ä (Ü (List.length a.2.2.2.2.1)) (Ó (fun(e:(Val (.pair tI ab))) g=>oN (ß a.2.2.2.2.1) e.1 e.2 (fun h i=>g (h,i)) (fun c=>ä (Ü ((List.length c)+(List.length ([b])))) (Â (Ē (a.1,a.2.1,a.2.2.1,a.2.2.2.1,(c++([b])),a.2.2.2.2.2)) fun f=>ifb (ine f 0) (k ((((0:Int),(0:Int)),[],[],[],[],[]),f)) (k ((a.1,a.2.1,a.2.2.1,a.2.2.2.1,(c++([b])),a.2.2.2.2.2),(0:Int)))))) ((0:Int),a.2.2.2.2.1)))))))))
def sM (a:bx) (b:ge):Nm (LT):=Qb a b some
def ŕ (c:r7) (d:Int) (b:Int) (a:Int) (e:Int->Int->Nm ρ) (f:Int->Nm ρ):Nm ρ :=
  ifb (ilt a d) (è c a fun g=>ck (b+(Kc g.2.2 (0:Int))) fun h=>ck (a+(1:Int)) fun i=>e h i) (f b)
def ġ (f:Int) (d:an) (a:Int) (b:GE) (c:an) (e:Int->GE->an->Nm ρ) (g:Val aH->Nm ρ):Nm ρ :=
  ifb (ilt a f) (ä ((ile 0 a)&&(ilt a (Ć d))) (κ d (Int.toNat a) fun h=>ifb (ine h 1152921504606846976) (ä (Ü ((List.length c)+(List.length ([a])))) (ä ((ile 0 a)&&(ilt a (Ć b))) (κ b (Int.toNat a) fun k=>ck (a+(1:Int)) fun i=>e i (List.set b (Int.toNat a) true) (c++([a]))))) (ck (a+(1:Int)) fun j=>e j b c))) (g (b,c))
def Α (m:Val ao) (j:Int) (d:Int) (n:r7) (o:Int) (f:Int) (b:an) (c:GE) (e:an) (g:Int->an->GE->an->Nm ρ) (l:(Val (.pair .bool (.pair ac aH)))->Nm ρ) (p:(Val (.pair ac aH))->Nm ρ):Nm ρ :=
  ifb (ilt f o) (è n f fun a=>ifb (ine a.1 d) (ck (f+(1:Int)) fun q=>g q b c e) (Nx (k:=tI) (v:=.bool) f m (fun r=>ifb r (ck (f+(1:Int)) fun s=>g s b c e) (ä ((ile 0 d)&&(ilt d (Ć b))) (κ b (Int.toNat d) fun t=>ck (t+a.2.2) fun u=>ä ((ile 0 a.2.1)&&(ilt a.2.1 (Ć b))) (κ b (Int.toNat a.2.1) fun w=>ifb (ige u w) (ck (f+(1:Int)) fun x=>g x b c e) (ä ((ile 0 d)&&(ilt d (Ć b))) (κ b (Int.toNat d) fun y=>ck (y+a.2.2) fun h=>ä ((ile 0 a.2.1)&&(ilt a.2.1 (Ć b))) (κ b (Int.toNat a.2.1) fun M=>ä ((ile 0 a.2.1)&&(ilt a.2.1 (Ć (List.set b (Int.toNat a.2.1) h)))) (κ (List.set b (Int.toNat a.2.1) h) (Int.toNat a.2.1) fun z=>ifb (ilt z j) (l (false,(List.set b (Int.toNat a.2.1) h),c,e)) (ä ((ile 0 a.2.1)&&(ilt a.2.1 (Ć c))) (κ c (Int.toNat a.2.1) fun A=>ifb (!A) (ä (Ü ((List.length e)+(List.length ([a.2.1])))) (ä ((ile 0 a.2.1)&&(ilt a.2.1 (Ć c))) (κ c (Int.toNat a.2.1) fun N=>ck (f+(1:Int)) fun B=>g B (List.set b (Int.toNat a.2.1) h) (List.set c (Int.toNat a.2.1) true) (e++([a.2.1]))))) (ck (f+(1:Int)) fun C=>g C (List.set b (Int.toNat a.2.1) h) c e))))))))))) (ä ((ile 0 d)&&(ilt d (Ć b))) (κ b (Int.toNat d) fun D=>ck (D+a.2.2) fun E=>ä ((ile 0 a.2.1)&&(ilt a.2.1 (Ć b))) (κ b (Int.toNat a.2.1) fun F=>ifb (ige E F) (ck (f+(1:Int)) fun G=>g G b c e) (ä ((ile 0 d)&&(ilt d (Ć b))) (κ b (Int.toNat d) fun H=>ck (H+a.2.2) fun i=>ä ((ile 0 a.2.1)&&(ilt a.2.1 (Ć b))) (κ b (Int.toNat a.2.1) fun O=>ä ((ile 0 a.2.1)&&(ilt a.2.1 (Ć (List.set b (Int.toNat a.2.1) i)))) (κ (List.set b (Int.toNat a.2.1) i) (Int.toNat a.2.1) fun I=>ifb (ilt I j) (l (false,(List.set b (Int.toNat a.2.1) i),c,e)) (ä ((ile 0 a.2.1)&&(ilt a.2.1 (Ć c))) (κ c (Int.toNat a.2.1) fun J=>ifb (!J) (ä (Ü ((List.length e)+(List.length ([a.2.1])))) (ä ((ile 0 a.2.1)&&(ilt a.2.1 (Ć c))) (κ c (Int.toNat a.2.1) fun P=>ck (f+(1:Int)) fun K=>g K (List.set b (Int.toNat a.2.1) i) (List.set c (Int.toNat a.2.1) true) (e++([a.2.1]))))) (ck (f+(1:Int)) fun L=>g L (List.set b (Int.toNat a.2.1) i) c e)))))))))))) (p (b,c,e))
def Ĉ (l:Val ao) (m:Int) (n:Int) (k:r7) (h:an) (d:GE) (b:an) (c:an) (o:an->GE->an->an->Nm ρ) (i:(Val (.pair .bool aO))->Nm ρ):Nm ρ :=
  ifb (ieq (ß c) 0) (i (true,h,d,b,c)) (ä (ilt 0 (Ć c)) (κ c 0 fun a=>ä (ile 1 (Ć c)) (ä (decide (1+(List.length c-1)=List.length c)) (ä ((ile 0 a)&&(ilt a (Ć d))) (κ d (Int.toNat a) fun x=>ä ((ile 0 a)&&(ilt a (Ć b))) (κ b (Int.toNat a) fun p=>ck (p+(1:Int)) fun e=>ä ((ile 0 a)&&(ilt a (Ć b))) (κ b (Int.toNat a) fun y=>ä ((ile 0 a)&&(ilt a (Ć (List.set b (Int.toNat a) e)))) (κ (List.set b (Int.toNat a) e) (Int.toNat a) fun q=>ck (n+(1:Int)) fun r=>ifb (igt q r) (i (false,h,(List.set d (Int.toNat a) false),(List.set b (Int.toNat a) e),(List.drop 1 c))) (Ó (fun(f:th) s=>Α l m a k (ß k) f.1 f.2.1 f.2.2.1 f.2.2.2 (fun t u v w=>s (t,u,v,w)) (fun g=>i (g.1,g.2.1,g.2.2.1,(List.set b (Int.toNat a) e),g.2.2.2)) (fun j=>o j.1 j.2.1 (List.set b (Int.toNat a) e) j.2.2)) ((0:Int),h,(List.set d (Int.toNat a) false),(List.drop 1 c)))))))))))
def ž (c:Int) (d:Int) (a:Int) (b:an) (e:Int->an->Nm ρ) (f:an->Nm ρ):Nm ρ :=
  ifb (ilt a d) (ä ((ile 0 a)&&(ilt a (Ć b))) (κ b (Int.toNat a) fun g=>ck (g-c) fun h=>ä ((ile 0 a)&&(ilt a (Ć b))) (κ b (Int.toNat a) fun j=>ck (a+(1:Int)) fun i=>e i (List.set b (Int.toNat a) h)))) (f b)
def qO (a:At) (h:Val ao) (k:IN->Nm ρ):Nm ρ :=
  ä ((ile 0 a.1)&&(Ü (Int.toNat a.1))) (ä ((ile 0 a.1)&&(Ü (Int.toNat a.1))) (ä ((ile 0 a.1)&&(Ü (Int.toNat a.1))) (Ó (fun(e:c7) i=>ŕ a.2 (ß a.2) e.1 e.2 (fun j l=>i (j,l)) (fun m=>Ó (fun(d:GT) n=>ġ a.1 (List.replicate (Int.toNat a.1) (0:Int)) d.1 d.2.1 d.2.2 (fun o p q=>n (o,p,q)) (fun f=>Ó (fun(c:Val aO) r=>Ĉ h m a.1 a.2 c.1 c.2.1 c.2.2.1 c.2.2.2 (fun s t u v=>r (s,t,u,v)) (fun b=>ifb (!b.1) (k ([],false)) (ä (ilt 0 (Ć b.2.1)) (κ b.2.1 0 fun w=>Ó (fun(g:ly) x=>ž w (ß b.2.1) g.1 g.2 (fun y z=>x (y,z)) (fun A=>k (A,true))) ((0:Int),b.2.1))))) ((List.replicate (Int.toNat a.1) (0:Int)),f.1,(List.replicate (Int.toNat a.1) (0:Int)),f.2))) ((0:Int),(List.replicate (Int.toNat a.1) false),[]))) ((0:Int),(0:Int)))))
def mh (a:At) (b:Val ao):Nm (IN):=qO a b some
def lT (b:an) (c:Int) (d:Int) (e:r7) (a:Int) (f:Int->Nm ρ) (g:Int->Nm ρ) (h:Unit->Nm ρ):Nm ρ :=
  ifb (ilt a c) (è b a fun i=>Â (sJ (d,e) i) fun j=>ifb (!j) (g (1:Int)) (ck (a+(1:Int)) fun k=>f k)) (h ())
def LW (a:At) (b:an) (k:Int->Nm ρ):Nm ρ :=
  Â (ry a) fun c=>ifb (ine c.1 0) (k c.1) (Ó (fun(d:Int) e=>lT b (ß b) a.1 a.2 d (fun f=>e f) (fun g=>k g) (fun _=>Â (mh a ([])) fun h=>ifb (!h.2) (k (9:Int)) (k (0:Int)))) (0:Int))
def xT (a:At) (b:an):Nm (Int):=LW a b some
def jN (c:Int) (a:Int) (b:an) (d:Int->an->Nm ρ) (e:an->Nm ρ):Nm ρ :=
  ifb (ilt a c) (ä ((ile 0 a)&&(ilt a (Ć b))) (κ b (Int.toNat a) fun g=>ck (a+(1:Int)) fun f=>d f (List.set b (Int.toNat a) (1152921504606846976:Int)))) (e b)
def oy (c:r7) (d:Int) (b:Int) (a:Int) (e:Int->Int->Nm ρ) (f:Int->Nm ρ):Nm ρ :=
  ifb (ilt a d) (è c a fun g=>ck (b+(Kc g.2.2 (0:Int))) fun h=>ck (a+(1:Int)) fun i=>e h i) (f b)
def ox (f:Int) (d:an) (a:Int) (b:GE) (c:an) (e:Int->GE->an->Nm ρ) (g:Val aH->Nm ρ):Nm ρ :=
  ifb (ilt a f) (ä ((ile 0 a)&&(ilt a (Ć d))) (κ d (Int.toNat a) fun h=>ifb (ine h 1152921504606846976) (ä (Ü ((List.length c)+(List.length ([a])))) (ä ((ile 0 a)&&(ilt a (Ć b))) (κ b (Int.toNat a) fun k=>ck (a+(1:Int)) fun i=>e i (List.set b (Int.toNat a) true) (c++([a]))))) (ck (a+(1:Int)) fun j=>e j b c))) (g (b,c))
def wR (m:Val ao) (j:Int) (d:Int) (n:r7) (o:Int) (f:Int) (b:an) (c:GE) (e:an) (g:Int->an->GE->an->Nm ρ) (l:(Val (.pair .bool (.pair ac aH)))->Nm ρ) (p:(Val (.pair ac aH))->Nm ρ):Nm ρ :=
  ifb (ilt f o) (è n f fun a=>ifb (ine a.1 d) (ck (f+(1:Int)) fun q=>g q b c e) (Nx (k:=tI) (v:=.bool) f m (fun r=>ifb r (ck (f+(1:Int)) fun s=>g s b c e) (ä ((ile 0 d)&&(ilt d (Ć b))) (κ b (Int.toNat d) fun t=>ck (t+a.2.2) fun u=>ä ((ile 0 a.2.1)&&(ilt a.2.1 (Ć b))) (κ b (Int.toNat a.2.1) fun w=>ifb (ige u w) (ck (f+(1:Int)) fun x=>g x b c e) (ä ((ile 0 d)&&(ilt d (Ć b))) (κ b (Int.toNat d) fun y=>ck (y+a.2.2) fun h=>ä ((ile 0 a.2.1)&&(ilt a.2.1 (Ć b))) (κ b (Int.toNat a.2.1) fun M=>ä ((ile 0 a.2.1)&&(ilt a.2.1 (Ć (List.set b (Int.toNat a.2.1) h)))) (κ (List.set b (Int.toNat a.2.1) h) (Int.toNat a.2.1) fun z=>ifb (ilt z j) (l (false,(List.set b (Int.toNat a.2.1) h),c,e)) (ä ((ile 0 a.2.1)&&(ilt a.2.1 (Ć c))) (κ c (Int.toNat a.2.1) fun A=>ifb (!A) (ä (Ü ((List.length e)+(List.length ([a.2.1])))) (ä ((ile 0 a.2.1)&&(ilt a.2.1 (Ć c))) (κ c (Int.toNat a.2.1) fun N=>ck (f+(1:Int)) fun B=>g B (List.set b (Int.toNat a.2.1) h) (List.set c (Int.toNat a.2.1) true) (e++([a.2.1]))))) (ck (f+(1:Int)) fun C=>g C (List.set b (Int.toNat a.2.1) h) c e))))))))))) (ä ((ile 0 d)&&(ilt d (Ć b))) (κ b (Int.toNat d) fun D=>ck (D+a.2.2) fun E=>ä ((ile 0 a.2.1)&&(ilt a.2.1 (Ć b))) (κ b (Int.toNat a.2.1) fun F=>ifb (ige E F) (ck (f+(1:Int)) fun G=>g G b c e) (ä ((ile 0 d)&&(ilt d (Ć b))) (κ b (Int.toNat d) fun H=>ck (H+a.2.2) fun i=>ä ((ile 0 a.2.1)&&(ilt a.2.1 (Ć b))) (κ b (Int.toNat a.2.1) fun O=>ä ((ile 0 a.2.1)&&(ilt a.2.1 (Ć (List.set b (Int.toNat a.2.1) i)))) (κ (List.set b (Int.toNat a.2.1) i) (Int.toNat a.2.1) fun I=>ifb (ilt I j) (l (false,(List.set b (Int.toNat a.2.1) i),c,e)) (ä ((ile 0 a.2.1)&&(ilt a.2.1 (Ć c))) (κ c (Int.toNat a.2.1) fun J=>ifb (!J) (ä (Ü ((List.length e)+(List.length ([a.2.1])))) (ä ((ile 0 a.2.1)&&(ilt a.2.1 (Ć c))) (κ c (Int.toNat a.2.1) fun P=>ck (f+(1:Int)) fun K=>g K (List.set b (Int.toNat a.2.1) i) (List.set c (Int.toNat a.2.1) true) (e++([a.2.1]))))) (ck (f+(1:Int)) fun L=>g L (List.set b (Int.toNat a.2.1) i) c e)))))))))))) (p (b,c,e))
def ow (l:Val ao) (m:Int) (n:Int) (k:r7) (h:an) (d:GE) (b:an) (c:an) (o:an->GE->an->an->Nm ρ) (i:(Val (.pair .bool aO))->Nm ρ):Nm ρ :=
  ifb (ieq (ß c) 0) (i (true,h,d,b,c)) (ä (ilt 0 (Ć c)) (κ c 0 fun a=>ä (ile 1 (Ć c)) (ä (decide (1+(List.length c-1)=List.length c)) (ä ((ile 0 a)&&(ilt a (Ć d))) (κ d (Int.toNat a) fun x=>ä ((ile 0 a)&&(ilt a (Ć b))) (κ b (Int.toNat a) fun p=>ck (p+(1:Int)) fun e=>ä ((ile 0 a)&&(ilt a (Ć b))) (κ b (Int.toNat a) fun y=>ä ((ile 0 a)&&(ilt a (Ć (List.set b (Int.toNat a) e)))) (κ (List.set b (Int.toNat a) e) (Int.toNat a) fun q=>ck (n+(1:Int)) fun r=>ifb (igt q r) (i (false,h,(List.set d (Int.toNat a) false),(List.set b (Int.toNat a) e),(List.drop 1 c))) (Ó (fun(f:th) s=>wR l m a k (ß k) f.1 f.2.1 f.2.2.1 f.2.2.2 (fun t u v w=>s (t,u,v,w)) (fun g=>i (g.1,g.2.1,g.2.2.1,(List.set b (Int.toNat a) e),g.2.2.2)) (fun j=>o j.1 j.2.1 (List.set b (Int.toNat a) e) j.2.2)) ((0:Int),h,(List.set d (Int.toNat a) false),(List.drop 1 c)))))))))))
def yW (a:At) (i:Val ao) (b:Int) (k:an->Nm ρ):Nm ρ :=
  ä ((ile 0 a.1)&&(Ü (Int.toNat a.1))) (Ó (fun(f:ly) j=>jN (ß (List.replicate (Int.toNat a.1) (0:Int))) f.1 f.2 (fun l m=>j (l,m)) (fun c=>ä ((ile 0 b)&&(ilt b (Ć c))) (κ c (Int.toNat b) fun B=>ä ((ile 0 a.1)&&(Ü (Int.toNat a.1))) (ä ((ile 0 a.1)&&(Ü (Int.toNat a.1))) (Ó (fun(g:c7) n=>oy a.2 (ß a.2) g.1 g.2 (fun o p=>n (o,p)) (fun q=>Ó (fun(e:GT) r=>ox a.1 (List.set c (Int.toNat b) (0:Int)) e.1 e.2.1 e.2.2 (fun s t u=>r (s,t,u)) (fun h=>Ó (fun(d:Val aO) v=>ow i q a.1 a.2 d.1 d.2.1 d.2.2.1 d.2.2.2 (fun w x y z=>v (w,x,y,z)) (fun A=>k A.2.1)) ((List.set c (Int.toNat b) (0:Int)),h.1,(List.replicate (Int.toNat a.1) (0:Int)),h.2))) ((0:Int),(List.replicate (Int.toNat a.1) false),[]))) ((0:Int),(0:Int))))))) ((0:Int),(List.replicate (Int.toNat a.1) (0:Int))))
def sK (a:At) (b:Val ao) (c:Int):Nm (an):=yW a b c some
def LY (a:At) (b:Int) (c:Int) (k:c7->Nm ρ):Nm ρ :=
  Â (xT a ([b,c])) fun d=>ifb (ine d 0) (k ((0:Int),d)) (Â (sK a ([]) b) fun f=>è f c fun e=>ifb (ieq e 1152921504606846976) (k ((0:Int),(5:Int))) (k (e,(0:Int))))
def rz (a:At) (b:Int) (c:Int):Nm c7:=LY a b c some
def L8 (b:bx) (a:ge) (c:c7) (k:px->Nm ρ):Nm ρ :=
  Â (iz b a) fun d=>Â (nV b a) fun e=>Â (xU d.1) fun h=>Â (rA d.2) fun i=>ck (h.1+e.1) fun j=>ck (j-a.2.2.2.2.2.1) fun f=>ck (i.1+e.2) fun l=>ck (l+a.2.2.2.2.2.1) fun g=>ifb (igt f g) (k (((0:Int),(0:Int)),(5:Int))) (ck (c.1+f) fun m=>ck (c.2+g) fun n=>k ((m,n),(0:Int)))
def nT (a:bx) (b:ge) (c:c7):Nm px:=L8 a b c some
def D6 (g:bx) (a:ge) (k:px->Nm ρ):Nm ρ :=
  Â (sM g (a.1,a.2.1,a.2.2.1,a.2.2.2.1,(0:Int),a.2.2.2.2.2)) fun d=>ifb (ine d.2 0) (k (((0:Int),(0:Int)),d.2)) (Â (sL d.1) fun b=>ck ((ß b.2.2.1.2)-(2:Int)) fun c=>ä ((ile 0 c)&&(ile c (Ć b.2.2.1.2))) (Â (Ĭ a.2.2.1 a.2.2.2.1) fun l=>Â (ŗ b l a.2.1) fun h=>Â (Ĭ a.2.2.2.1 a.2.2.1) fun m=>Â (ŗ b m a.2.1) fun i=>Â (rz (b.2.2.1.1,(List.take (Int.toNat c) b.2.2.1.2)) i h) fun e=>ifb (ine e.2 0) (k (((0:Int),(0:Int)),e.2)) (Â (rz (b.2.2.1.1,(List.take (Int.toNat c) b.2.2.1.2)) h i) fun f=>ifb (ine f.2 0) (k (((0:Int),(0:Int)),f.2)) (ck (0-f.1) fun n=>Â (nT g (a.1,a.2.1,a.2.2.1,a.2.2.2.1,(0:Int),a.2.2.2.2.2) (n,e.1)) fun j=>k (j.1,j.2)))))
def kS (a:bx) (b:ge):Nm px:=D6 a b some
def zZ (k:bx->Nm ρ):Nm ρ :=
  k (((0:Int),(2:Int)),[((1:Int),(0:Int),(1000:Int),((-5:Int),(5:Int)),((1:Int),(10:Int)),(1:Int)),((2:Int),(0:Int),(1000:Int),((-50:Int),(50:Int)),((1:Int),(4:Int)),(0:Int))],[((1:Int),(10:Int))],[((1:Int),((20:Int),(29:Int)),(3:Int))],[((7:Int),(10:Int),[(1:Int)],[(2:Int)],(-20:Int),(1:Int),(100:Int),(200:Int))],[])
def rr:Nm bx:=zZ some
def L7 (a:bx) (b:Int) (k:(Val (.pair Ï tI))->Nm ρ):Nm ρ :=
  Â (Ē a) fun c=>ifb (ine c 0) (k (((0:Int),(0:Int),[],[],(0:Int),(0:Int),(0:Int),(0:Int)),c)) (ifb (ilt b 0) (k (((0:Int),(0:Int),[],[],(0:Int),(0:Int),(0:Int),(0:Int)),(1:Int))) (ifb (ige b (ß a.2.2.2.2.1)) (k (((0:Int),(0:Int),[],[],(0:Int),(0:Int),(0:Int),(0:Int)),(1:Int))) (è a.2.2.2.2.1 b fun d=>k (d,(0:Int)))))
def rB (a:bx) (b:Int):Nm ((Val (.pair Ï tI))):=L7 a b some
def HD (b:bx) (c:Int) (k:Val pT->Nm ρ):Nm ρ :=
  Â (rB b c) fun a=>ifb (ine a.2 0) (k ((((0:Int),(0:Int)),(0:Int),(0:Int)),a.2)) (Â (iz b a.1) fun d=>k (d,(0:Int)))
def sO (a:bx) (b:Int):Nm (Val pT):=HD a b some
def Qc (b:bx) (c:Int) (k:px->Nm ρ):Nm ρ :=
  Â (rB b c) fun a=>ifb (ine a.2 0) (k (((0:Int),(0:Int)),a.2)) (Â (oZ b a.1) fun d=>k (d,(0:Int)))
def B5 (a:bx) (b:Int):Nm px:=Qc a b some
def Mi (a:bx) (k:GL->Nm ρ):Nm ρ :=
  Â (Ē a) fun b=>ifb (ine b 0) (k ([],b)) (Â (kR a) fun c=>k (c,(0:Int)))
def xX (a:bx):Nm (GL):=Mi a some
def HC (a:bx) (k:(Val (.pair í (.pair aa tI)))->Nm ρ):Nm ρ :=
  Â (Ē a) fun b=>ifb (ine b 0) (k (((0:Int),[]),[],b)) (Â (sL a) fun c=>k (c.2.2.1,c.2.2.2,(0:Int)))
def sN (a:bx):Nm ((Val (.pair í (.pair aa tI)))):=HC a some
def se (b:Int) (e:zC) (f:an) (g:Int) (h:Int) (i:Int) (j:io) (k:c8) (l:js) (m:fx) (n:c8) (a:Int) (o:Int->Nm ρ) (c:Val aP->Nm ρ) (p:Unit->Nm ρ):Nm ρ :=
  ifb (ilt a g) (è f a fun d=>Â (jW ((h,i),j,k,l,m,n) d b) fun q=>ifb q.2 (c (false,(0:Int))) (Â (Ō e d b) fun r=>ifb (ine r 0) (c (false,(0:Int))) (ck (a+(1:Int)) fun s=>o s))) (p ())
def Uq (a:bx) (d:Int) (b:an) (c:an) (k:Val aP->Nm ρ):Nm ρ :=
  Â (Ē a) fun e=>ifb (ine e 0) (k (false,e)) (Â (fO d) fun j=>ifb (!j) (k (false,(1:Int))) (Â (iy b) fun l=>ifb (!l) (k (false,(1:Int))) (Â (iy c) fun m=>ifb (!m) (k (false,(1:Int))) (Â (Ą a) fun n=>Â (Đ ([b,c])) fun f=>Ó (fun(o:Int) p=>se d n f (ß f) a.1.1 a.1.2 a.2.1 a.2.2.1 a.2.2.2.1 a.2.2.2.2.1 a.2.2.2.2.2 o (fun q=>p q) (fun g=>k (g.1,g.2)) (fun _=>Â (Ĭ b c) fun h=>Â (Ĭ c b) fun i=>ifb (ile (ß h) 1) (ifb (ile (ß i) 1) (ck ((ß h)+(ß i)) fun r=>k (igt r 0,(0:Int))) (k (false,(0:Int)))) (k (false,(0:Int))))) (0:Int)))))
def JG (a:bx) (b:Int) (c:an) (d:an):Nm ((Val aP)):=Uq a b c d some
def vm (k:Bool->Nm ρ):Nm ρ :=
  Â rr fun a=>Â (sO a (0:Int)) fun b=>Â (B5 a (0:Int)) fun d=>Â (xX a) fun e=>Â (sN a) fun c=>Â (B6 a (1:Int) (0:Int) (25:Int)) fun g=>ifb (ine b.2 0) (k false) (ifb (ine d.2 0) (k false) (ifb (ine e.2 0) (k false) (ifb (ine c.2.2 0) (k false) (ifb (ine g.2 0) (k false) (ifb (!((š b.1.1.1 (-30:Int))&&((š b.1.1.2 (1:Int))&&((š b.1.2.1 (-15:Int))&&((š b.1.2.2 (1:Int))&&true))))) (k false) (ifb (!((š d.1.1 (-6:Int))&&((š d.1.2 (11:Int))&&true))) (k false) (ifb (ine g.1 16) (k false) (ifb (ine (ß e.1) 4) (k false) (è e.1 (3:Int) fun h=>ifb (!((š h.1 (2:Int))&&((š h.2 (10:Int))&&true))) (k false) (ifb (ine c.1.1 5) (k false) (ifb (ine (ß c.1.2) 10) (k false) (ifb (ine (ß c.2.1) 10) (k false) (è c.2.1 (9:Int) fun i=>ifb (!((š i.1 (3:Int))&&((š i.2 (0:Int))&&true))) (k false) (Â (xY a ([(1000:Int),(1000:Int),(990:Int),(990:Int)])) fun j=>Â (xY a ([(1000:Int),(999:Int),(990:Int),(990:Int)])) fun l=>Â (kS a ((8:Int),(10:Int),[(1:Int)],[(2:Int)],(0:Int),(0:Int),(0:Int),(0:Int))) fun f=>Â (JG a (25:Int) ([(1:Int)]) ([(2:Int)])) fun m=>ifb (ieq j.2 0) (ifb (ieq l.2 0) (ifb (ieq f.2 0) (ifb (ieq m.2 0) (ifb j.1 (ifb (!l.1) (ifb (!m.1) (k ((š f.1.1 (-6:Int))&&((š f.1.2 (11:Int))&&true))) (k false)) (k false)) (k false)) (k false)) (k false)) (k false)) (k false)))))))))))))))
def Ğ:Nm (Bool):=vm some
def oH (d:an) (e:Int) (a:ByteArray) (b:Int) (f:ByteArray->Int->Nm ρ) (g:ByteArray->Nm ρ):Nm ρ :=
  ifb (ilt b e) (è d b fun h=>Â (mG h) fun c=>ä (Ü (ByteArray.size (ByteArray.mk #[32])+ByteArray.size c)) (ä (Ü (ByteArray.size a+ByteArray.size ((ByteArray.mk #[32])++c))) (ck (b+(1:Int)) fun i=>f (a++((ByteArray.mk #[32])++c)) i))) (g a)
def P7 (c:ByteArray) (a:an) (k:ByteArray->Nm ρ):Nm ρ :=
  Ó (fun(b:v7) d=>oH a (ß a) b.1 b.2 (fun e f=>d (e,f)) (fun g=>k g)) (c,(0:Int))
def gT (a:ByteArray) (b:an):Nm (ByteArray):=P7 a b some
def mb (e:io) (f:Int) (b:Int) (c:fy) (g:Int->fy->Nm ρ) (h:fy->Nm ρ):Nm ρ :=
  ifb (ilt b f) (è e b fun a=>Â (gT (ByteArray.mk #[103,97,117,103,101]) ([a.1,a.2.1,a.2.2.1,a.2.2.2.1.1,a.2.2.2.1.2,a.2.2.2.2.1.1,a.2.2.2.2.1.2,a.2.2.2.2.2])) fun d=>ä (Ü ((List.length c)+(List.length ([d])))) (ck (b+(1:Int)) fun i=>g i (c++([d])))) (h c)
def l9 (e:c8) (f:Int) (a:Int) (b:fy) (g:Int->fy->Nm ρ) (h:fy->Nm ρ):Nm ρ :=
  ifb (ilt a f) (è e a fun c=>Â (gT (ByteArray.mk #[117,115,101]) ([c.1,c.2])) fun d=>ä (Ü ((List.length b)+(List.length ([d])))) (ck (a+(1:Int)) fun i=>g i (b++([d])))) (h b)
def l8 (e:js) (f:Int) (b:Int) (c:fy) (g:Int->fy->Nm ρ) (h:fy->Nm ρ):Nm ρ :=
  ifb (ilt b f) (è e b fun a=>Â (gT (ByteArray.mk #[108,111,97,110]) ([a.1,a.2.1.1,a.2.1.2,a.2.2])) fun d=>ä (Ü ((List.length c)+(List.length ([d])))) (ck (b+(1:Int)) fun i=>g i (c++([d])))) (h c)
def l7 (g:fx) (h:Int) (d:Int) (e:fy) (i:Int->fy->Nm ρ) (j:fy->Nm ρ):Nm ρ :=
  ifb (ilt d h) (è g d fun a=>Â (gT (ByteArray.mk #[99,111,109,112,97,114,101]) ([a.1,a.2.1,a.2.2.2.2.1,a.2.2.2.2.2.1,a.2.2.2.2.2.2.1,a.2.2.2.2.2.2.2])) fun b=>Â (gT (ByteArray.mk #[32,97]) a.2.2.1) fun c=>ä (Ü (ByteArray.size b+ByteArray.size c)) (Â (gT (ByteArray.mk #[32,98]) a.2.2.2.1) fun f=>ä (Ü (ByteArray.size (b++c)+ByteArray.size f)) (ä (Ü ((List.length e)+(List.length ([((b++c)++f)])))) (ck (d+(1:Int)) fun k=>i k (e++([((b++c)++f)])))))) (j e)
def l6 (e:c8) (f:Int) (a:Int) (b:fy) (g:Int->fy->Nm ρ) (h:fy->Nm ρ):Nm ρ :=
  ifb (ilt a f) (è e a fun c=>Â (gT (ByteArray.mk #[108,111,111,107]) ([c.1,c.2])) fun d=>ä (Ü ((List.length b)+(List.length ([d])))) (ck (a+(1:Int)) fun i=>g i (b++([d])))) (h b)
def xw (a:bx) (k:v7->Nm ρ):Nm ρ :=
  Â (Ē a) fun b=>ifb (ine b 0) (k ((ByteArray.mk #[]),b)) (Â (gT (ByteArray.mk #[102,105,108,109]) ([a.1.1,a.1.2])) fun i=>Ó (fun(c:Id) j=>mb a.2.1 (ß a.2.1) c.1 c.2 (fun l m=>j (l,m)) (fun n=>Ó (fun(d:Id) o=>l9 a.2.2.1 (ß a.2.2.1) d.1 d.2 (fun p q=>o (p,q)) (fun r=>Ó (fun(e:Id) s=>l8 a.2.2.2.1 (ß a.2.2.2.1) e.1 e.2 (fun t u=>s (t,u)) (fun v=>Ó (fun(f:Id) w=>l7 a.2.2.2.2.1 (ß a.2.2.2.2.1) f.1 f.2 (fun x y=>w (x,y)) (fun z=>Ó (fun(g:Id) A=>l6 a.2.2.2.2.2 (ß a.2.2.2.2.2) g.1 g.2 (fun B C=>A (B,C)) (fun D=>Â (mF D (ByteArray.mk #[10])) fun h=>ä (Ü (ByteArray.size h+ByteArray.size (ByteArray.mk #[10]))) (k ((h++(ByteArray.mk #[10])),(0:Int))))) ((0:Int),z))) ((0:Int),v))) ((0:Int),r))) ((0:Int),n))) ((0:Int),[i]))
def gU (a:bx):Nm (v7):=xw a some
def iD (e:fy) (f:Int) (b:Int) (a:an) (d:Int->an->Nm ρ) (g:an->Nm ρ):Nm ρ :=
  ifb (ilt b f) (è e b fun h=>Â (V2 h) fun c=>ifb c.2 (ä (Ü ((List.length a)+(List.length ([(0:Int)])))) (ck (b+(1:Int)) fun i=>d i (a++([(0:Int)])))) (ä (Ü ((List.length a)+(List.length ([c.1])))) (ck (b+(1:Int)) fun j=>d j (a++([c.1]))))) (g a)
def vy (a:fy) (k:an->Nm ρ):Nm ρ :=
  Ó (fun(b:ly) c=>iD a (ß a) b.1 b.2 (fun d e=>c (d,e)) (fun f=>k f)) ((0:Int),[])
def Ĩ (a:fy):Nm (an):=vy a some
def iL (b:fy) (d:fy) (e:Int) (a:Int) (f:Int->Nm ρ) (g:DO->Nm ρ) (h:Unit->Nm ρ):Nm ρ :=
  ifb (ilt a e) (è d a fun i=>ifb (i.toList==(ByteArray.mk #[98]).toList) (ä ((ile 1 a)&&(ile a (Ć b))) (Â (Ĩ (List.take (Int.toNat (a-(1:Int))) (List.drop 1 b))) fun j=>ck (a+(1:Int)) fun c=>ä ((ile 0 c)&&(ile c (Ć b))) (Â (Ĩ (List.drop (Int.toNat c) b)) fun k=>g (j,k)))) (ck (a+(1:Int)) fun l=>f l)) (h ())
def L9 (a:fy) (k:DO->Nm ρ):Nm ρ :=
  ifb (ieq (ß a) 0) (k ([],[])) (è a (0:Int) fun c=>ifb (!(c.toList==(ByteArray.mk #[97]).toList)) (k ([],[])) (Ó (fun(d:Int) e=>iL a a (ß a) d (fun f=>e f) (fun b=>k (b.1,b.2)) (fun _=>k ([],[]))) (0:Int)))
def xV (a:fy):Nm (DO):=L9 a some
def iU (j:Int) (k:Int) (l:Int) (m:Int) (c:Int) (n:Int) (o:Int) (p:Int) (q:io) (r:c8) (s:js) (t:fx) (u:c8) (v:Int) (A:Int) (B:Int) (d:io) (e:c8) (f:js) (g:fx) (h:c8) (y:ByteArray) (w:Int->Int->io->c8->js->fx->c8->Int->Int->Int->io->c8->js->fx->c8->Nm ρ) (i:Val ay->Nm ρ):Nm ρ :=
  Â (υ y (ByteArray.mk #[10])) fun r1=>Â (kM r1 (ByteArray.mk #[32])) fun a=>è a (0:Int) fun x=>ifb (NN x (ByteArray.mk #[102,105,108,109])) (ä (ile 1 (Ć a)) (ifb (ilt (ß (List.drop 1 a)) j) (i ((0:Int),(0:Int),[],[],[],[],[],(7:Int))) (ä ((ile 0 j)&&(ile j (Ć (List.drop 1 a)))) (Â (Ĩ (List.take (Int.toNat j) (List.drop 1 a))) fun E=>ä ((ile 0 j)&&(ile j (Ć (List.drop 1 a)))) (è E (0:Int) fun e5=>è E (1:Int) fun e6=>w o p q r s t u v e5 e6 d e f g h))))) (ifb (NN x (ByteArray.mk #[103,97,117,103,101])) (ä (ile 1 (Ć a)) (ifb (ilt (ß (List.drop 1 a)) k) (i ((0:Int),(0:Int),[],[],[],[],[],(7:Int))) (ä ((ile 0 k)&&(ile k (Ć (List.drop 1 a)))) (Â (Ĩ (List.take (Int.toNat k) (List.drop 1 a))) fun b=>ä ((ile 0 k)&&(ile k (Ć (List.drop 1 a)))) (è b (0:Int) fun F=>è b (1:Int) fun G=>è b (2:Int) fun H=>è b (3:Int) fun I=>è b (4:Int) fun J=>è b (5:Int) fun K=>è b (6:Int) fun L=>è b (7:Int) fun M=>ä (Ü ((List.length d)+(List.length ([(F,G,H,(I,J),(K,L),M)])))) (w o p q r s t u v A B (d++([(F,G,H,(I,J),(K,L),M)])) e f g h)))))) (ifb (NN x (ByteArray.mk #[117,115,101])) (ä (ile 1 (Ć a)) (ifb (ilt (ß (List.drop 1 a)) l) (i ((0:Int),(0:Int),[],[],[],[],[],(7:Int))) (ä ((ile 0 l)&&(ile l (Ć (List.drop 1 a)))) (Â (Ĩ (List.take (Int.toNat l) (List.drop 1 a))) fun N=>ä ((ile 0 l)&&(ile l (Ć (List.drop 1 a)))) (è N (0:Int) fun O=>è N (1:Int) fun P=>ä (Ü ((List.length e)+(List.length ([(O,P)])))) (w o p q r s t u v A B d (e++([(O,P)])) f g h)))))) (ifb (NN x (ByteArray.mk #[108,111,97,110])) (ä (ile 1 (Ć a)) (ifb (ilt (ß (List.drop 1 a)) m) (i ((0:Int),(0:Int),[],[],[],[],[],(7:Int))) (ä ((ile 0 m)&&(ile m (Ć (List.drop 1 a)))) (Â (Ĩ (List.take (Int.toNat m) (List.drop 1 a))) fun C=>ä ((ile 0 m)&&(ile m (Ć (List.drop 1 a)))) (è C (0:Int) fun Q=>è C (1:Int) fun R=>è C (2:Int) fun S=>è C (3:Int) fun T=>ä (Ü ((List.length f)+(List.length ([(Q,(R,S),T)])))) (w o p q r s t u v A B d e (f++([(Q,(R,S),T)])) g h)))))) (ifb (NN x (ByteArray.mk #[99,111,109,112,97,114,101])) (ä (ile 1 (Ć a)) (ifb (ilt (ß (List.drop 1 a)) c) (i ((0:Int),(0:Int),[],[],[],[],[],(7:Int))) (ä ((ile 0 c)&&(ile c (Ć (List.drop 1 a)))) (Â (Ĩ (List.take (Int.toNat c) (List.drop 1 a))) fun z=>ä ((ile 0 c)&&(ile c (Ć (List.drop 1 a)))) (è z (0:Int) fun U=>è z (1:Int) fun V=>è z (2:Int) fun W=>è z (3:Int) fun X=>è z (4:Int) fun Y=>è z (5:Int) fun Z=>Â (xV (List.drop (Int.toNat c) (List.drop 1 a))) fun D=>ä (Ü ((List.length g)+(List.length ([(U,V,D.1,D.2,W,X,Y,Z)])))) (w o p q r s t u v A B d e f (g++([(U,V,D.1,D.2,W,X,Y,Z)])) h)))))) (ifb (NN x (ByteArray.mk #[108,111,111,107])) (ä (ile 1 (Ć a)) (ifb (ilt (ß (List.drop 1 a)) n) (i ((0:Int),(0:Int),[],[],[],[],[],(7:Int))) (ä ((ile 0 n)&&(ile n (Ć (List.drop 1 a)))) (Â (Ĩ (List.take (Int.toNat n) (List.drop 1 a))) fun b5=>ä ((ile 0 n)&&(ile n (Ć (List.drop 1 a)))) (è b5 (0:Int) fun b6=>è b5 (1:Int) fun b7=>ä (Ü ((List.length h)+(List.length ([(b6,b7)])))) (w o p q r s t u v A B d e f g (h++([(b6,b7)])))))))) (i ((0:Int),(0:Int),[],[],[],[],[],(7:Int))))))))
def Ķ (a:Int) (b:Int) (c:Int) (d:Int) (e:Int) (f:Int) (v:LE) (y:ByteArray):Nm (Sum LE (Val ay)):=iU a b c d e f v.1 v.2.1 v.2.2.1 v.2.2.2.1 v.2.2.2.2.1 v.2.2.2.2.2.1 v.2.2.2.2.2.2.1 v.2.2.2.2.2.2.2.1 v.2.2.2.2.2.2.2.2.1 v.2.2.2.2.2.2.2.2.2.1 v.2.2.2.2.2.2.2.2.2.2.1 v.2.2.2.2.2.2.2.2.2.2.2.1 v.2.2.2.2.2.2.2.2.2.2.2.2.1 v.2.2.2.2.2.2.2.2.2.2.2.2.2.1 v.2.2.2.2.2.2.2.2.2.2.2.2.2.2 y (fun g h i j k l m n o p q r s t u=>some (.inl (g,h,i,j,k,l,m,n,o,p,q,r,s,t,u))) (fun z=>some (.inr z))
def Ec (c:ByteArray) (k:LT->Nm ρ):Nm ρ :=
  ä (Ü (ByteArray.size c)&&true) (WE (Ķ (2:Int) (8:Int) (2:Int) (4:Int) (6:Int) (2:Int)) (uK c) ((0:Int),(0:Int),[],[],[],[],[],(0:Int),(0:Int),(0:Int),[],[],[],[],[]) (fun b=>Â (gU ((b.2.2.2.2.2.2.2.2.1,b.2.2.2.2.2.2.2.2.2.1),b.2.2.2.2.2.2.2.2.2.2)) fun d=>ifb (ine d.2 0) (k ((((0:Int),(0:Int)),[],[],[],[],[]),(7:Int))) (ifb (!(d.1.toList==c.toList)) (k ((((0:Int),(0:Int)),[],[],[],[],[]),(7:Int))) (k (((b.2.2.2.2.2.2.2.2.1,b.2.2.2.2.2.2.2.2.2.1),b.2.2.2.2.2.2.2.2.2.2),(0:Int))))) (fun a=>k (((a.1,a.2.1),a.2.2.1,a.2.2.2.1,a.2.2.2.2.1,a.2.2.2.2.2.1,a.2.2.2.2.2.2.1),a.2.2.2.2.2.2.2)))
def rC (a:ByteArray):Nm (LT):=Ec a some
def Aa (a:c7) (b:Int) (c:Int) (k:Bool->Nm ρ):Nm ρ :=
  ifb (ile b a.1) (ifb (ile a.1 a.2) (k (ile a.2 c)) (k false)) (k false)
def Ζ (a:c7) (b:Int) (c:Int):Nm (Bool):=Aa a b c some
def Ug (a:Int) (b:Int) (c:Int) (k:Bool->Nm ρ):Nm ρ :=
  ifb (ige a b) (k (ile a c)) (k false)
def gS (a:Int) (b:Int) (c:Int):Nm (Bool):=Ug a b c some
def PT (a:Int) (k:Bool->Nm ρ):Nm ρ :=
  Â (gS a (0:Int) (20000:Int)) fun b=>k b
def oX (a:Int):Nm (Bool):=PT a some
def ov (b:Int) (a:Int) (c:Int->Int->Nm ρ) (d:Int->Nm ρ):Nm ρ :=
  ifb (ine a 0) (ifb (š a 0) (none) (c a (Int.tmod b a))) (d b)
def PX (b:Int) (c:Int) (k:Int->Nm ρ):Nm ρ :=
  Ó (fun(a:c7) d=>ov a.1 a.2 (fun e f=>d (e,f)) (fun g=>k g)) (b,c)
def sH (a:Int) (b:Int):Nm (Int):=PX a b some
def PZ (a:Int) (k:Int->Nm ρ):Nm ρ :=
  ifb (ilt a 0) (ck ((0:Int)-a) fun b=>k b) (k a)
def xS (a:Int):Nm (Int):=PZ a some
def Hr (a:c7) (k:Bool->Nm ρ):Nm ρ :=
  ifb (ilt a.2 1) (k false) (ifb (igt a.2 2147483647) (k false) (ifb (ilt a.1 (-2147483647:Int)) (k false) (ifb (igt a.1 2147483647) (k false) (Â (xS a.1) fun b=>Â (sH b a.2) fun c=>k (ieq c 1)))))
def sF (a:c7):Nm (Bool):=Hr a some
def He (a:An) (k:Bool->Nm ρ):Nm ρ :=
  Â (sF a.2.2.2.2.1) fun b=>ifb (!b) (k false) (Â (gS a.2.2.2.2.1.1 (-1000:Int) (1000:Int)) fun c=>ifb (!c) (k false) (ifb (igt a.2.2.2.2.1.2 100) (k false) (Â (gS a.1 (1:Int) (1099511627776:Int)) fun d=>ifb d (Â (oX a.2.1) fun e=>ifb e (Â (gS a.2.2.1 (1:Int) (1125899906842624:Int)) fun f=>ifb f (Â (Ζ a.2.2.2.1 (-1073741824:Int) (1073741824:Int)) fun g=>ifb g (Â (gS a.2.2.2.2.2 (0:Int) (1048576:Int)) fun h=>k h) (k false)) (k false)) (k false)) (k false))))
def sv (a:An):Nm (Bool):=He a some
def lS (c:Int) (b:io) (a:Int) (d:Int->Nm ρ) (e:Int->Nm ρ) (f:Unit->Nm ρ):Nm ρ :=
  ifb (ilt a (ß b)) (è b a fun g=>ifb (ieq g.1 c) (e a) (ck (a+(1:Int)) fun h=>d h)) (f ())
def LN (a:bx) (b:Int) (k:Int->Nm ρ):Nm ρ :=
  Ó (fun(c:Int) d=>lS b a.2.1 c (fun e=>d e) (fun f=>k f) (fun _=>k (-1:Int))) (0:Int)
def kO (a:bx) (b:Int):Nm (Int):=LN a b some
def Hg (a:bx) (c:Int) (d:Int) (k:Int->Nm ρ):Nm ρ :=
  Â (kO a c) fun b=>ifb (ilt b 0) (k (5:Int)) (è a.2.1 b fun e=>ifb (ilt d e.2.1) (k (4:Int)) (k (0:Int)))
def ix (a:bx) (b:Int) (c:Int):Nm (Int):=Hg a b c some
def lB (e:Int) (f:Int) (g:io) (a:c8) (h:js) (i:fx) (j:c8) (b:Int) (k:Int->Nm ρ) (c:Int->Nm ρ) (l:Unit->Nm ρ):Nm ρ :=
  ifb (ilt b (ß a)) (è a b fun m=>Â (oX m.2) fun n=>ifb (!n) (c (1:Int)) (è a b fun o=>è a b fun p=>Â (ix ((e,f),g,a,h,i,j) o.1 p.2) fun d=>ifb (ine d 0) (c d) (ck (b+(1:Int)) fun q=>k q))) (l ())
def Lx (a:bx) (k:Int->Nm ρ):Nm ρ :=
  Ó (fun(b:Int) c=>lB a.1.1 a.1.2 a.2.1 a.2.2.1 a.2.2.2.1 a.2.2.2.2.1 a.2.2.2.2.2 b (fun d=>c d) (fun e=>k e) (fun _=>k (0:Int))) (0:Int)
def xN (a:bx):Nm (Int):=Lx a some
def jz (d:Int) (b:js) (e:Int) (f:Int) (g:Int) (a:Int) (c:Int->Nm ρ) (h:Int->Nm ρ) (i:Unit->Nm ρ):Nm ρ :=
  ifb (ilt a d) (è b a fun j=>ifb (ieq j.1 e) (è b a fun k=>ifb (ile k.2.1.1 g) (è b a fun l=>ifb (ile f l.2.1.2) (h (9:Int)) (ck (a+(1:Int)) fun m=>c m)) (ck (a+(1:Int)) fun n=>c n)) (ck (a+(1:Int)) fun o=>c o)) (i ())
def gK (b:c8) (d:Int) (e:Int) (f:Int) (a:Int) (c:Int->Nm ρ) (g:Int->Nm ρ) (h:Unit->Nm ρ):Nm ρ :=
  ifb (ilt a (ß b)) (è b a fun i=>ifb (ieq i.1 d) (è b a fun j=>Â (gS j.2 e f) fun k=>ifb k (g (9:Int)) (ck (a+(1:Int)) fun l=>c l)) (ck (a+(1:Int)) fun m=>c m)) (h ())
def jA (g:Int) (h:Int) (i:io) (e:c8) (c:js) (j:fx) (k:c8) (d:Int) (l:Int->Nm ρ) (b:Int->Nm ρ) (m:Unit->Nm ρ):Nm ρ :=
  ifb (ilt d (ß c)) (è c d fun a=>Â (Ζ a.2.1 (0:Int) (20000:Int)) fun n=>ifb (!n) (b (1:Int)) (Â (gS a.2.2 (0:Int) (1048576:Int)) fun o=>ifb (!o) (b (1:Int)) (Â (ix ((g,h),i,e,c,j,k) a.1 a.2.1.1) fun f=>ifb (ine f 0) (b f) (Ó (fun(p:Int) q=>jz d c a.1 a.2.1.1 a.2.1.2 p (fun r=>q r) (fun s=>b s) (fun _=>Ó (fun(t:Int) u=>gK e a.1 a.2.1.1 a.2.1.2 t (fun v=>u v) (fun w=>b w) (fun _=>ck (d+(1:Int)) fun x=>l x)) (0:Int))) (0:Int))))) (m ())
def Hc (a:bx) (k:Int->Nm ρ):Nm ρ :=
  Ó (fun(b:Int) c=>jA a.1.1 a.1.2 a.2.1 a.2.2.1 a.2.2.2.1 a.2.2.2.2.1 a.2.2.2.2.2 b (fun d=>c d) (fun e=>k e) (fun _=>k (0:Int))) (0:Int)
def su (a:bx):Nm (Int):=Hc a some
def lO (b:an) (a:Int) (c:Int->Nm ρ) (d:Bool->Nm ρ) (e:Unit->Nm ρ):Nm ρ :=
  ifb (ilt a (ß b)) (è b a fun f=>Â (gS f (1:Int) (1099511627776:Int)) fun g=>ifb (!g) (d false) (ifb (igt a 0) (è b a fun h=>ck (a-(1:Int)) fun i=>è b i fun j=>ifb (ile h j) (d false) (ck (a+(1:Int)) fun k=>c k)) (ck (a+(1:Int)) fun l=>c l))) (e ())
def LJ (a:an) (k:Bool->Nm ρ):Nm ρ :=
  Ó (fun(b:Int) c=>lO a b (fun d=>c d) (fun e=>k e) (fun _=>k (ile (ß a) 6))) (0:Int)
def rt (a:an):Nm (Bool):=LJ a some
def Ha (a:ge) (k:Bool->Nm ρ):Nm ρ :=
  Â (rt a.2.2.1) fun b=>Â (rt a.2.2.2.1) fun c=>ifb b (ifb c (Â (gS a.1 (1:Int) (1099511627776:Int)) fun d=>ifb d (Â (oX a.2.1) fun e=>ifb e (Â (gS a.2.2.2.2.1 (-1125899906842624:Int) (1125899906842624:Int)) fun f=>ifb f (Â (gS a.2.2.2.2.2.1 (0:Int) (1073741824:Int)) fun g=>ifb g (Â (Ζ a.2.2.2.2.2.2 (-10000:Int) (10000:Int)) fun h=>k h) (k false)) (k false)) (k false)) (k false)) (k false)) (k false)
def sq (a:ge):Nm (Bool):=Ha a some
def lQ (j:Int) (h:Int) (i:js) (b:Int) (c:Int) (d:Int) (e:Int) (f:Int) (g:Int->Int->Int->Int->Int->Nm ρ) (k:(Val (.pair .bool (.pair tI ι)))->Nm ρ) (l:(Val (.pair tI ι))->Nm ρ):Nm ρ :=
  ifb (ilt b (ß i)) (è i b fun a=>ifb (ieq a.1 j) (ifb (ile a.2.1.1 h) (ifb (ile h a.2.1.2) (k (true,a.1,a.2.1.1,a.2.1.2,a.2.2)) (ck (b+(1:Int)) fun m=>g m c d e f)) (ck (b+(1:Int)) fun n=>g n c d e f)) (ck (b+(1:Int)) fun o=>g o c d e f)) (l (c,d,e,f))
def LL (c:bx) (d:Int) (e:Int) (k:AS->Nm ρ):Nm ρ :=
  Ó (fun(a:(Val (.pair tI (.pair tI ι)))) f=>lQ d e c.2.2.2.1 a.1 a.2.1 a.2.2.1 a.2.2.2.1 a.2.2.2.2 (fun g h i j l=>f (g,h,i,j,l)) (fun b=>k ((b.2.1,(b.2.2.1,b.2.2.2.1),b.2.2.2.2),b.1)) (fun m=>k (((0:Int),((0:Int),(0:Int)),(0:Int)),false))) ((0:Int),(0:Int),(0:Int),(0:Int),(0:Int))
def ru (a:bx) (b:Int) (c:Int):Nm (AS):=LL a b c some
def ou (b:an) (c:Int) (a:Int) (d:Int->Nm ρ) (e:Bool->Nm ρ) (f:Unit->Nm ρ):Nm ρ :=
  ifb (ilt a (ß b)) (è b a fun g=>ifb (ieq g c) (e true) (ck (a+(1:Int)) fun h=>d h)) (f ())
def PS (a:an) (b:Int) (k:Bool->Nm ρ):Nm ρ :=
  Ó (fun(c:Int) d=>ou a b c (fun e=>d e) (fun f=>k f) (fun _=>k false)) (0:Int)
def B0 (a:an) (b:Int):Nm (Bool):=PS a b some
def lR (c:an) (f:an) (a:Int) (b:an) (d:Int->an->Nm ρ) (g:an->Nm ρ):Nm ρ :=
  ifb (ilt a (ß c)) (è c a fun h=>Â (B0 f h) fun i=>ifb (!i) (è c a fun e=>ä (Ü ((List.length b)+(List.length ([e])))) (ck (a+(1:Int)) fun j=>d j (b++([e])))) (ck (a+(1:Int)) fun k=>d k b)) (g b)
def LM (b:an) (c:an) (k:an->Nm ρ):Nm ρ :=
  Ó (fun(a:ly) d=>lR b c a.1 a.2 (fun e f=>d (e,f)) (fun g=>k g)) ((0:Int),[])
def fM (a:an) (b:an):Nm (an):=LM a b some
def fS (c:Int) (d:Int) (e:io) (f:c8) (g:js) (h:fx) (i:c8) (b:an) (a:Int) (j:Int->Nm ρ) (k:Int->Nm ρ) (l:Unit->Nm ρ):Nm ρ :=
  ifb (ilt a (ß b)) (ä ((ile 0 a)&&(ilt a (Ć b))) (κ b (Int.toNat a) fun m=>Â (kO ((c,d),e,f,g,h,i) m) fun n=>ifb (ilt n 0) (k (5:Int)) (ck (a+(1:Int)) fun o=>j o))) (l ())
def Ũ (c:Int) (d:Int) (e:io) (f:c8) (g:js) (h:fx) (i:c8) (j:Int) (b:an) (a:Int) (k:Int->Nm ρ) (l:Int->Nm ρ) (m:Unit->Nm ρ):Nm ρ :=
  ifb (ilt a (ß b)) (ä ((ile 0 a)&&(ilt a (Ć b))) (κ b (Int.toNat a) fun n=>Â (ix ((c,d),e,f,g,h,i) n j) fun o=>ifb (ine o 0) (l (4:Int)) (ck (a+(1:Int)) fun p=>k p))) (m ())
def ľ (c:Int) (d:Int) (e:io) (f:c8) (g:js) (h:fx) (i:c8) (j:Int) (b:an) (a:Int) (k:Int->Nm ρ) (l:Int->Nm ρ) (m:Unit->Nm ρ):Nm ρ :=
  ifb (ilt a (ß b)) (ä ((ile 0 a)&&(ilt a (Ć b))) (κ b (Int.toNat a) fun n=>Â (ru ((c,d),e,f,g,h,i) n j) fun o=>ifb o.2 (l (9:Int)) (ck (a+(1:Int)) fun p=>k p))) (m ())
def om (a:bx) (b:ge) (k:Int->Nm ρ):Nm ρ :=
  ä (Ü (0+(List.length b.2.2.1))) (ä (Ü ((List.length (([])++b.2.2.1))+(List.length b.2.2.2.1))) (Ó (fun(e:Int) f=>fS a.1.1 a.1.2 a.2.1 a.2.2.1 a.2.2.2.1 a.2.2.2.2.1 a.2.2.2.2.2 ((([])++b.2.2.1)++b.2.2.2.1) e (fun g=>f g) (fun h=>k h) (fun _=>Ó (fun(i:Int) j=>Ũ a.1.1 a.1.2 a.2.1 a.2.2.1 a.2.2.2.1 a.2.2.2.2.1 a.2.2.2.2.2 b.2.1 ((([])++b.2.2.1)++b.2.2.2.1) i (fun l=>j l) (fun m=>k m) (fun _=>Ó (fun(n:Int) o=>ľ a.1.1 a.1.2 a.2.1 a.2.2.1 a.2.2.2.1 a.2.2.2.2.1 a.2.2.2.2.2 b.2.1 ((([])++b.2.2.1)++b.2.2.2.1) n (fun p=>o p) (fun q=>k q) (fun _=>Â (fM b.2.2.1 b.2.2.2.1) fun c=>Â (fM b.2.2.2.1 b.2.2.1) fun d=>ifb (igt (ß c) 1) (k (1:Int)) (ifb (igt (ß d) 1) (k (1:Int)) (ck ((ß c)+(ß d)) fun r=>ifb (ieq r 0) (k (1:Int)) (k (0:Int)))))) (0:Int))) (0:Int))) (0:Int)))
def Ω (a:bx) (b:ge):Nm (Int):=om a b some
def PQ (b:an) (c:an) (k:Int->Nm ρ):Nm ρ :=
  Â (fM b c) fun a=>ifb (ieq (ß a) 0) (k (0:Int)) (è a (0:Int) fun d=>k d)
def jT (a:an) (b:an):Nm (Int):=PQ a b some
def lH (g:Int) (c:fx) (d:Int) (b:Int) (e:Int->Nm ρ) (f:Bool->Nm ρ) (h:Unit->Nm ρ):Nm ρ :=
  ifb (ilt b (ß c)) (è c b fun a=>ifb (ieq a.2.1 g) (Â (jT a.2.2.1 a.2.2.2.1) fun i=>ifb (ieq i d) (f true) (Â (jT a.2.2.2.1 a.2.2.1) fun j=>ifb (ieq j d) (f true) (ck (b+(1:Int)) fun k=>e k))) (ck (b+(1:Int)) fun l=>e l)) (h ())
def iK (d:Int) (b:c8) (e:Int) (a:Int) (c:Int->Nm ρ) (f:Bool->Nm ρ) (g:Unit->Nm ρ):Nm ρ :=
  ifb (ilt a (ß b)) (è b a fun h=>ifb (ieq h.1 e) (è b a fun i=>ifb (ieq i.2 d) (f true) (ck (a+(1:Int)) fun j=>c j)) (ck (a+(1:Int)) fun k=>c k)) (g ())
def LC (c:bx) (a:An) (b:Int) (k:Bool->Nm ρ):Nm ρ :=
  ifb (ieq a.2.1 b) (k true) (Ó (fun(d:Int) e=>lH b c.2.2.2.2.1 a.1 d (fun f=>e f) (fun g=>k g) (fun _=>Ó (fun(h:Int) i=>iK b c.2.2.2.2.2 a.1 h (fun j=>i j) (fun l=>k l) (fun _=>k false)) (0:Int))) (0:Int))
def xO (a:bx) (b:An) (c:Int):Nm (Bool):=LC a b c some
def jJ (c:io) (a:Int) (b:an) (e:Int->an->Nm ρ) (f:an->Nm ρ):Nm ρ :=
  ifb (ilt a (ß c)) (è c a fun d=>ä (Ü ((List.length b)+(List.length ([d.2.1])))) (ck (a+(1:Int)) fun g=>e g (b++([d.2.1])))) (f b)
def jI (c:fx) (a:Int) (b:an) (e:Int->an->Nm ρ) (f:an->Nm ρ):Nm ρ :=
  ifb (ilt a (ß c)) (è c a fun d=>ä (Ü ((List.length b)+(List.length ([d.2.1])))) (ck (a+(1:Int)) fun g=>e g (b++([d.2.1])))) (f b)
def jH (c:c8) (a:Int) (b:an) (e:Int->an->Nm ρ) (f:an->Nm ρ):Nm ρ :=
  ifb (ilt a (ß c)) (è c a fun d=>ä (Ü ((List.length b)+(List.length ([d.2])))) (ck (a+(1:Int)) fun g=>e g (b++([d.2])))) (f b)
def gM (e:Int) (b:an) (c:Int) (a:Int) (d:Int->Int->Nm ρ) (f:Int->Nm ρ):Nm ρ :=
  ifb (ilt a (ß b)) (ä ((ile 0 a)&&(ilt a (Ć b))) (κ b (Int.toNat a) fun g=>ifb (igt g e) (ä ((ile 0 a)&&(ilt a (Ć b))) (κ b (Int.toNat a) fun h=>ck (a+(1:Int)) fun i=>d (Kc c h) i)) (ck (a+(1:Int)) fun j=>d c j))) (f c)
def gN (e:Int) (i:Int) (j:Int) (c:io) (k:c8) (l:js) (m:fx) (n:c8) (o:an) (f:Int) (b:c8) (d:Int->c8->Nm ρ) (p:c8->Nm ρ):Nm ρ :=
  ifb (ilt f 20001) (Ó (fun(g:c7) q=>gM f o g.1 g.2 (fun r s=>q (r,s)) (fun a=>ifb (ilt a 20001) (è c e fun t=>Â (xO ((i,j),c,k,l,m,n) t a) fun u=>ifb u (è c e fun h=>ä (Ü ((List.length b)+(List.length ([(h.1,a)])))) (d a (b++([(h.1,a)])))) (d a b)) (d a b))) ((20001:Int),(0:Int))) (p b)
def jG (e:Int) (f:Int) (b:io) (g:c8) (h:js) (i:fx) (j:c8) (k:an) (a:Int) (c:c8) (l:Int->c8->Nm ρ) (m:c8->Nm ρ):Nm ρ :=
  ifb (ilt a (ß b)) (Ó (fun(d:rd) n=>gN a e f b g h i j k d.1 d.2 (fun o p=>n (o,p)) (fun q=>ck (a+(1:Int)) fun r=>l r q)) ((-1:Int),c)) (m c)
def Hl (a:bx) (k:c8->Nm ρ):Nm ρ :=
  Ó (fun(b:ly) f=>jJ a.2.1 b.1 b.2 (fun g h=>f (g,h)) (fun i=>Ó (fun(c:ly) j=>jI a.2.2.2.2.1 c.1 c.2 (fun l m=>j (l,m)) (fun n=>Ó (fun(d:ly) o=>jH a.2.2.2.2.2 d.1 d.2 (fun p q=>o (p,q)) (fun r=>Ó (fun(e:rd) s=>jG a.1.1 a.1.2 a.2.1 a.2.2.1 a.2.2.2.1 a.2.2.2.2.1 a.2.2.2.2.2 r e.1 e.2 (fun t u=>s (t,u)) (fun v=>k v)) ((0:Int),[]))) ((0:Int),n))) ((0:Int),i))) ((0:Int),[])
def gk (a:bx):Nm (c8):=Hl a some
def lI (d:Int) (e:Int) (b:c8) (a:Int) (c:Int->Nm ρ) (f:Bool->Nm ρ) (g:Unit->Nm ρ):Nm ρ :=
  ifb (ilt a (ß b)) (è b a fun h=>ifb (ieq h.1 d) (è b a fun i=>ifb (ieq i.2 e) (f true) (ck (a+(1:Int)) fun j=>c j)) (ck (a+(1:Int)) fun k=>c k)) (g ())
def LD (a:bx) (b:Int) (c:Int) (k:Bool->Nm ρ):Nm ρ :=
  Ó (fun(d:Int) e=>lI b c a.2.2.1 d (fun f=>e f) (fun g=>k g) (fun _=>k false)) (0:Int)
def xP (a:bx) (b:Int) (c:Int):Nm (Bool):=LD a b c some
def lP (d:Int) (m:Int) (n:Int) (e:Int) (f:Int) (g:io) (h:c8) (i:js) (j:fx) (k:c8) (b:Int) (a:Int) (c:Int->Int->Nm ρ) (o:Int->Nm ρ):Nm ρ :=
  ifb (ilt a m) (Â (ru ((e,f),g,h,i,j,k) d a) fun l=>ifb l.2 (ck (b+l.1.2.2) fun p=>ck (a+(1:Int)) fun q=>c p q) (Â (xP ((e,f),g,h,i,j,k) d a) fun r=>ifb r (ck (b+n) fun s=>ck (a+(1:Int)) fun t=>c s t) (ck (a+(1:Int)) fun u=>c b u))) (o b)
def LK (a:bx) (b:Int) (d:Int) (e:Int) (k:Int->Nm ρ):Nm ρ :=
  Â (kO a b) fun f=>è a.2.1 f fun g=>Ó (fun(c:c7) h=>lP b e g.2.2.2.2.2 a.1.1 a.1.2 a.2.1 a.2.2.1 a.2.2.2.1 a.2.2.2.2.1 a.2.2.2.2.2 c.1 c.2 (fun i j=>h (i,j)) (fun l=>k l)) ((0:Int),d)
def nP (a:bx) (b:Int) (c:Int) (d:Int):Nm (Int):=LK a b c d some
def jK (b:c8) (d:Int) (e:Int) (a:Int) (f:Int->Nm ρ) (g:Int->Nm ρ) (h:Unit->Nm ρ):Nm ρ :=
  ifb (ilt a (ß b)) (è b a fun c=>ifb ((š c.1 d)&&((š c.2 e)&&true)) (ck (a+(1:Int)) fun i=>g i) (ck (a+(1:Int)) fun j=>f j)) (h ())
def Hm (b:bx) (a:c7) (k:Int->Nm ρ):Nm ρ :=
  Â (gk b) fun c=>Ó (fun(d:Int) e=>jK c a.1 a.2 d (fun f=>e f) (fun g=>k g) (fun _=>k (0:Int))) (0:Int)
def ε (a:bx) (b:c7):Nm (Int):=Hm a b some
def DC (b:Int) (a:Int) (k:px->Nm ρ):Nm ρ :=
  ifb (ine b 0) (ifb (š a 0) (none) (Â (xS (Int.tmod b a)) fun h=>Â (sH h a) fun c=>ifb (š c 0) (none) (ck (Int.tdiv b c) fun d=>ifb (š c 0) (none) (ck (Int.tdiv a c) fun f=>ifb (igt f 2147483647) (k (((0:Int),(0:Int)),(3:Int))) (ifb (ilt d (-2147483647:Int)) (k (((0:Int),(0:Int)),(3:Int))) (ifb (igt d 2147483647) (k (((0:Int),(0:Int)),(3:Int))) (k ((d,f),(0:Int))))))))) (ifb (š a 0) (none) (ck (Int.tdiv b a) fun e=>ifb (š a 0) (none) (ck (Int.tdiv a a) fun g=>ifb (igt g 2147483647) (k (((0:Int),(0:Int)),(3:Int))) (ifb (ilt e (-2147483647:Int)) (k (((0:Int),(0:Int)),(3:Int))) (ifb (igt e 2147483647) (k (((0:Int),(0:Int)),(3:Int))) (k ((e,g),(0:Int))))))))
def kP (a:Int) (b:Int):Nm px:=DC a b some
def PY (a:c7) (b:c7) (k:px->Nm ρ):Nm ρ :=
  ck (a.1*b.2) fun c=>ck (b.1*a.2) fun d=>ck (c+d) fun e=>ck (a.2*b.2) fun f=>Â (kP e f) fun g=>k g
def JE (a:c7) (b:c7):Nm px:=PY a b some
def PV (a:c7) (k:c7->Nm ρ):Nm ρ :=
  ck ((0:Int)-a.1) fun b=>k (b,a.2)
def JD (a:c7):Nm c7:=PV a some
def PU (a:c7) (b:c7) (k:px->Nm ρ):Nm ρ :=
  Â (JD b) fun c=>Â (JE a c) fun d=>k d
def B3 (a:c7) (b:c7):Nm px:=PU a b some
def Hd (a:bx) (b:Int) (k:c7->Nm ρ):Nm ρ :=
  ifb (ieq b 0) (k ((0:Int),(1:Int))) (Â (kO a b) fun c=>è a.2.1 c fun d=>k d.2.2.2.2.1)
def nI (a:bx) (b:Int):Nm c7:=Hd a b some
def LQ (a:px) (b:px) (k:Val pT->Nm ρ):Nm ρ :=
  ifb (ine a.2 0) (k ((((0:Int),(0:Int)),(0:Int),(0:Int)),a.2)) (ifb (ine b.2 0) (k ((((0:Int),(0:Int)),(0:Int),(0:Int)),b.2)) (k ((a.1,b.1),(0:Int))))
def xQ (a:px) (b:px):Nm (Val pT):=LQ a b some
def PW (a:c7) (b:c7) (k:px->Nm ρ):Nm ρ :=
  ck (a.1*b.1) fun c=>ck (a.2*b.2) fun d=>Â (kP c d) fun e=>k e
def oY (a:c7) (b:c7):Nm px:=PW a b some
def Hs (b:py) (a:c7) (k:Val pT->Nm ρ):Nm ρ :=
  ifb (ilt a.1 0) (Â (oY b.2 a) fun c=>Â (oY b.1 a) fun d=>Â (xQ c d) fun e=>k e) (Â (oY b.1 a) fun f=>Â (oY b.2 a) fun g=>Â (xQ f g) fun h=>k h)
def sG (a:py) (b:c7):Nm (Val pT):=Hs a b some
def Du (b:bx) (a:ge) (k:py->Nm ρ):Nm ρ :=
  Â (jT a.2.2.1 a.2.2.2.1) fun c=>Â (nI b c) fun d=>Â (jT a.2.2.2.1 a.2.2.1) fun e=>Â (nI b e) fun f=>Â (B3 d f) fun g=>Â (sG ((a.2.2.2.2.2.2.1,(1:Int)),a.2.2.2.2.2.2.2,(1:Int)) g.1) fun h=>k h.1
def oW (a:bx) (b:ge):Nm py:=Du a b some
def Ho (a:bx) (b:ge) (k:c7->Nm ρ):Nm ρ :=
  ck ((ß b.2.2.1)-(1:Int)) fun c=>ck ((ß b.2.2.2.1)-(1:Int)) fun d=>ck ((HL (0:Int) c)*a.1.1) fun e=>ck ((HL (0:Int) d)*a.1.2) fun f=>ck (e-f) fun g=>ck ((HL (0:Int) c)*a.1.2) fun h=>ck ((HL (0:Int) d)*a.1.1) fun i=>ck (h-i) fun j=>k (g,j)
def sE (a:bx) (b:ge):Nm c7:=Ho a b some
def LP (b:Int) (a:Int) (k:Int->Nm ρ):Nm ρ :=
  ifb (š a 0) (none) (ck (Int.tdiv b a) fun c=>ifb (š a 0) (none) (ifb (ilt (Int.tmod b a) 0) (ck (c-1) fun d=>k d) (k c)))
def EJ (a:Int) (b:Int):Nm (Int):=LP a b some
def Hu (a:c7) (k:Int->Nm ρ):Nm ρ :=
  Â (EJ a.1 a.2) fun b=>k b
def sI (a:c7):Nm (Int):=Hu a some
def Ui (b:Int) (a:Int) (k:Int->Nm ρ):Nm ρ :=
  ifb (š a 0) (none) (ck (Int.tdiv b a) fun c=>ifb (š a 0) (none) (ifb (igt (Int.tmod b a) 0) (ck (c+1) fun d=>k d) (k c)))
def Ou (a:Int) (b:Int):Nm (Int):=Ui a b some
def LV (a:c7) (k:Int->Nm ρ):Nm ρ :=
  Â (Ou a.1 a.2) fun b=>k b
def xR (a:c7):Nm (Int):=LV a some
def LG (b:bx) (a:ge) (k:c7->Nm ρ):Nm ρ :=
  Â (oW b a) fun c=>Â (sE b a) fun d=>ck (a.2.2.2.2.1-a.2.2.2.2.2.1) fun e=>ck (e-d.2) fun f=>Â (sI c.2) fun g=>ck (f-g) fun h=>ck (a.2.2.2.2.1+a.2.2.2.2.2.1) fun i=>ck (i-d.1) fun j=>Â (xR c.1) fun l=>ck (j-l) fun m=>k (h,m)
def nM (a:bx) (b:ge):Nm c7:=LG a b some
def kz (e:c8) (b:Int) (p:Int) (q:Int) (r:io) (s:c8) (t:js) (u:fx) (v:c8) (g:Int) (w:Int) (h:Int) (x:Int) (y:Int) (a:Int) (c:r7) (d:c8) (f:Int->r7->c8->Nm ρ) (z:Val tr->Nm ρ):Nm ρ :=
  ifb (ilt a (ß e)) (è e a fun A=>ifb (ine A.1 g) (ck (a+(1:Int)) fun B=>f B c d) (è e a fun C=>ifb (ieq C.2 w) (ck (a+(1:Int)) fun i=>ck (h+y) fun j=>ck (a+(1:Int)) fun k=>ck ((0:Int)-h) fun D=>ck (D-x) fun l=>ä (Ü ((List.length c)+(List.length ([((0:Int),i,j),(k,(0:Int),l)])))) (ä (Ü ((List.length d)+(List.length ([((1:Int),b),((1:Int),b)])))) (ck (a+(1:Int)) fun E=>f E (c++([((0:Int),i,j),(k,(0:Int),l)])) (d++([((1:Int),b),((1:Int),b)]))))) (ck (a-(1:Int)) fun F=>è e F fun G=>è e a fun H=>Â (nP ((p,q),r,s,t,u,v) g G.2 H.2) fun m=>ck (a+(1:Int)) fun n=>ck (a+(1:Int)) fun o=>ä (Ü ((List.length c)+(List.length ([(a,n,(0:Int)),(o,a,m)])))) (ä (Ü ((List.length d)+(List.length ([((2:Int),b),((2:Int),b)])))) (ck (a+(1:Int)) fun I=>f I (c++([(a,n,(0:Int)),(o,a,m)])) (d++([((2:Int),b),((2:Int),b)]))))))) (z (c,d))
def ot (h:c8) (i:Int) (j:Int) (c:io) (k:c8) (l:js) (m:fx) (n:c8) (b:Int) (e:r7) (f:c8) (o:Int->r7->c8->Nm ρ) (p:Val tr->Nm ρ):Nm ρ :=
  ifb (ilt b (ß c)) (è c b fun a=>Ó (fun(d:Fd) q=>kz h b i j c k l m n a.1 a.2.1 a.2.2.1 a.2.2.2.1.1 a.2.2.2.1.2 d.1 d.2.1 d.2.2 (fun r s t=>q (r,s,t)) (fun g=>ck (b+(1:Int)) fun u=>o u g.1 g.2)) ((0:Int),e,f)) (p (e,f))
def oq (f:Int) (g:Int) (h:io) (i:c8) (j:js) (c:fx) (k:c8) (a:Int) (l:r7) (m:c8) (p:Int->r7->c8->Nm ρ) (q:Val tr->Nm ρ):Nm ρ :=
  ifb (ilt a (ß c)) (è c a fun b=>Â (jT b.2.2.1 b.2.2.2.1) fun r=>Â (ε ((f,g),h,i,j,c,k) (r,b.2.1)) fun d=>Â (jT b.2.2.2.1 b.2.2.1) fun s=>Â (ε ((f,g),h,i,j,c,k) (s,b.2.1)) fun e=>Â (nM ((f,g),h,i,j,c,k) b) fun n=>ck ((0:Int)-n.1) fun o=>ä (Ü ((List.length l)+(List.length ([(e,d,n.2),(d,e,o)])))) (ä (Ü ((List.length m)+(List.length ([((3:Int),a),((3:Int),a)])))) (ck (a+(1:Int)) fun t=>p t (l++([(e,d,n.2),(d,e,o)])) (m++([((3:Int),a),((3:Int),a)]))))) (q (l,m))
def PR (a:bx) (k:Val tr->Nm ρ):Nm ρ :=
  Â (gk a) fun e=>Ó (fun(b:Fd) f=>ot e a.1.1 a.1.2 a.2.1 a.2.2.1 a.2.2.2.1 a.2.2.2.2.1 a.2.2.2.2.2 b.1 b.2.1 b.2.2 (fun g h i=>f (g,h,i)) (fun d=>Ó (fun(c:Fd) j=>oq a.1.1 a.1.2 a.2.1 a.2.2.1 a.2.2.2.1 a.2.2.2.2.1 a.2.2.2.2.2 c.1 c.2.1 c.2.2 (fun l m n=>j (l,m,n)) (fun o=>k o)) ((0:Int),d.1,d.2))) ((0:Int),[],[])
def sw (a:bx):Nm (Val tr):=PR a some
def jM (b:io) (a:Int) (c:Int->Nm ρ) (d:Int->Nm ρ) (e:Unit->Nm ρ):Nm ρ :=
  ifb (ilt a (ß b)) (è b a fun f=>Â (sv f) fun g=>ifb (!g) (d (1:Int)) (ifb (igt a 0) (è b a fun h=>ck (a-(1:Int)) fun i=>è b i fun j=>ifb (ile h.1 j.1) (d (6:Int)) (ck (a+(1:Int)) fun k=>c k)) (ck (a+(1:Int)) fun l=>c l))) (e ())
def jL (b:Int) (c:fx) (a:Int) (d:Int->Nm ρ) (e:Int->Nm ρ) (f:Unit->Nm ρ):Nm ρ :=
  ifb (ilt a b) (è c a fun g=>è c b fun h=>ifb (ieq g.1 h.1) (e (6:Int)) (ck (a+(1:Int)) fun i=>d i)) (f ())
def Ρ (e:Int) (f:Int) (g:io) (h:c8) (i:js) (a:fx) (j:c8) (b:Int) (k:Int->Nm ρ) (c:Int->Nm ρ) (l:Unit->Nm ρ):Nm ρ :=
  ifb (ilt b (ß a)) (è a b fun m=>Â (sq m) fun n=>ifb (!n) (c (1:Int)) (Ó (fun(o:Int) p=>jL b a o (fun q=>p q) (fun r=>c r) (fun _=>è a b fun s=>Â (Ω ((e,f),g,h,i,a,j) s) fun d=>ifb (ine d 0) (c d) (ck (b+(1:Int)) fun t=>k t))) (0:Int))) (l ())
def Ο (e:Int) (f:Int) (g:io) (h:c8) (i:js) (j:fx) (a:c8) (b:Int) (k:Int->Nm ρ) (c:Int->Nm ρ) (l:Unit->Nm ρ):Nm ρ :=
  ifb (ilt b (ß a)) (è a b fun m=>Â (oX m.2) fun n=>ifb (!n) (c (1:Int)) (è a b fun o=>è a b fun p=>Â (ix ((e,f),g,h,i,j,a) o.1 p.2) fun d=>ifb (ine d 0) (c d) (ck (b+(1:Int)) fun q=>k q))) (l ())
def yU (a:bx) (k:Int->Nm ρ):Nm ρ :=
  Â (Ζ a.1 (0:Int) (1000000:Int)) fun d=>ifb (!d) (k (1:Int)) (ifb (igt (ß a.2.1) 12) (k (2:Int)) (ifb (igt (ß a.2.2.1) 40) (k (2:Int)) (ifb (igt (ß a.2.2.2.1) 12) (k (2:Int)) (ifb (igt (ß a.2.2.2.2.1) 40) (k (2:Int)) (ifb (igt (ß a.2.2.2.2.2) 10) (k (2:Int)) (Ó (fun(e:Int) f=>jM a.2.1 e (fun g=>f g) (fun h=>k h) (fun _=>Â (xN a) fun b=>ifb (ieq b 0) (Â (su a) fun c=>ifb (ine c 0) (k c) (Ó (fun(i:Int) j=>Ρ a.1.1 a.1.2 a.2.1 a.2.2.1 a.2.2.2.1 a.2.2.2.2.1 a.2.2.2.2.2 i (fun l=>j l) (fun m=>k m) (fun _=>Ó (fun(n:Int) o=>Ο a.1.1 a.1.2 a.2.1 a.2.2.1 a.2.2.2.1 a.2.2.2.2.1 a.2.2.2.2.2 n (fun p=>o p) (fun q=>k q) (fun _=>Â (gk a) fun r=>ifb (igt (ß r) 59) (k (2:Int)) (Â (sw a) fun s=>ifb (igt (ß s.1) 300) (k (2:Int)) (k (0:Int))))) (0:Int))) (0:Int))) (ifb (ine b 0) (k b) (Ó (fun(t:Int) u=>Ρ a.1.1 a.1.2 a.2.1 a.2.2.1 a.2.2.2.1 a.2.2.2.2.1 a.2.2.2.2.2 t (fun v=>u v) (fun w=>k w) (fun _=>Ó (fun(x:Int) y=>Ο a.1.1 a.1.2 a.2.1 a.2.2.1 a.2.2.2.1 a.2.2.2.2.1 a.2.2.2.2.2 x (fun z=>y z) (fun A=>k A) (fun _=>Â (gk a) fun B=>ifb (igt (ß B) 59) (k (2:Int)) (Â (sw a) fun C=>ifb (igt (ß C.1) 300) (k (2:Int)) (k (0:Int))))) (0:Int))) (0:Int))))) (0:Int)))))))
def Ħ (a:bx):Nm (Int):=yU a some
def gO (rec:Int->Nm ByteArray) (b:Int) (a:ByteArray) (e:Int->ByteArray->Nm ρ) (f:ByteArray->Nm ρ):Nm ρ :=
  ifb (igt b 9) (ck (Int.tdiv b (10:Int)) fun c=>ck ((48:Int)+(Int.tmod c (10:Int))) fun d=>ä (Ü (ByteArray.size (mI ([(IntKind.wrap .u8 d)]))+ByteArray.size a)) (e c ((mI ([(IntKind.wrap .u8 d)]))++a))) (f a)
def Ŗ (rec:Int->Nm ByteArray) (a:Int) (k:ByteArray->Nm ρ):Nm ρ :=
  ifb (ilt a 0) (ck ((0:Int)-(Int.tmod a (10:Int))) fun b=>ifb (igt a (-10:Int)) (ck ((48:Int)+b) fun c=>ä (Ü (ByteArray.size (ByteArray.mk #[45])+ByteArray.size (mI ([(IntKind.wrap .u8 c)])))) (k ((ByteArray.mk #[45])++(mI ([(IntKind.wrap .u8 c)]))))) (ck (Int.tdiv a (10:Int)) fun g=>Â (rec g) fun d=>ck ((48:Int)+b) fun e=>ä (Ü (ByteArray.size d+ByteArray.size (mI ([(IntKind.wrap .u8 e)])))) (k (d++(mI ([(IntKind.wrap .u8 e)])))))) (ck ((48:Int)+(Int.tmod a (10:Int))) fun h=>Ó (fun(f:Do) i=>gO rec f.1 f.2 (fun j l=>i (j,l)) (fun m=>k m)) (a,(mI ([(IntKind.wrap .u8 h)]))))
def iH:Nat->Int->Nm ByteArray
  |0=>fun _=>none
  |n+1=>fun a=>Ŗ (iH n) a some
def rx (a:Int):Nm (ByteArray):=iH 100 a
def lD (c:an) (a:ByteArray) (b:Int) (e:ByteArray->Int->Nm ρ) (f:ByteArray->Nm ρ):Nm ρ :=
  ifb (ilt b (ß c)) (ä (Ü (ByteArray.size a+ByteArray.size (ByteArray.mk #[32]))) (è c b fun g=>Â (rx g) fun d=>ä (Ü (ByteArray.size (a++(ByteArray.mk #[32]))+ByteArray.size d)) (ck (b+(1:Int)) fun h=>e ((a++(ByteArray.mk #[32]))++d) h))) (f a)
def Lz (b:ByteArray) (c:an) (k:ByteArray->Nm ρ):Nm ρ :=
  Ó (fun(a:v7) d=>lD c a.1 a.2 (fun e f=>d (e,f)) (fun g=>k g)) (b,(0:Int))
def Ū (a:ByteArray) (b:an):Nm (ByteArray):=Lz a b some
def jF (e:io) (b:ByteArray) (c:Int) (f:ByteArray->Int->Nm ρ) (g:ByteArray->Nm ρ):Nm ρ :=
  ifb (ilt c (ß e)) (è e c fun a=>Â (Ū (ByteArray.mk #[103,97,117,103,101]) ([a.1,a.2.1,a.2.2.1,a.2.2.2.1.1,a.2.2.2.1.2,a.2.2.2.2.1.1,a.2.2.2.2.1.2,a.2.2.2.2.2])) fun d=>ä (Ü (ByteArray.size b+ByteArray.size d)) (ä (Ü (ByteArray.size (b++d)+ByteArray.size (ByteArray.mk #[10]))) (ck (c+(1:Int)) fun h=>f ((b++d)++(ByteArray.mk #[10])) h))) (g b)
def jE (c:c8) (a:ByteArray) (b:Int) (e:ByteArray->Int->Nm ρ) (f:ByteArray->Nm ρ):Nm ρ :=
  ifb (ilt b (ß c)) (è c b fun g=>è c b fun h=>Â (Ū (ByteArray.mk #[117,115,101]) ([g.1,h.2])) fun d=>ä (Ü (ByteArray.size a+ByteArray.size d)) (ä (Ü (ByteArray.size (a++d)+ByteArray.size (ByteArray.mk #[10]))) (ck (b+(1:Int)) fun i=>e ((a++d)++(ByteArray.mk #[10])) i))) (f a)
def jD (e:js) (a:ByteArray) (c:Int) (f:ByteArray->Int->Nm ρ) (g:ByteArray->Nm ρ):Nm ρ :=
  ifb (ilt c (ß e)) (è e c fun b=>Â (Ū (ByteArray.mk #[108,111,97,110]) ([b.1,b.2.1.1,b.2.1.2,b.2.2])) fun d=>ä (Ü (ByteArray.size a+ByteArray.size d)) (ä (Ü (ByteArray.size (a++d)+ByteArray.size (ByteArray.mk #[10]))) (ck (c+(1:Int)) fun h=>f ((a++d)++(ByteArray.mk #[10])) h))) (g a)
def jC (g:fx) (b:ByteArray) (e:Int) (h:ByteArray->Int->Nm ρ) (i:ByteArray->Nm ρ):Nm ρ :=
  ifb (ilt e (ß g)) (è g e fun a=>Â (Ū (ByteArray.mk #[99,111,109,112,97,114,101]) ([a.1,a.2.1,a.2.2.2.2.1,a.2.2.2.2.2.1,a.2.2.2.2.2.2.1,a.2.2.2.2.2.2.2])) fun c=>ä (Ü (ByteArray.size b+ByteArray.size c)) (Â (Ū (ByteArray.mk #[32,97]) a.2.2.1) fun d=>ä (Ü (ByteArray.size (b++c)+ByteArray.size d)) (Â (Ū (ByteArray.mk #[32,98]) a.2.2.2.1) fun f=>ä (Ü (ByteArray.size ((b++c)++d)+ByteArray.size f)) (ä (Ü (ByteArray.size (((b++c)++d)++f)+ByteArray.size (ByteArray.mk #[10]))) (ck (e+(1:Int)) fun j=>h ((((b++c)++d)++f)++(ByteArray.mk #[10])) j))))) (i b)
def jB (c:c8) (a:ByteArray) (b:Int) (e:ByteArray->Int->Nm ρ) (f:ByteArray->Nm ρ):Nm ρ :=
  ifb (ilt b (ß c)) (è c b fun g=>è c b fun h=>Â (Ū (ByteArray.mk #[108,111,111,107]) ([g.1,h.2])) fun d=>ä (Ü (ByteArray.size a+ByteArray.size d)) (ä (Ü (ByteArray.size (a++d)+ByteArray.size (ByteArray.mk #[10]))) (ck (b+(1:Int)) fun i=>e ((a++d)++(ByteArray.mk #[10])) i))) (f a)
def Hj (a:bx) (k:ByteArray->Nm ρ):Nm ρ :=
  Â (Ū (ByteArray.mk #[102,105,108,109]) ([a.1.1,a.1.2])) fun b=>ä (Ü (ByteArray.size b+ByteArray.size (ByteArray.mk #[10]))) (Ó (fun(c:v7) h=>jF a.2.1 c.1 c.2 (fun i j=>h (i,j)) (fun l=>Ó (fun(d:v7) m=>jE a.2.2.1 d.1 d.2 (fun n o=>m (n,o)) (fun p=>Ó (fun(e:v7) q=>jD a.2.2.2.1 e.1 e.2 (fun r s=>q (r,s)) (fun t=>Ó (fun(f:v7) u=>jC a.2.2.2.2.1 f.1 f.2 (fun v w=>u (v,w)) (fun x=>Ó (fun(g:v7) y=>jB a.2.2.2.2.2 g.1 g.2 (fun z A=>y (z,A)) (fun B=>k B)) (x,(0:Int)))) (t,(0:Int)))) (p,(0:Int)))) (l,(0:Int)))) ((b++(ByteArray.mk #[10])),(0:Int)))
def ğ (a:bx):Nm (ByteArray):=Hj a some
def oo (c:ByteArray) (f:Int) (b:Int) (a:Int) (d:fy) (e:Int->Int->fy->Nm ρ) (g:Id->Nm ρ):Nm ρ :=
  ifb (ilt a (Fq (ByteArray.size c))) (Po c a fun h=>ifb (ieq h f) (ä ((ile 0 b)&&((ile b a)&&(ile a ((ByteArray.size c:Nat):Int)))) (ä (Ü ((List.length d)+(List.length ([(ByteArray.extract c (Int.toNat b) (Int.toNat a))])))) (ck (a+(1:Int)) fun i=>ck (a+(1:Int)) fun j=>e i j (d++([(ByteArray.extract c (Int.toNat b) (Int.toNat a))]))))) (ck (a+(1:Int)) fun k=>e b k d)) (g (b,d))
def Hf (a:ByteArray) (d:Int) (k:fy->Nm ρ):Nm ρ :=
  Ó (fun(c:(Val (.pair tI aL))) e=>oo a d c.1 c.2.1 c.2.2 (fun f g h=>e (f,g,h)) (fun b=>ä ((ile 0 b.1)&&(ile b.1 ((ByteArray.size a:Nat):Int))) (ä (Ü ((List.length b.2)+(List.length ([(ByteArray.extract a (Int.toNat b.1) (ByteArray.size a))])))) (k (b.2++([(ByteArray.extract a (Int.toNat b.1) (ByteArray.size a))])))))) ((0:Int),(0:Int),[])
def nJ (a:ByteArray) (b:Int):Nm (fy):=Hf a b some
def mz (c:ByteArray) (b:Int) (a:Int) (d:Int->Int->Nm ρ) (e:Int->Nm ρ):Nm ρ :=
  ifb (ilt a (Fq (ByteArray.size c))) (ifb (ilt a 18) (Po c a fun f=>ifb (ige f 48) (Po c a fun g=>ifb (ile g 57) (ck ((10:Int)*b) fun h=>Po c a fun i=>ck (h+(IntKind.wrap .i64 (IntKind.wrap .u8 (i-(48:Int))))) fun j=>ck (a+(1:Int)) fun k=>d j k) (ck (a+(1:Int)) fun l=>d b l)) (ck (a+(1:Int)) fun m=>d b m)) (e b)) (e b)
def CW (a:ByteArray) (k:Int->Nm ρ):Nm ρ :=
  Ó (fun(c:c7) d=>mz a c.1 c.2 (fun e f=>d (e,f)) (fun b=>ifb (igt (Fq (ByteArray.size a)) 0) (Po a (0:Int) fun g=>ifb (ieq g 45) (ck ((0:Int)-b) fun h=>k h) (k b)) (k b))) ((0:Int),(0:Int))
def f7 (a:ByteArray):Nm (Int):=CW a some
def gJ (c:fy) (a:Int) (b:an) (e:Int->an->Nm ρ) (f:an->Nm ρ):Nm ρ :=
  ifb (ilt a (ß c)) (è c a fun g=>Â (f7 g) fun d=>ä (Ü ((List.length b)+(List.length ([d])))) (ck (a+(1:Int)) fun h=>e h (b++([d])))) (f b)
def ky (b:Int) (a:an) (c:an->Nm ρ) (d:an->Nm ρ):Nm ρ :=
  ifb (ilt (ß a) b) (ä (Ü ((List.length a)+(List.length ([(0:Int)])))) (c (a++([(0:Int)])))) (d a)
def Ac (b:fy) (c:Int) (k:an->Nm ρ):Nm ρ :=
  Ó (fun(a:ly) d=>gJ b a.1 a.2 (fun e f=>d (e,f)) (fun g=>Ó (fun(h:an) i=>ky c h (fun j=>i j) (fun l=>k l)) (g))) ((0:Int),[])
def mg (a:fy) (b:Int):Nm (an):=Ac a b some
def ol (c:fy) (e:Bool) (a:Int) (b:an) (d:an) (f:Bool->Int->an->an->Nm ρ) (j:DO->Nm ρ):Nm ρ :=
  ifb (ilt a (ß c)) (è c a fun k=>ifb (k.toList==(ByteArray.mk #[98]).toList) (ck (a+(1:Int)) fun l=>f true l b d) (è c a fun m=>ifb (!(m.toList==(ByteArray.mk #[97]).toList)) (ifb e (è c a fun n=>Â (f7 n) fun g=>ä (Ü ((List.length d)+(List.length ([g])))) (ck (a+(1:Int)) fun o=>f e o b (d++([g])))) (è c a fun p=>ifb (!(p.toList==(ByteArray.mk #[97]).toList)) (è c a fun q=>Â (f7 q) fun h=>ä (Ü ((List.length b)+(List.length ([h])))) (ck (a+(1:Int)) fun r=>f e r (b++([h])) d)) (ck (a+(1:Int)) fun s=>f e s b d))) (è c a fun t=>ifb (!(t.toList==(ByteArray.mk #[97]).toList)) (è c a fun u=>Â (f7 u) fun i=>ä (Ü ((List.length b)+(List.length ([i])))) (ck (a+(1:Int)) fun v=>f e v (b++([i])) d)) (ck (a+(1:Int)) fun w=>f e w b d)))) (j (b,d))
def Hb (c:fy) (k:DO->Nm ρ):Nm ρ :=
  Ó (fun(a:(Val (.pair .bool (.pair tI az)))) d=>ol c a.1 a.2.1 a.2.2.1 a.2.2.2 (fun e f g h=>d (e,f,g,h)) (fun b=>k (b.1,b.2))) (false,(0:Int),[],[])
def sr (a:fy):Nm (DO):=Hb a some
def gL (n:fy) (b:Int) (h:Int) (i:Int) (c:io) (d:c8) (e:js) (f:fx) (g:c8) (k:Int->Int->Int->io->c8->js->fx->c8->Nm ρ) (o:z6->Nm ρ):Nm ρ :=
  ck ((ß n)-(1:Int)) fun L=>ifb (ilt b L) (ifb (ilt b 120) (è n b fun M=>Â (nJ M (32:Int)) fun j=>ä (ile 1 (Ć j)) (Â (mg (List.drop 1 j) (8:Int)) fun a=>è j (0:Int) fun l=>ifb (l.toList==(ByteArray.mk #[102,105,108,109]).toList) (è a (0:Int) fun N=>è a (1:Int) fun O=>ck (b+(1:Int)) fun P=>k P N O c d e f g) (ifb (l.toList==(ByteArray.mk #[103,97,117,103,101]).toList) (è a (0:Int) fun p=>è a (1:Int) fun q=>è a (2:Int) fun r=>è a (3:Int) fun s=>è a (4:Int) fun t=>è a (5:Int) fun u=>è a (6:Int) fun v=>è a (7:Int) fun w=>ä (Ü ((List.length c)+(List.length ([(p,q,r,(s,t),(u,v),w)])))) (ck (b+(1:Int)) fun Q=>k Q h i (c++([(p,q,r,(s,t),(u,v),w)])) d e f g)) (ifb (l.toList==(ByteArray.mk #[117,115,101]).toList) (è a (0:Int) fun x=>è a (1:Int) fun y=>ä (Ü ((List.length d)+(List.length ([(x,y)])))) (ck (b+(1:Int)) fun R=>k R h i c (d++([(x,y)])) e f g)) (ifb (l.toList==(ByteArray.mk #[108,111,97,110]).toList) (è a (0:Int) fun z=>è a (1:Int) fun A=>è a (2:Int) fun B=>è a (3:Int) fun C=>ä (Ü ((List.length e)+(List.length ([(z,(A,B),C)])))) (ck (b+(1:Int)) fun S=>k S h i c d (e++([(z,(A,B),C)])) f g)) (ifb (l.toList==(ByteArray.mk #[99,111,109,112,97,114,101]).toList) (ä ((ile 0 (Kc (ß j) (7:Int)))&&(ile (Kc (ß j) (7:Int)) (Ć j))) (Â (sr (List.drop (Int.toNat (Kc (ß j) (7:Int))) j)) fun m=>è a (0:Int) fun D=>è a (1:Int) fun E=>è a (2:Int) fun F=>è a (3:Int) fun G=>è a (4:Int) fun H=>è a (5:Int) fun I=>ä (Ü ((List.length f)+(List.length ([(D,E,m.1,m.2,F,G,H,I)])))) (ck (b+(1:Int)) fun T=>k T h i c d e (f++([(D,E,m.1,m.2,F,G,H,I)])) g))) (ifb (l.toList==(ByteArray.mk #[108,111,111,107]).toList) (è a (0:Int) fun J=>è a (1:Int) fun K=>ä (Ü ((List.length g)+(List.length ([(J,K)])))) (ck (b+(1:Int)) fun U=>k U h i c d e f (g++([(J,K)])))) (ck (b+(1:Int)) fun V=>k V h i c d e f g)))))))) (o (h,i,c,d,e,f,g))) (o (h,i,c,d,e,f,g))
def Hk (c:ByteArray) (k:(Val (.pair Ä .bool))->Nm ρ):Nm ρ :=
  Â (nJ c (10:Int)) fun d=>Ó (fun(b:Val aI) e=>gL d b.1 b.2.1 b.2.2.1 b.2.2.2.1 b.2.2.2.2.1 b.2.2.2.2.2.1 b.2.2.2.2.2.2.1 b.2.2.2.2.2.2.2 (fun f g h i j l m n=>e (f,g,h,i,j,l,m,n)) (fun a=>Â (Ħ ((a.1,a.2.1),a.2.2)) fun o=>ifb (ine o 0) (k ((((0:Int),(0:Int)),[],[],[],[],[]),false)) (Â (ğ ((a.1,a.2.1),a.2.2)) fun p=>ifb (!(p.toList==c.toList)) (k ((((0:Int),(0:Int)),[],[],[],[],[]),false)) (k (((a.1,a.2.1),a.2.2),true))))) ((0:Int),(0:Int),(0:Int),[],[],[],[],[])
def nO (a:ByteArray):Nm ((Val (.pair Ä .bool))):=Hk a some
def fT (b:an) (c:an) (a:Int) (d:Int->Nm ρ) (e:Bool->Nm ρ) (f:Unit->Nm ρ):Nm ρ :=
  ifb (ilt a (ß b)) (è b a fun g=>è c a fun h=>ifb (ine g h) (e false) (ck (a+(1:Int)) fun i=>d i)) (f ())
def wH (a:an) (b:an) (k:Bool->Nm ρ):Nm ρ :=
  ifb (ine (ß a) (ß b)) (k false) (Ó (fun(c:Int) d=>fT a b c (fun e=>d e) (fun f=>k f) (fun _=>k true)) (0:Int))
def δ (a:an) (b:an):Nm (Bool):=wH a b some
def pr (a:ge) (b:ge) (k:Bool->Nm ρ):Nm ρ :=
  Â (δ a.2.2.1 b.2.2.1) fun c=>Â (δ a.2.2.2.1 b.2.2.2.1) fun d=>ifb c (ifb d (ifb (ieq a.1 b.1) (ifb (ieq a.2.1 b.2.1) (ifb (ieq a.2.2.2.2.1 b.2.2.2.2.1) (ifb (ieq a.2.2.2.2.2.1 b.2.2.2.2.2.1) (k ((š a.2.2.2.2.2.2.1 b.2.2.2.2.2.2.1)&&((š a.2.2.2.2.2.2.2 b.2.2.2.2.2.2.2)&&true))) (k false)) (k false)) (k false)) (k false)) (k false)) (k false)
def fW (a:ge) (b:ge):Nm (Bool):=pr a b some
def Ξ (b:c8) (e:c8) (a:Int) (f:Int->Nm ρ) (g:Bool->Nm ρ) (h:Unit->Nm ρ):Nm ρ :=
  ifb (ilt a (ß b)) (è b a fun c=>è e a fun d=>ifb (!((š c.1 d.1)&&((š c.2 d.2)&&true))) (g false) (ck (a+(1:Int)) fun i=>f i)) (h ())
def tW (a:c8) (b:c8) (k:Bool->Nm ρ):Nm ρ :=
  ifb (ine (ß a) (ß b)) (k false) (Ó (fun(c:Int) d=>Ξ a b c (fun e=>d e) (fun f=>k f) (fun _=>k true)) (0:Int))
def fL (a:c8) (b:c8):Nm (Bool):=tW a b some
def lM (d:io) (e:io) (c:Int) (f:Int->Nm ρ) (g:Bool->Nm ρ) (h:Unit->Nm ρ):Nm ρ :=
  ifb (ilt c (ß d)) (è d c fun a=>è e c fun b=>ifb (!((š a.1 b.1)&&((š a.2.1 b.2.1)&&((š a.2.2.1 b.2.2.1)&&((š a.2.2.2.1.1 b.2.2.2.1.1)&&((š a.2.2.2.1.2 b.2.2.2.1.2)&&((š a.2.2.2.2.1.1 b.2.2.2.2.1.1)&&((š a.2.2.2.2.1.2 b.2.2.2.2.1.2)&&((š a.2.2.2.2.2 b.2.2.2.2.2)&&true))))))))) (g false) (ck (c+(1:Int)) fun i=>f i)) (h ())
def lL (b:c8) (e:c8) (a:Int) (f:Int->Nm ρ) (g:Bool->Nm ρ) (h:Unit->Nm ρ):Nm ρ :=
  ifb (ilt a (ß b)) (è b a fun c=>è e a fun d=>ifb (!((š c.1 d.1)&&((š c.2 d.2)&&true))) (g false) (ck (a+(1:Int)) fun i=>f i)) (h ())
def lK (d:js) (e:js) (a:Int) (f:Int->Nm ρ) (g:Bool->Nm ρ) (h:Unit->Nm ρ):Nm ρ :=
  ifb (ilt a (ß d)) (è d a fun b=>è e a fun c=>ifb (!((š b.1 c.1)&&((š b.2.1.1 c.2.1.1)&&((š b.2.1.2 c.2.1.2)&&((š b.2.2 c.2.2)&&true))))) (g false) (ck (a+(1:Int)) fun i=>f i)) (h ())
def lJ (b:fx) (c:fx) (a:Int) (d:Int->Nm ρ) (e:Bool->Nm ρ) (f:Unit->Nm ρ):Nm ρ :=
  ifb (ilt a (ß b)) (è b a fun g=>è c a fun h=>Â (fW g h) fun i=>ifb (!i) (e false) (ck (a+(1:Int)) fun j=>d j)) (f ())
def LH (a:bx) (b:bx) (k:Bool->Nm ρ):Nm ρ :=
  ifb (!((š a.1.1 b.1.1)&&((š a.1.2 b.1.2)&&true))) (k false) (ifb (ine (ß a.2.1) (ß b.2.1)) (k false) (ifb (ine (ß a.2.2.1) (ß b.2.2.1)) (k false) (ifb (ine (ß a.2.2.2.1) (ß b.2.2.2.1)) (k false) (ifb (ine (ß a.2.2.2.2.1) (ß b.2.2.2.2.1)) (k false) (Ó (fun(c:Int) d=>lM a.2.1 b.2.1 c (fun e=>d e) (fun f=>k f) (fun _=>Ó (fun(g:Int) h=>lL a.2.2.1 b.2.2.1 g (fun i=>h i) (fun j=>k j) (fun _=>Ó (fun(l:Int) m=>lK a.2.2.2.1 b.2.2.2.1 l (fun n=>m n) (fun o=>k o) (fun _=>Ó (fun(p:Int) q=>lJ a.2.2.2.2.1 b.2.2.2.2.1 p (fun r=>q r) (fun s=>k s) (fun _=>Â (fL a.2.2.2.2.2 b.2.2.2.2.2) fun t=>k t)) (0:Int))) (0:Int))) (0:Int))) (0:Int))))))
def nN (a:bx) (b:bx):Nm (Bool):=LH a b some
def je (b:bx) (e:ByteArray) (k:Bool->Nm ρ):Nm ρ :=
  Â (sn b) fun j=>ifb (!j) (Â Ğ fun l=>k l) (ifb (igt (Fq (ByteArray.size e)) 3000) (Â Ğ fun m=>k m) (Â (gU b) fun a=>Â (rC e) fun c=>Â (nO e) fun d=>Â (nN c.1 d.1) fun n=>ifb (!n) (k false) (ifb d.2 (ifb (ine c.2 0) (k false) (ifb (!d.2) (ifb (ine c.2 7) (k false) (Â (Ħ b) fun f=>ifb (ine f 0) (Â Ğ fun o=>ifb o (ifb (ieq a.2 f) (k (a.1.toList==(ByteArray.mk #[]).toList)) (k false)) (k false)) (Â Ğ fun p=>ifb p (ifb (ieq a.2 0) (Â (ğ b) fun q=>k (a.1.toList==q.toList)) (k false)) (k false)))) (Â (Ħ b) fun g=>ifb (ine g 0) (Â Ğ fun r=>ifb r (ifb (ieq a.2 g) (k (a.1.toList==(ByteArray.mk #[]).toList)) (k false)) (k false)) (Â Ğ fun s=>ifb s (ifb (ieq a.2 0) (Â (ğ b) fun t=>k (a.1.toList==t.toList)) (k false)) (k false))))) (ifb (!d.2) (ifb (ine c.2 7) (k false) (Â (Ħ b) fun h=>ifb (ine h 0) (Â Ğ fun u=>ifb u (ifb (ieq a.2 h) (k (a.1.toList==(ByteArray.mk #[]).toList)) (k false)) (k false)) (Â Ğ fun v=>ifb v (ifb (ieq a.2 0) (Â (ğ b) fun w=>k (a.1.toList==w.toList)) (k false)) (k false)))) (Â (Ħ b) fun i=>ifb (ine i 0) (Â Ğ fun x=>ifb x (ifb (ieq a.2 i) (k (a.1.toList==(ByteArray.mk #[]).toList)) (k false)) (k false)) (Â Ğ fun y=>ifb y (ifb (ieq a.2 0) (Â (ğ b) fun z=>k (a.1.toList==z.toList)) (k false)) (k false)))))))
def jj (a:bx) (b:ByteArray):Nm (Bool):=je a b some
end Go.Proofs.ZzM
end
