/- Own work of this seat: PA, PB, PMk, PMade15, PRight, PNew, PInv, PNewOk, PSmall, PSame, PGo, PDq, PWork, PMut, PEng, PLowEq, PWorkEq, PDq2, PChain, PStrong, PGstep, PWstep. -/
import Derived.Test.YtenpfjfpekljpaaGreatDoorWPGa
set_option linter.unusedVariables false
set_option linter.unusedSimpArgs false
set_option linter.unnecessarySimpa false
set_option linter.unusedSectionVars false
set_option linter.deprecated false
set_option maxRecDepth 20000
namespace Go.Pe.G
open Go.Pe
noncomputable section
theorem Zf {A B D:Type} {f:A→Option (xM A B D)} (Inv:A→Prop) (ms:A→Nat) (Q:xM Unit B D→Prop)
  (h: ∀a,Inv a→∃o,f a=some o∧match o with
   | .again a'=>Inv a'∧ms a'<ms a
   | .brk b=>Q (.brk b)
   | .ret c=>Q (.ret c)): ∀a,Inv a→ms a<Wn→∃o,yP f a=some o∧Q o:=by
 have key: ∀(n:Nat) a,Inv a→ms a<n→∃o,ZM f n a=some o∧Q o:=by
  intro n
  induction n with
  | zero=>intro a _ h;omega
  | succ n ih =>
   intro a ha hm
   obtain ⟨o,ho,hq⟩:=h a ha
   simp only [ZM,ho,Option.bind_some]
   cases o with
   | again a'=>exact ih a' hq.1 (by have:=hq.2;omega)
   | brk b=>exact ⟨_,rfl,hq⟩
   | ret c=>exact ⟨_,rfl,hq⟩
 intro a ha hm
 rw [zaq]
 exact key Wn a ha hm
theorem wU {n:Nat} (h:n<18446744073709551616):n<Wn:=h
theorem yU {a:Int} (h: -9223372036854775808≤a) (h2:a<9223372036854775808):w64 a=a:=by
 rw [zkb];omega
def wc (n:Int):Int:=(n+9223372036854775808)%18446744073709551616-9223372036854775808
theorem um:w64=wc:=funext zkb
theorem xm {a:Int} (h: -9223372036854775808≤a) (h2:a<9223372036854775808):wc a=a:=by unfold wc;omega
theorem zA {α:Type} (p:Prop) [Decidable p] (a b:α):(bif decide p then a else b)=if p then a else b:=by
 by_cases h:p<;>simp [h]
theorem yQ {α:Type} (p:Prop) [Decidable p] (a b:α):(bif !(decide p) then a else b)=if p then b else a:=by
 by_cases h:p<;>simp [h]
theorem uj {α:Type} {l:List α} (h:l.length<4294967296):ve l=some l:=by
 rw [zpQ];simp [h]
theorem Vj {α:Type} {l:List α} {i:Int} (h:0≤i):idx l i=l[i.toNat]? :=by
 unfold idx;simp [h]
theorem Vr {α:Type} {l:List α} {i:Int} (h:0≤i) (h2:i<l.length):Z2 l i=some i.toNat:=by
 unfold Z2;simp [h,h2]
def bit (o:Int):BitVec 64:=if 1≤o∧o≤64 then 1#64 <<< (o-1).toNat else 0#64
theorem zrJ (a:Int):zgf a=some (bit a,()):=by
 rw [zp3]
 simp only [zA]
 unfold bit
 by_cases h1:a<1
 ·rw [if_pos h1,if_neg (by omega)]
 ·rw [if_neg h1]
  by_cases h2:64<a
  ·rw [if_pos h2,if_neg (by omega)]
  ·rw [if_neg h2,yU (a:=a-1) (by omega) (by omega),if_neg (show ¬a-1<0 by omega),if_pos (show 1≤a∧a≤64 by omega),Nat.min_eq_left (by omega)]
theorem znz (s:BitVec 64) (o:Int):zc4 s o=some (!(decide (s&&&bit o=0#64)),()):=by
 rw [zqK,zrJ];rfl
theorem zkk (s:BitVec 64) (o:Int):zaD s o=some (s|||bit o,()):=by
 rw [zp5,zrJ];rfl
def ui (t:zo) (o:Int):zo×Bool :=
 if t.Marks|||bit o=t.Marks then (t,false) else if t.Black&&&bit o=0#64 then ({t with Marks:=t.Marks|||bit o},true) else (t,false)
theorem zsw (t:zo) (o:Int):zfp t o=some ((ui t o).1,(ui t o).2,()):=by
 rw [zl6,zkk,Option.bind_some,zA]
 unfold ui
 by_cases h1:t.Marks|||bit o=t.Marks
 ·rw [if_pos h1,if_pos h1]
 ·rw [if_neg h1,if_neg h1,znz,Option.bind_some,yQ]
  by_cases h2:t.Black&&&bit o=0#64
  ·rw [if_pos h2,if_pos h2]
  ·rw [if_neg h2,if_neg h2]
theorem zoH {m:List (BitVec 64)} (h:m.length<4294967296):xy m=some (m,()):=by
 rw [zat,List.nil_append,uj h,Option.bind_some]
 cases m with
 | nil=>simp [zgv]
 | cons a l=>simp
theorem zmF {m:List (List Int)} (h:m.length<4294967296):uL m=some (m,()):=by
 rw [zcc,List.nil_append,uj h,Option.bind_some]
 cases m with
 | nil=>simp [zgv]
 | cons a l=>simp
def ld (m:List (BitVec 64)) (a:Int):BitVec 64:=if 0≤a then m.getD a.toNat 0#64 else 0#64
def st (m:List (BitVec 64)) (a:Int) (v:BitVec 64):List (BitVec 64):=if 0≤a then m.set a.toNat v else m
def sw (m:List (BitVec 64)) (at_:Int) (a b:BitVec 64):List (BitVec 64)×Bool :=
 if 0≤at_∧at_<m.length∧ld m at_=a then (st m at_ b,true) else (m,false)
theorem zqb {m:List (BitVec 64)} {a:Int} (h:0≤a) (h2:a<m.length):m[a.toNat]? =some (ld m a):=by
 unfold ld
 rw [if_pos h,List.getD_eq_getElem?_getD,List.getElem?_eq_getElem (by omega)];rfl
theorem zrW {m:List (BitVec 64)} {a:Int}:st m a (ld m a)=m:=by
 unfold st ld
 by_cases h:0≤a
 ·rw [if_pos h,if_pos h]
  by_cases h2:a.toNat<m.length
  ·rw [List.getD_eq_getElem?_getD,List.getElem?_eq_getElem h2];simp
  ·rw [List.set_eq_of_length_le (by omega)]
 ·rw [if_neg h]
theorem zt3 {m:List (BitVec 64)} {a:Int} (h:a<0∨m.length≤a):ld m a=0#64:=by
 unfold ld
 rcases h with h | h
 ·rw [if_neg (by omega)]
 ·split
  ·rw [List.getD_eq_getElem?_getD,List.getElem?_eq_none (by omega)];rfl
  ·rfl
theorem ztj {m:List (BitVec 64)} {a:Int} {v:BitVec 64} (h:a<0∨m.length≤a):st m a v=m:=by
 unfold st
 rcases h with h | h
 ·rw [if_neg (by omega)]
 ·split
  ·rw [List.set_eq_of_length_le (by omega)]
  ·rfl
theorem zrN (m:List (BitVec 64)) (a:Int) (x y:BitVec 64): ∃b,YS m ⟨1,a,x,y⟩=some (m,ld m a,b,()):=by
 rw [zgB]
 simp only [zA,if_true]
 by_cases h1:a<0
 ·rw [if_pos h1,zt3 (.inl h1)];exact ⟨_,rfl⟩
 ·rw [if_neg h1]
  by_cases h2:(m.length:Int)≤a
  ·rw [if_pos h2,zt3 (.inr h2)];exact ⟨_,rfl⟩
  ·rw [if_neg h2,Vj (by omega),zqb (by omega) (by omega),Option.bind_some,zo4,Option.bind_some]
   simp
theorem zqm {m:List (BitVec 64)} (hm:m.length<4294967296) (a:Int) (x y:BitVec 64): ∃v b,YS m ⟨2,a,x,y⟩=some (st m a x,v,b,()):=by
 rw [zgB]
 simp only [zA,if_true,if_neg (show ¬(2:Int)=1 by omega)]
 by_cases h1:a<0
 ·rw [if_pos h1,ztj (.inl h1)];exact ⟨_,_,rfl⟩
 ·rw [if_neg h1]
  by_cases h2:(m.length:Int)≤a
  ·rw [if_pos h2,ztj (.inr h2)];exact ⟨_,_,rfl⟩
  ·rw [if_neg h2,Vj (by omega),zqb (by omega) (by omega),Option.bind_some,zo9,Option.bind_some,cond_true,yQ]
   by_cases h3:ld m a=x
   ·rw [if_pos h3]
    subst h3
    rw [zrW];exact ⟨_,_,rfl⟩
   ·rw [if_neg h3,zoH hm,Option.bind_some,Vr (l:=m) (by omega) (by omega),Option.bind_some]
    unfold st
    rw [if_pos (by omega)]
    exact ⟨_,_,rfl⟩
theorem zon {m:List (BitVec 64)} (hm:m.length<4294967296) (a:Int) (x y:BitVec 64): ∃v,YS m ⟨3,a,x,y⟩=some ((sw m a x y).1,v,(sw m a x y).2,()):=by
 rw [zgB]
 simp only [zA,if_true,if_neg (show ¬(3:Int)=1 by omega),if_neg (show ¬(3:Int)=2 by omega)]
 by_cases h1:a<0
 ·rw [if_pos h1]
  have:sw m a x y=(m,false):=by unfold sw;rw [if_neg (by omega)]
  rw [this];exact ⟨_,rfl⟩
 ·rw [if_neg h1]
  by_cases h2:(m.length:Int)≤a
  ·rw [if_pos h2]
   have:sw m a x y=(m,false):=by unfold sw;rw [if_neg (by omega)]
   rw [this];exact ⟨_,rfl⟩
  ·rw [if_neg h2,Vj (by omega),zqb (by omega) (by omega),Option.bind_some,zo1,Option.bind_some]
   simp only [zA]
   by_cases h3:ld m a=x
   ·have:sw m a x y=(st m a y,true):=by unfold sw;rw [if_pos ⟨by omega,by omega,h3⟩]
    rw [if_pos h3,this,yQ]
    by_cases h4:ld m a=y
    ·rw [if_pos h4]
     have:st m a y=m:=by rw [←h4,zrW]
     rw [this]
     simp [h3]
    ·rw [if_neg h4,zoH hm,Option.bind_some,Vr (l:=m) (by omega) (by omega),Option.bind_some]
     unfold st
     rw [if_pos (by omega)]
     simp [h3]
   ·have:sw m a x y=(m,false):=by unfold sw;rw [if_neg (by rintro ⟨_,_,h⟩;exact h3 h)]
    rw [if_neg h3,this]
    simp [h3]
theorem zng (m:List (BitVec 64)) (a:Int):zbr m a=some (ld m a,()):=by
 obtain ⟨b,h⟩:=zrN m a 0#64 0#64
 rw [zmD,h];rfl
theorem UQ {m:List (BitVec 64)} (hm:m.length<4294967296) (a:Int) (x:BitVec 64):ZY m a x=some (st m a x,()):=by
 obtain ⟨v,b,h⟩:=zqm hm a x 0#64
 rw [zlO,h];rfl
theorem XI (m:List (BitVec 64)) (a:Int):u9 m a=some (ld m a,()):=by
 obtain ⟨b,h⟩:=zrN m a 0#64 0#64
 rw [zlW,h];rfl
theorem UZ {m:List (BitVec 64)} (hm:m.length<4294967296) (a:Int) (x:BitVec 64):Z4 m a x=some (st m a x,()):=by
 obtain ⟨v,b,h⟩:=zqm hm a x 0#64
 rw [zlQ,h];rfl
def yr (h:BitVec 64):Int:=(h&&&4294967295#64).toInt
def yV (v:BitVec 64) (n:Int):BitVec 64:=(v <<< 32)|||(BitVec.ofInt 64 n&&&4294967295#64)
theorem zd9 (h:BitVec 64):YN h=some (yr h,()):=zmJ h
theorem zd6 (v:BitVec 64) (n:Int):Wi v n=some (yV v n,()):=znc v n
def zk (m:List (BitVec 64)) (c:zw):List (BitVec 64)×zw :=
 if c.Out≠0∨(c.Kind≠1∧c.Kind≠2)∨c.PC<0∨3≤c.PC then (m,c)
 else if c.PC=0 then
  (m,if c.Kind=2∧yr (ld m c.Head)=0 then {c with H:=ld m c.Head,Out:=2,PC:=1} else {c with H:=ld m c.Head,PC:=1})
 else if c.PC=1 then
  if c.Kind=2 then (m,{c with Y:=(ld m (wc (c.Next+yr c.H))).toInt,PC:=2})
  else (st m (wc (c.Next+c.X)) (BitVec.ofInt 64 (yr c.H)),{c with PC:=2})
 else
  let r:=sw m c.Head c.H (yV ((c.H >>> 32)+1#64) (if c.Kind=2 then c.Y else c.X))
  (r.1,if r.2 then (if c.Kind=2 then {c with X:=yr c.H,Out:=1,PC:=3} else {c with Out:=1,PC:=3}) else {c with PC:=0})
theorem zij {m:List (BitVec 64)} (hm:m.length<4294967296) (c:zw):Ue m c=some ((zk m c).1,(zk m c).2,()):=by
 have hsee:vh m c=some (m,(if c.Kind=2∧yr (ld m c.Head)=0 then {c with H:=ld m c.Head,Out:=2} else {c with H:=ld m c.Head}),()):=by
  rw [zdS,zng,Option.bind_some,zd9,Option.bind_some,zA,zA]
  by_cases h1:c.Kind=2
  ·by_cases h2:yr (ld m c.Head)=0
   ·rw [if_pos h1,if_pos h2,if_pos ⟨h1,h2⟩]
   ·rw [if_pos h1,if_neg h2,if_neg (fun h=>h2 h.2)]
  ·rw [if_neg h1,if_neg (fun h=>h1 h.1)]
 have hlink:YB m c=some (st m (wc (c.Next+c.X)) (BitVec.ofInt 64 (yr c.H)),()):=by
  rw [zfH,um,zd9,Option.bind_some,UQ hm];rfl
 have hbeh:uP m c=some (m,{c with Y:=(ld m (wc (c.Next+yr c.H))).toInt},()):=by
  rw [zcp,um,zd9,Option.bind_some,zng];rfl
 have hswap:wT m c=some ((sw m c.Head c.H (yV ((c.H >>> 32)+1#64) (if c.Kind=2 then c.Y else c.X))).1,
   (if (sw m c.Head c.H (yV ((c.H >>> 32)+1#64) (if c.Kind=2 then c.Y else c.X))).2 then (if c.Kind=2 then {c with X:=yr c.H,Out:=1} else {c with Out:=1}) else {c with PC:= -1}),()):=by
  rw [zdD,zA]
  by_cases h1:c.Kind=2
  ·rw [if_pos h1,zd6,Option.bind_some]
   obtain ⟨v,hv⟩:=zon hm c.Head c.H (yV ((c.H >>> 32)+1#64) c.Y)
   simp only [if_pos h1]
   rw [hv,Option.bind_some]
   cases hs:(sw m c.Head c.H (yV ((c.H >>> 32)+1#64) c.Y)).2 with
   | true=>simp [hs,h1,zd9]
   | false=>simp [hs]
  ·rw [if_neg h1,zd6,Option.bind_some]
   obtain ⟨v,hv⟩:=zon hm c.Head c.H (yV ((c.H >>> 32)+1#64) c.X)
   simp only [if_neg h1]
   rw [hv,Option.bind_some]
   cases hs:(sw m c.Head c.H (yV ((c.H >>> 32)+1#64) c.X)).2 with
   | true=>simp [hs,h1]
   | false=>simp [hs]
 rw [zna,hsee,hlink,hbeh,hswap]
 simp only [zA,yQ,Option.bind_some]
 unfold zk
 by_cases h0:c.Out=0
 ·by_cases hp0:c.PC<0
  ·have:(c.Out≠0∨(c.Kind≠1∧c.Kind≠2)∨c.PC<0∨3≤c.PC):= .inr (.inr (.inl hp0))
   rw [if_pos this]
   simp [h0,hp0]
  ·by_cases hp3:3≤c.PC
   ·have:(c.Out≠0∨(c.Kind≠1∧c.Kind≠2)∨c.PC<0∨3≤c.PC):= .inr (.inr (.inr hp3))
    rw [if_pos this]
    simp [h0,hp3]
   ·by_cases hk:c.Kind=1∨c.Kind=2
    ·have: ¬(c.Out≠0∨(c.Kind≠1∧c.Kind≠2)∨c.PC<0∨3≤c.PC):=by
      rintro (h | h | h | h)
      ·exact h h0
      ·omega
      ·exact hp0 h
      ·exact hp3 h
     rw [if_neg this]
     have hpc:c.PC=0∨c.PC=1∨c.PC=2:=by omega
     have w1:w64 1=1:=yU (by omega) (by omega)
     have w2:w64 2=2:=yU (by omega) (by omega)
     have w3:w64 3=3:=yU (by omega) (by omega)
     have w4:w64 0=0:=yU (by omega) (by omega)
     rcases hk with hk | hk<;>rcases hpc with hpc | hpc | hpc<;>simp [h0,hk,hpc,w1,w2,w3,w4]<;>(try split)<;>simp [hpc,w1,w3,w4]
    ·have:(c.Out≠0∨(c.Kind≠1∧c.Kind≠2)∨c.PC<0∨3≤c.PC):= .inr (.inl (by omega))
     rw [if_pos this]
     have k1: ¬c.Kind=1:=by omega
     have k2: ¬c.Kind=2:=by omega
     simp [h0,k1,k2]
 ·have:(c.Out≠0∨(c.Kind≠1∧c.Kind≠2)∨c.PC<0∨3≤c.PC):= .inl h0
  rw [if_pos this]
  simp [h0]
end
end Go.Pe.G
namespace Go.Pe.G
open Go.Pe
noncomputable section
def Wg (d:zg):BitVec 64:=BitVec.ofInt 64 (if d.Cap<1 then 1 else d.Cap)
def WB (d:zg) (i:BitVec 64):Int:=wc (wc (d.Base+2)+(i%Wg d).toInt)
def yG (m:List (BitVec 64)) (d:zg):List (BitVec 64)×zg :=
 if d.Out≠0∨d.PC<0∨4≤d.PC then (m,d)
 else if d.PC=0 then (m,{d with B:=ld m (wc (d.Base+1)),PC:=1})
 else if d.PC=1 then (m,if Wg d≤d.B-ld m d.Base then {d with T:=ld m d.Base,Out:=3,PC:=2} else {d with T:=ld m d.Base,PC:=2})
 else if d.PC=2 then (st m (WB d d.B) (BitVec.ofInt 64 d.X),{d with PC:=3})
 else (st m (wc (d.Base+1)) (d.B+1#64),{d with Out:=1,PC:=4})
theorem zpH:w64 0=0∧w64 1=1∧w64 2=2∧w64 3=3∧w64 4=4:=by
 refine ⟨?_,?_,?_,?_,?_⟩<;>exact yU (by omega) (by omega)
theorem zug {d:zg} (h:d.Cap<1000):Wg d≠0#64:=by
 unfold Wg
 intro e
 have:=congrArg BitVec.toNat e
 rw [BitVec.toNat_ofInt] at this
 split at this<;>simp at this<;>omega
theorem zmu (d:zg):Yt d=some (Wg d,()):=by
 rw [zfG];unfold Wg;rw [zA]
theorem zgH {d:zg} (h:d.Cap<1000) (i:BitVec 64):uC i d=some (WB d i,()):=by
 rw [zfl,um,zmu,Option.bind_some,zA,if_neg (zug h)];rfl
theorem zgc {m:List (BitVec 64)} (hm:m.length<4294967296) {d:zg} (hk:d.Kind=1) (hc:d.Cap<1000):V1 m d=some ((yG m d).1,(yG m d).2,()):=by
 obtain ⟨w0,w1,w2,w3,w4⟩:=zpH
 have h0:wM m d=some (m,{d with B:=ld m (wc (d.Base+1))},()):=by
  rw [Xj,xC,um,Option.bind_some,XI];rfl
 have h1:Xm m d=some (m,(if Wg d≤d.B-ld m d.Base then {d with T:=ld m d.Base,Out:=3} else {d with T:=ld m d.Base}),()):=by
  rw [zdt,ZD,Option.bind_some,XI,Option.bind_some,zmu,Option.bind_some,zA]
  have e:Wg {d with T:=ld m d.Base}=Wg d:=rfl
  simp only [e]
  by_cases h:Wg d≤d.B-ld m d.Base
  ·rw [if_pos h,if_pos h,wx]
   simp [hk]
  ·rw [if_neg h,if_neg h]
 have h2:VF m d=some (st m (WB d d.B) (BitVec.ofInt 64 d.X),()):=by
  rw [zgY,zgH hc,Option.bind_some,UZ hm];rfl
 have h3:Z9 m d=some (st m (wc (d.Base+1)) (d.B+1#64),{d with Out:=1},()):=by
  rw [zbA,wx]
  simp only [decide_true,Bool.not_true,cond_false,Option.bind_some,xC,um]
  rw [UZ hm];rfl
 rw [zgj,h0,h1,h2,h3,zdK]
 simp only [hk,decide_true,cond_true,Option.bind_some,yQ,zA]
 have key: ∀(x:Option (List (BitVec 64)×zg×Unit)) (v:List (BitVec 64)×zg×Unit) (y:Option (List (BitVec 64)×zg×Unit)),x=some v→Option.or x y=some v:=by
  rintro _ v y rfl;rfl
 apply key
 unfold yG
 by_cases g0:d.Out=0
 ·by_cases g1:d.PC<0
  ·simp [g0,g1]
  ·by_cases g2:4≤d.PC
   ·simp [g0,g2]
   ·have hpc:d.PC=0∨d.PC=1∨d.PC=2∨d.PC=3:=by omega
    rcases hpc with h | h | h | h<;>simp [g0,h,hk,w1,w2,w3,w4]<;>(try split)<;>simp [h,hk,w2]
 ·simp [g0]
def zZ (p:zb):Int:=wc (p.Workers*wc (p.Cap+2))
def zD (p:zb):Int:=wc (zZ p+1)
def zS (p:zb) (w:Int):Int:=wc (wc (w-1)*wc (p.Cap+2))
theorem zdQ (p:zb):Wk p=some (zZ p,()):=by rw [zlU,um];rfl
theorem zcx (p:zb):Xw p=some (zD p,()):=by rw [zk1,um,zdQ];rfl
theorem zbb (p:zb):Y6 p=some (zD p,()):=by rw [zml,zcx];rfl
theorem zcK (p:zb) (w:Int):Vd p w=some (zS p w,()):=by rw [zli,um];rfl
def zeD (p:zb) (g:zy):zy:={g with PC:=5,C:=⟨2,0,zD p,zD p,0#64,0,0,0⟩}
theorem zh0 (a:zF):vy a=some (⟨zeD a.s.P a.Grey,a.s⟩,()):=by
 rw [zfe,zcx,Option.bind_some,zbb,Option.bind_some,WS];rfl
def zf0 (s:za) (g:zy):za×zy :=
 let t:=ui s.T g.Obj
 ({s with T:=t.1},
  if t.2=false then {g with PC:=2}
  else if g.Mode=1 then {g with PC:=3,D:=⟨1,0,zS s.P g.Who,s.P.Cap,0#64,0#64,g.Obj,0⟩}
  else if g.Mode=2 then {g with PC:=4}
  else zeD s.P g)
def zf4 (s:za) (g:zy):za×zy :=
 let r:=yG s.M g.D
 ({s with M:=r.1},if r.2.Out=1 then {g with D:=r.2,Out:=1} else if r.2.Out=3 then zeD s.P {g with D:=r.2} else {g with D:=r.2})
def zgb (s:za) (g:zy):za×zy :=
 let r:=zk s.M g.C
 ({s with M:=r.1},if r.2.Out=1 then {g with PC:=6,C:=r.2,Bin:=r.2.X} else if r.2.Out=2 then zeD s.P {g with C:=r.2} else {g with C:=r.2})
def zmx (s:za) (g:zy):za×zy :=
 ({s with Bins:=s.Bins.set g.Bin.toNat [g.Obj]},{g with PC:=7,C:=⟨1,0,zZ s.P,zD s.P,0#64,g.Bin,0,0⟩})
def zak (s:za) (g:zy):za×zy :=
 let r:=zk s.M g.C
 ({s with M:=r.1},if r.2.Out=1 then {g with C:=r.2,Out:=1} else {g with C:=r.2})
def zp (s:za) (g:zy):za×zy :=
 if g.Out≠0∨g.Mode<1∨3<g.Mode∨g.PC<0∨8≤g.PC then (s,g)
 else if g.PC=7 then zak s g
 else if g.PC=6 then zmx s g
 else if g.PC=5 then zgb s g
 else if g.PC=4 then ({s with Flag:=true},zeD s.P g)
 else if g.PC=3 then zf4 s g
 else if g.PC=2 then ({s with Work:=wc (s.Work-1)},{g with Out:=1})
 else if g.PC=1 then zf0 s g
 else ({s with Work:=wc (s.Work+1)},{g with PC:=1})
structure GOk (s:za) (g:zy):Prop where
 mem:s.M.length<4294967296
 bins:s.Bins.length<4294967296
 bin:g.PC=6→0≤g.Bin∧g.Bin<s.Bins.length
 deq:g.PC=3→g.D.Kind=1∧g.D.Cap<1000
theorem ztf {s:za} {g:zy} (ok:GOk s g):zcF s g=some ((zp s g).1,(zp s g).2,()):=by
 rw [znv]
 simp only [zA,yQ]
 unfold zp
 by_cases h0:g.Out=0
 rotate_left
 ·rw [if_neg h0,if_pos (.inl h0)]
 rw [if_pos h0]
 by_cases h1:g.Mode<1
 ·rw [if_pos h1,if_pos (.inr (.inl h1))]
 rw [if_neg h1]
 by_cases h2:3<g.Mode
 ·rw [if_pos h2,if_pos (.inr (.inr (.inl h2)))]
 rw [if_neg h2]
 by_cases h3:g.PC<0
 ·rw [if_pos h3,if_pos (.inr (.inr (.inr (.inl h3))))]
 rw [if_neg h3]
 by_cases h4:8≤g.PC
 ·rw [if_pos h4,if_pos (.inr (.inr (.inr (.inr h4))))]
 rw [if_neg h4,if_neg (show ¬(g.Out≠0∨g.Mode<1∨3<g.Mode∨g.PC<0∨8≤g.PC) by omega)]
 by_cases p7:g.PC=7
 ·rw [if_pos p7,if_pos p7,zbX]
  simp only [zij ok.mem,Option.bind_some,zA]
  by_cases e:(zk s.M g.C).2.Out=1<;>simp [zak,e]
 rw [if_neg p7,if_neg p7]
 by_cases p6:g.PC=6
 ·rw [if_pos p6,if_pos p6,zd3]
  obtain ⟨b1,b2⟩:=ok.bin p6
  simp only [zmF ok.bins,Option.bind_some,Vr (l:=s.Bins) b1 b2,zdQ,zbb,WS]
  rfl
 rw [if_neg p6,if_neg p6]
 by_cases p5:g.PC=5
 ·rw [if_pos p5,if_pos p5,zei]
  simp only [zij ok.mem,Option.bind_some,zA,zh0]
  by_cases e:(zk s.M g.C).2.Out=1
  ·simp [zgb,e]
  ·by_cases e2:(zk s.M g.C).2.Out=2<;>simp [zgb,e,e2]
 rw [if_neg p5,if_neg p5]
 by_cases p4:g.PC=4
 ·rw [if_pos p4,if_pos p4,zec,zh0];rfl
 rw [if_neg p4,if_neg p4]
 by_cases p3:g.PC=3
 ·rw [if_pos p3,if_pos p3,zdY]
  obtain ⟨b1,b2⟩:=ok.deq p3
  simp only [zgc ok.mem b1 b2,Option.bind_some,zA,zh0]
  by_cases e:(yG s.M g.D).2.Out=1
  ·simp [zf4,e]
  ·by_cases e2:(yG s.M g.D).2.Out=3<;>simp [zf4,e,e2]
 rw [if_neg p3,if_neg p3]
 by_cases p2:g.PC=2
 ·rw [if_pos p2,if_pos p2,zdR,um];rfl
 rw [if_neg p2,if_neg p2]
 by_cases p1:g.PC=1
 ·rw [if_pos p1,if_pos p1,zed]
  simp only [zsw,Option.bind_some,zA,zh0,zcK,WO]
  unfold zf0
  cases hs:(ui s.T g.Obj).2 with
  | false=>simp [hs]
  | true =>
   by_cases m1:g.Mode=1
   ·simp [hs,m1]
   ·by_cases m2:g.Mode=2<;>simp [hs,m1,m2]
 rw [if_neg p1,if_neg p1,if_pos (show g.PC=0 by omega),zb9,um];rfl
end
end Go.Pe.G
namespace Go.Pe.G
open Go.Pe
noncomputable section
theorem vg {b k:Int} (h:0≤b) (hk:0<k):0≤b.tmod k∧b.tmod k<k:=by
 rw [Int.tmod_eq_emod_of_nonneg h];exact ⟨Int.emod_nonneg _ (by omega),Int.emod_lt_of_pos _ hk⟩
def zeK (o:zj) (regs slots:Int):Prop:=(0≤o.R∧o.R<regs) ∧
 ((o.Kind=1∨o.Kind=2)∧(0≤o.A∧o.A<regs)∧(0≤o.S∧o.S<slots)∨o.Kind=4∧(0≤o.A∧o.A<regs)∧o.S=0∨(o.Kind=3∨o.Kind=5)∧o.A=0∧o.S=0)
structure zE (p:zb):Prop where
 wk:1≤p.Workers∧p.Workers≤3
 mt:0≤p.Mutators∧p.Mutators≤2
 cap:1≤p.Cap∧p.Cap≤3
 buf:1≤p.Buf∧p.Buf≤2
 bin:1≤p.Bin∧p.Bin≤3
 price:0≤p.Price∧p.Price≤3
 limit:0≤p.Limit∧p.Limit≤3
 slots:1≤p.H.Slots∧p.H.Slots≤2
 n:1≤(p.H.Objs.length:Int)∧(p.H.Objs.length:Int)≤6
 objs: ∀o∈p.H.Objs,(o.length:Int)=p.H.Slots∧∀v∈o,0≤v∧v≤(p.H.Objs.length:Int)
 most:(p.H.Objs.length:Int)≤p.Most∧p.Most≤(p.H.Objs.length:Int)+3
 roots: ∃r,0≤r∧r≤(p.H.Objs.length:Int)∧p.Roots=bit r
 regs:(p.Regs.length:Int)=p.Mutators
 progs:(p.Progs.length:Int)=p.Mutators
 reg: ∀r∈p.Regs,(1≤(r.length:Int)∧(r.length:Int)≤3)∧∀v∈r,0≤v∧v≤(p.H.Objs.length:Int)
 prog: ∀(k:Nat) r ops,p.Regs[k]? =some r→p.Progs[k]? =some ops→(ops.length:Int)≤7∧∀o∈ops,zeK o (r.length:Int) p.H.Slots
 picks:p.Picks=[]
end
end Go.Pe.G
namespace Go.Pe.G
open Go.Pe
noncomputable section
namespace B15
def Xu (m:zG):Prop:=0≤m.At∧m.At≤m.L.length∧m.L.length≤90
theorem vW {m:zG} (h:Xu m): ∃b m',zx m=some (b,m',())∧(0≤b∧b<256)∧Xu m':=by
 obtain ⟨h1,h2,h3⟩:=h
 rw [zbK,zA]
 by_cases h:(m.L.length:Int)≤m.At
 ·rw [if_pos h];exact ⟨_,_,rfl,by omega,h1,h2,h3⟩
 ·rw [if_neg h,yU (a:=m.At+1) (by omega) (by omega),yU (by omega) (by omega),Vj (by omega),List.getElem?_eq_getElem (by omega),Option.bind_some]
  exact ⟨_,_,rfl,by have:=(m.L[(m.At+1-1).toNat]'(by omega)).isLt;omega,show 0≤m.At+1 by omega,show m.At+1≤m.L.length by omega,h3⟩
theorem zxk {m:zG} (h:Xu m) {regs slots:Int} (hr:1≤regs) (hs:1≤slots): ∃o m',YP regs slots m=some (o,m',())∧zeK o regs slots∧Xu m':=by
 obtain ⟨b1,m1,e1,r1,k1⟩:=vW h
 obtain ⟨b2,m2,e2,r2,k2⟩:=vW k1
 obtain ⟨b3,m3,e3,r3,k3⟩:=vW k2
 obtain ⟨b4,m4,e4,r4,k4⟩:=vW k3
 have t1:=vg r1.1 (show (0:Int)<8 by omega)
 have t2:=vg r2.1 (show (0:Int)<regs by omega)
 have t3:=vg r3.1 (show (0:Int)<regs by omega)
 have t4:=vg r4.1 (show (0:Int)<slots by omega)
 have t5:=vg r3.1 (show (0:Int)<slots by omega)
 have hn: ¬regs=0:=by omega
 have hn2: ¬slots=0:=by omega
 rw [zdc,e1,Option.bind_some,Vr t1.1 (by simpa using t1.2),Option.bind_some]
 have hx:b1.tmod 8=0∨b1.tmod 8=1∨b1.tmod 8=2∨b1.tmod 8=3∨b1.tmod 8=4∨b1.tmod 8=5∨b1.tmod 8=6∨b1.tmod 8=7:=by omega
 rcases hx with hx | hx | hx | hx | hx | hx | hx | hx<;>simp [hx,e2,e3,e4,hn,hn2]<;>refine ⟨_,_,⟨rfl,rfl⟩,?_,by assumption⟩<;>(unfold zeK;dsimp only;omega)
theorem zvr {s1:Int} {s2:Int} {s4:Int} {s5:Int} {s6:Int} {s7:Int} {s8:Int} {s9:Int} {s10:Int} {s11:Int} {s12:Int} {s13:BitVec 64} {s15:Int} {s16:Int} {s17:Int} {s18:Int} {s19:Int} {s20:Int} {s21:Int} {s22:Int} {s23:Int} {s24:BitVec 64} {s26:List (List Int)} {s27:List (List Int)} {s28:List (List zj)} {s29:List zm} {s30:List (List Int)} {s31:List (List Int)} {s32:List (List zj)} {s33:List zm} (hn:1≤s1∧s1≤6) (hs:1≤s23∧s23≤2) {mk:zG} (hm:Xu mk) :
  ∃mk' l,yP ZU (s1,s2,0,s4,s5,s6,s7,s8,s9,s10,s11,s12,s13,mk,s15,s16,s17,s18,s19,s20,s21,s22,s23,s24,[],s26,s27,s28,s29,s30,s31,s32,s33,())=some (.brk (s1,s2,s4,s5,s6,s7,s8,s9,s10,s11,s12,s13,mk',s15,s16,s17,s18,s19,s20,s21,s22,s23,s24,l,s26,s27,s28,s29,s30,s31,s32,s33,()))∧Xu mk'∧(l.length:Int)=s23∧∀v∈l,0≤v∧v≤s1:=by
 refine (Zf (f:=ZU)
  (fun a=>∃i mk l,a=(s1,s2,i,s4,s5,s6,s7,s8,s9,s10,s11,s12,s13,mk,s15,s16,s17,s18,s19,s20,s21,s22,s23,s24,l,s26,s27,s28,s29,s30,s31,s32,s33,())∧Xu mk∧(0≤i∧i≤s23∧(l.length:Int)=i)∧∀v∈l,0≤v∧v≤s1)
  (fun a=>(s23-a.2.2.1).toNat)
  (fun o=>match o with | .brk b=>∃mk l,b=(s1,s2,s4,s5,s6,s7,s8,s9,s10,s11,s12,s13,mk,s15,s16,s17,s18,s19,s20,s21,s22,s23,s24,l,s26,s27,s28,s29,s30,s31,s32,s33,())∧Xu mk∧(l.length:Int)=s23∧∀v∈l,0≤v∧v≤s1 | _=>False) ?_
  (s1,s2,0,s4,s5,s6,s7,s8,s9,s10,s11,s12,s13,mk,s15,s16,s17,s18,s19,s20,s21,s22,s23,s24,[],s26,s27,s28,s29,s30,s31,s32,s33,()) ⟨0,mk,[],rfl,hm,by simp;omega,by simp⟩ (wU (by simp;omega))).elim fun o h=> ?_
 rotate_left
 ·obtain ⟨ho,hq⟩:=h
  cases o with
  | again a=>exact hq.elim
  | ret a=>exact hq.elim
  | brk b =>
   obtain ⟨mk',l,rfl,h1,h2,h3⟩:=hq
   exact ⟨mk',l,ho,h1,h2,h3⟩
 ·rintro _ ⟨i,mk,l,rfl,h1,h2,h3⟩
  rw [zeW,zA]
  by_cases hi:i<s23
  ·rw [if_pos hi]
   obtain ⟨b,mk',e,r,k⟩:=vW h1
   have w1:w64 (s1+1)=s1+1:=yU (by omega) (by omega)
   have t:=vg r.1 (show 0<s1+1 by omega)
   rw [e,Option.bind_some,w1,zA,if_neg (by omega),uj (by simp;omega),Option.bind_some,yU (a:=i+1) (by omega) (by omega)]
   refine ⟨_,rfl,⟨i+1,mk',l++[b.tmod (s1+1)],rfl,k,by simp;omega,fun v hv=> ?_⟩,?_⟩
   ·rcases List.mem_append.1 hv with hv | hv
    ·exact h3 v hv
    ·simp at hv;omega
   ·show (s23-(i+1)).toNat<(s23-i).toNat
    omega
  ·rw [if_neg hi]
   exact ⟨_,rfl,mk,l,rfl,h1,by omega,h3⟩
theorem zvS {s1:Int} {s3:Int} {s4:Int} {s5:Int} {s6:Int} {s7:Int} {s8:Int} {s9:Int} {s10:Int} {s11:Int} {s12:BitVec 64} {s14:Int} {s15:Int} {s16:Int} {s17:Int} {s18:Int} {s19:Int} {s20:Int} {s21:Int} {s22:Int} {s23:BitVec 64} {s24:List (List Int)} {s25:List (List Int)} {s26:List (List zj)} {s27:List zm} {s29:List (List Int)} {s30:List (List zj)} {s31:List zm} (hn:1≤s1∧s1≤6) (hs:1≤s22∧s22≤2) {mk:zG} (hm:Xu mk) :
  ∃mk' l,yP YA (s1,0,s3,s4,s5,s6,s7,s8,s9,s10,s11,s12,mk,s14,s15,s16,s17,s18,s19,s20,s21,s22,s23,s24,s25,s26,s27,[],s29,s30,s31,())=some (.brk (s1,s3,s4,s5,s6,s7,s8,s9,s10,s11,s12,mk',s14,s15,s16,s17,s18,s19,s20,s21,s22,s23,s24,s25,s26,s27,l,s29,s30,s31,()))∧Xu mk'∧(l.length:Int)=s1∧∀o∈l,(o.length:Int)=s22∧∀v∈o,0≤v∧v≤s1:=by
 refine (Zf (f:=YA)
  (fun a=>∃i mk l,a=(s1,i,s3,s4,s5,s6,s7,s8,s9,s10,s11,s12,mk,s14,s15,s16,s17,s18,s19,s20,s21,s22,s23,s24,s25,s26,s27,l,s29,s30,s31,())∧Xu mk∧(0≤i∧i≤s1∧(l.length:Int)=i)∧∀o∈l,(o.length:Int)=s22∧∀v∈o,0≤v∧v≤s1)
  (fun a=>(s1-a.2.1).toNat)
  (fun o=>match o with | .brk b=>∃mk l,b=(s1,s3,s4,s5,s6,s7,s8,s9,s10,s11,s12,mk,s14,s15,s16,s17,s18,s19,s20,s21,s22,s23,s24,s25,s26,s27,l,s29,s30,s31,())∧Xu mk∧(l.length:Int)=s1∧∀o∈l,(o.length:Int)=s22∧∀v∈o,0≤v∧v≤s1 | _=>False) ?_
  (s1,0,s3,s4,s5,s6,s7,s8,s9,s10,s11,s12,mk,s14,s15,s16,s17,s18,s19,s20,s21,s22,s23,s24,s25,s26,s27,[],s29,s30,s31,()) ⟨0,mk,[],rfl,hm,by simp;omega,by simp⟩ (wU (by simp;omega))).elim fun o h=> ?_
 rotate_left
 ·obtain ⟨ho,hq⟩:=h
  cases o with
  | again a=>exact hq.elim
  | ret a=>exact hq.elim
  | brk b =>
   obtain ⟨mk',l,rfl,h1,h2,h3⟩:=hq
   exact ⟨mk',l,ho,h1,h2,h3⟩
 ·rintro _ ⟨i,mk,l,rfl,h1,h2,h3⟩
  rw [zfO,zA]
  by_cases hi:i<s1
  ·rw [if_pos hi]
   obtain ⟨mk',o,e,g1,g2,g3⟩:=zvr hn hs h1
   rw [e]
   simp only [Option.bind_some]
   rw [uj (by simp;omega),Option.bind_some,yU (a:=i+1) (by omega) (by omega)]
   refine ⟨_,rfl,⟨i+1,mk',l++[o],rfl,g1,by simp;omega,fun v hv=> ?_⟩,?_⟩
   ·rcases List.mem_append.1 hv with hv | hv
    ·exact h3 v hv
    ·simp at hv;subst hv;exact ⟨g2,g3⟩
   ·show (s1-(i+1)).toNat<(s1-i).toNat
    omega
  ·rw [if_neg hi]
   exact ⟨_,rfl,mk,l,rfl,h1,by omega,h3⟩
theorem zvf {s1:Int} {s2:Int} {s4:Int} {s5:Int} {s6:Int} {s7:Int} {s8:Int} {s9:Int} {s10:Int} {s11:Int} {s12:Int} {s13:BitVec 64} {s15:Int} {s16:Int} {s17:Int} {s18:Int} {s19:Int} {s20:Int} {s21:Int} {s22:Int} {s23:Int} {s24:BitVec 64} {s26:List (List Int)} {s27:List (List Int)} {s28:List (List zj)} {s29:List zm} {s30:List (List Int)} {s31:List (List Int)} {s32:List (List zj)} {s33:List zm} (hn:1≤s1∧s1≤6) {mk:zG} (hm:Xu mk) :
  ∃mk' l,yP ZV (s1,s2,0,s4,s5,s6,s7,s8,s9,s10,s11,s12,s13,mk,s15,s16,s17,s18,s19,s20,s21,s22,s23,s24,[],s26,s27,s28,s29,s30,s31,s32,s33,())=some (.brk (s1,s2,s4,s5,s6,s7,s8,s9,s10,s11,s12,s13,mk',s15,s16,s17,s18,s19,s20,s21,s22,s23,s24,l,s26,s27,s28,s29,s30,s31,s32,s33,()))∧Xu mk'∧(1≤(l.length:Int)∧(l.length:Int)≤3)∧∀v∈l,0≤v∧v≤s1:=by
 refine (Zf (f:=ZV)
  (fun a=>∃i mk l,a=(s1,s2,i,s4,s5,s6,s7,s8,s9,s10,s11,s12,s13,mk,s15,s16,s17,s18,s19,s20,s21,s22,s23,s24,l,s26,s27,s28,s29,s30,s31,s32,s33,())∧Xu mk∧(0≤i∧i≤3∧(l.length:Int)=i)∧∀v∈l,0≤v∧v≤s1)
  (fun a=>(3-a.2.2.1).toNat)
  (fun o=>match o with | .brk b=>∃mk l,b=(s1,s2,s4,s5,s6,s7,s8,s9,s10,s11,s12,s13,mk,s15,s16,s17,s18,s19,s20,s21,s22,s23,s24,l,s26,s27,s28,s29,s30,s31,s32,s33,())∧Xu mk∧(1≤(l.length:Int)∧(l.length:Int)≤3)∧∀v∈l,0≤v∧v≤s1 | _=>False) ?_
  (s1,s2,0,s4,s5,s6,s7,s8,s9,s10,s11,s12,s13,mk,s15,s16,s17,s18,s19,s20,s21,s22,s23,s24,[],s26,s27,s28,s29,s30,s31,s32,s33,()) ⟨0,mk,[],rfl,hm,by simp,by simp⟩ (wU (by simp))).elim fun o h=> ?_
 rotate_left
 ·obtain ⟨ho,hq⟩:=h
  cases o with
  | again a=>exact hq.elim
  | ret a=>exact hq.elim
  | brk b =>
   obtain ⟨mk',l,rfl,h1,h2,h3⟩:=hq
   exact ⟨mk',l,ho,h1,h2,h3⟩
 ·rintro _ ⟨i,mk,l,rfl,h1,h2,h3⟩
  obtain ⟨b0,mk0,e0,r0,k0⟩:=vW h1
  have t0:=vg r0.1 (show (0:Int)<3 by omega)
  rw [zeL,e0,Option.bind_some,zA,yU (a:=1+b0.tmod 3) (by omega) (by omega)]
  by_cases hi:i<1+b0.tmod 3
  ·rw [if_pos hi]
   obtain ⟨b,mk',e,r,k⟩:=vW k0
   have w1:w64 (s1+1)=s1+1:=yU (by omega) (by omega)
   have t:=vg r.1 (show 0<s1+1 by omega)
   rw [e,Option.bind_some,w1,zA,if_neg (by omega),uj (by simp;omega),Option.bind_some,yU (a:=i+1) (by omega) (by omega)]
   refine ⟨_,rfl,⟨i+1,mk',l++[b.tmod (s1+1)],rfl,k,by simp;omega,fun v hv=> ?_⟩,?_⟩
   ·rcases List.mem_append.1 hv with hv | hv
    ·exact h3 v hv
    ·simp at hv;omega
   ·show (3-(i+1)).toNat<(3-i).toNat
    omega
  ·rw [if_neg hi]
   exact ⟨_,rfl,mk0,l,rfl,k0,by omega,h3⟩
theorem zuA {s1:Int} {s2:Int} {s4:Int} {s5:Int} {s6:Int} {s7:Int} {s8:Int} {s9:Int} {s10:Int} {s11:Int} {s12:Int} {s13:BitVec 64} {s15:Int} {s16:Int} {s17:Int} {s18:Int} {s19:Int} {s20:Int} {s21:Int} {s22:Int} {s23:Int} {s24:BitVec 64} {s25:List Int} {s27:List (List Int)} {s28:List (List Int)} {s29:List (List zj)} {s30:List zm} {s31:List (List Int)} {s32:List (List Int)} {s33:List (List zj)} {s34:List zm} (hr:1≤(s25.length:Int)) (hs:1≤s23∧s23≤2) {k0:Int} (hk:0≤k0∧k0<8) {mk:zG} (hm:Xu mk) :
  ∃mk' l,yP uB (s1,s2,k0,s4,s5,s6,s7,s8,s9,s10,s11,s12,s13,mk,s15,s16,s17,s18,s19,s20,s21,s22,s23,s24,s25,[],s27,s28,s29,s30,s31,s32,s33,s34,())=some (.brk (s1,s2,s4,s5,s6,s7,s8,s9,s10,s11,s12,s13,mk',s15,s16,s17,s18,s19,s20,s21,s22,s23,s24,s25,l,s27,s28,s29,s30,s31,s32,s33,s34,()))∧Xu mk'∧(l.length:Int)≤7∧∀o∈l,zeK o (s25.length:Int) s23:=by
 refine (Zf (f:=uB)
  (fun a=>∃i mk l,a=(s1,s2,i,s4,s5,s6,s7,s8,s9,s10,s11,s12,s13,mk,s15,s16,s17,s18,s19,s20,s21,s22,s23,s24,s25,l,s27,s28,s29,s30,s31,s32,s33,s34,())∧Xu mk∧(0≤i∧(l.length:Int)+i≤7)∧∀o∈l,zeK o (s25.length:Int) s23)
  (fun a=>(a.2.2.1).toNat)
  (fun o=>match o with | .brk b=>∃mk l,b=(s1,s2,s4,s5,s6,s7,s8,s9,s10,s11,s12,s13,mk,s15,s16,s17,s18,s19,s20,s21,s22,s23,s24,s25,l,s27,s28,s29,s30,s31,s32,s33,s34,())∧Xu mk∧(l.length:Int)≤7∧∀o∈l,zeK o (s25.length:Int) s23 | _=>False) ?_
  (s1,s2,k0,s4,s5,s6,s7,s8,s9,s10,s11,s12,s13,mk,s15,s16,s17,s18,s19,s20,s21,s22,s23,s24,s25,[],s27,s28,s29,s30,s31,s32,s33,s34,()) ⟨k0,mk,[],rfl,hm,by simp;omega,by simp⟩ (wU (by simp;omega))).elim fun o h=> ?_
 rotate_left
 ·obtain ⟨ho,hq⟩:=h
  cases o with
  | again a=>exact hq.elim
  | ret a=>exact hq.elim
  | brk b =>
   obtain ⟨mk',l,rfl,h1,h2,h3⟩:=hq
   exact ⟨mk',l,ho,h1,h2,h3⟩
 ·rintro _ ⟨i,mk,l,rfl,h1,h2,h3⟩
  rw [zfr,zA]
  by_cases hi:0<i
  ·rw [if_pos hi]
   obtain ⟨o,mk',e,r,k⟩:=zxk h1 hr hs.1
   rw [e,Option.bind_some,uj (by simp;omega),Option.bind_some,yU (a:=i-1) (by omega) (by omega)]
   refine ⟨_,rfl,⟨i-1,mk',l++[o],rfl,k,by simp;omega,fun v hv=> ?_⟩,?_⟩
   ·rcases List.mem_append.1 hv with hv | hv
    ·exact h3 v hv
    ·simp at hv;subst hv;exact r
   ·show (i-1).toNat<i.toNat
    omega
  ·rw [if_neg hi]
   exact ⟨_,rfl,mk,l,rfl,h1,by omega,h3⟩
theorem zvs {s1:Int} {s3:Int} {s4:Int} {s5:Int} {s6:Int} {s7:Int} {s8:Int} {s9:Int} {s10:Int} {s11:Int} {s12:BitVec 64} {s14:Int} {s15:Int} {s16:Int} {s17:Int} {s18:Int} {s19:Int} {s20:Int} {s21:Int} {s22:Int} {s23:BitVec 64} {s24:List (List Int)} {s25:List (List Int)} {s26:List (List zj)} {s27:List zm} {s28:List (List Int)} {s31:List zm} (hn:1≤s1∧s1≤6) (hm0:0≤s15∧s15≤2) (hs:1≤s22∧s22≤2) {mk:zG} (hm:Xu mk) :
  ∃regs progs,yP ZX (s1,0,s3,s4,s5,s6,s7,s8,s9,s10,s11,s12,mk,s14,s15,s16,s17,s18,s19,s20,s21,s22,s23,s24,s25,s26,s27,s28,[],[],s31,())=some (.brk (s3,s4,s5,s6,s7,s8,s9,s10,s11,s12,s14,s15,s16,s17,s18,s19,s20,s21,s22,s23,s24,s25,s26,s27,s28,regs,progs,s31,()))∧(regs.length:Int)=s15∧(regs.length=progs.length)∧(∀r∈regs,(1≤(r.length:Int)∧(r.length:Int)≤3)∧∀v∈r,0≤v∧v≤s1)∧∀(k:Nat) r ops,regs[k]? =some r→progs[k]? =some ops→(ops.length:Int)≤7∧∀o∈ops,zeK o (r.length:Int) s22:=by
 refine (Zf (f:=ZX)
  (fun a=>∃i mk regs progs,a=(s1,i,s3,s4,s5,s6,s7,s8,s9,s10,s11,s12,mk,s14,s15,s16,s17,s18,s19,s20,s21,s22,s23,s24,s25,s26,s27,s28,regs,progs,s31,())∧Xu mk∧(0≤i∧i≤s15∧(regs.length:Int)=i)∧(regs.length=progs.length)∧(∀r∈regs,(1≤(r.length:Int)∧(r.length:Int)≤3)∧∀v∈r,0≤v∧v≤s1)∧∀(k:Nat) r ops,regs[k]? =some r→progs[k]? =some ops→(ops.length:Int)≤7∧∀o∈ops,zeK o (r.length:Int) s22)
  (fun a=>(s15-a.2.1).toNat)
  (fun o=>match o with | .brk b=>∃regs progs,b=(s3,s4,s5,s6,s7,s8,s9,s10,s11,s12,s14,s15,s16,s17,s18,s19,s20,s21,s22,s23,s24,s25,s26,s27,s28,regs,progs,s31,())∧(regs.length:Int)=s15∧(regs.length=progs.length)∧(∀r∈regs,(1≤(r.length:Int)∧(r.length:Int)≤3)∧∀v∈r,0≤v∧v≤s1)∧∀(k:Nat) r ops,regs[k]? =some r→progs[k]? =some ops→(ops.length:Int)≤7∧∀o∈ops,zeK o (r.length:Int) s22 | _=>False) ?_
  (s1,0,s3,s4,s5,s6,s7,s8,s9,s10,s11,s12,mk,s14,s15,s16,s17,s18,s19,s20,s21,s22,s23,s24,s25,s26,s27,s28,[],[],s31,()) ⟨0,mk,[],[],rfl,hm,by simp;omega,rfl,by simp,by simp⟩ (wU (by simp;omega))).elim fun o h=> ?_
 rotate_left
 ·obtain ⟨ho,hq⟩:=h
  cases o with
  | again a=>exact hq.elim
  | ret a=>exact hq.elim
  | brk b =>
   obtain ⟨regs,progs,rfl,h⟩:=hq
   exact ⟨regs,progs,ho,h⟩
 ·rintro _ ⟨i,mk,regs,progs,rfl,h1,h2,h3,h4,h5⟩
  rw [zfB,zA]
  by_cases hi:i<s15
  ·rw [if_pos hi]
   obtain ⟨mk1,r,e,g1,g2,g3⟩:=zvf hn h1
   rw [e]
   simp only [Option.bind_some]
   rw [zA,if_neg (by omega)]
   obtain ⟨b,mk2,e2,r2,k2⟩:=vW g1
   rw [e2,Option.bind_some]
   obtain ⟨mk3,ops,e3,f1,f2,f3⟩:=zuA (s25:=r) g2.1 hs (vg r2.1 (show (0:Int)<8 by omega)) k2
   rw [e3]
   simp only [Option.bind_some]
   rw [uj (by simp;omega),Option.bind_some,uj (by simp;omega),Option.bind_some,yU (a:=i+1) (by omega) (by omega)]
   refine ⟨_,rfl,⟨i+1,mk3,regs++[r],progs++[ops],rfl,f1,by simp;omega,by simp [h3],fun v hv=> ?_,fun k r' ops' hk1 hk2=> ?_⟩,?_⟩
   ·rcases List.mem_append.1 hv with hv | hv
    ·exact h4 v hv
    ·simp at hv;subst hv;exact ⟨g2,g3⟩
   ·rcases Nat.lt_or_ge k regs.length with hlt | hge
    ·rw [List.getElem?_append_left hlt] at hk1
     rw [List.getElem?_append_left (by omega)] at hk2
     exact h5 k r' ops' hk1 hk2
    ·rw [List.getElem?_append_right hge] at hk1
     rw [List.getElem?_append_right (by omega),←h3] at hk2
     have hk0:k-regs.length=0:=by
      have:=(List.getElem?_eq_some_iff.1 hk1).1
      simpa using this
     rw [hk0] at hk1 hk2
     simp at hk1 hk2
     subst hk1;subst hk2
     exact ⟨f2,f3⟩
   ·show (s15-(i+1)).toNat<(s15-i).toNat
    omega
  ·rw [if_neg hi]
   exact ⟨_,rfl,regs,progs,rfl,by omega,h3,h4,h5⟩
theorem zvH (l:List (BitVec 8)): ∃p,UI l=some (p,())∧zE p:=by
 rw [zib,zA]
 obtain ⟨m,em,hl⟩: ∃m,cut l 0 (if 90<(l.length:Int) then 90 else (l.length:Int))=some m∧m.length≤90:=by
  unfold cut
  by_cases h:90<(l.length:Int)
  ·have h2:(90:Int)≤l.length:=by omega
   rw [if_pos h];exact ⟨l.take 90,by simp [h2],List.length_take_le _ _⟩
  ·rw [if_neg h];exact ⟨l,by simp,by omega⟩
 rw [em,Option.bind_some]
 obtain ⟨b1,m1,e1,r1,k1⟩:=vW (m:=⟨m,0⟩) ⟨by simp,by simp,hl⟩
 obtain ⟨b2,m2,e2,r2,k2⟩:=vW k1
 obtain ⟨b3,m3,e3,r3,k3⟩:=vW k2
 obtain ⟨b4,m4,e4,r4,k4⟩:=vW k3
 obtain ⟨b5,m5,e5,r5,k5⟩:=vW k4
 obtain ⟨b6,m6,e6,r6,k6⟩:=vW k5
 obtain ⟨b7,m7,e7,r7,k7⟩:=vW k6
 obtain ⟨b8,m8,e8,r8,k8⟩:=vW k7
 obtain ⟨b9,m9,e9,r9,k9⟩:=vW k8
 obtain ⟨b10,m10,e10,r10,k10⟩:=vW k9
 simp only [e1,e2,e3,e4,e5,e6,e7,e8,e9,e10,Option.bind_some]
 have t1:=vg r1.1 (show (0:Int)<3 by omega)
 have t2:=vg r2.1 (show (0:Int)<3 by omega)
 have t3:=vg r3.1 (show (0:Int)<3 by omega)
 have t4:=vg r4.1 (show (0:Int)<2 by omega)
 have t5:=vg r5.1 (show (0:Int)<3 by omega)
 have t6:=vg r6.1 (show (0:Int)<4 by omega)
 have t7:=vg r7.1 (show (0:Int)<4 by omega)
 have t8:=vg r8.1 (show (0:Int)<2 by omega)
 have t9:=vg r9.1 (show (0:Int)<6 by omega)
 have t10:=vg r10.1 (show (0:Int)<4 by omega)
 rw [yU (a:=1+b9.tmod 6) (by omega) (by omega),yU (a:=1+b1.tmod 3) (by omega) (by omega),yU (a:=1+b3.tmod 3) (by omega) (by omega),yU (a:=1+b4.tmod 2) (by omega) (by omega),yU (a:=1+b5.tmod 3) (by omega) (by omega),
  yU (a:=1+b9.tmod 6+b10.tmod 4) (by omega) (by omega),yU (a:=1+b8.tmod 2) (by omega) (by omega)]
 obtain ⟨m11,objs,e11,g1,g2,g3⟩:=zvS (s1:=1+b9.tmod 6) (s22:=1+b8.tmod 2) (by omega) (by omega) k10
 rw [e11]
 simp only [Option.bind_some]
 obtain ⟨b12,m12,e12,r12,k12⟩:=vW g1
 rw [e12,Option.bind_some,yU (a:=1+b9.tmod 6+1) (by omega) (by omega),zA,if_neg (by omega)]
 have t12:=vg r12.1 (show (0:Int)<1+b9.tmod 6+1 by omega)
 rw [zkk,Option.bind_some]
 obtain ⟨regs,progs,e13,f1,f2,f3,f4⟩:=zvs (s1:=1+b9.tmod 6) (s15:=b2.tmod 3) (s22:=1+b8.tmod 2) (by omega) (by omega) (by omega) k12
 rw [e13]
 simp only [Option.bind_some]
 refine ⟨_,rfl,?_⟩
 constructor<;>dsimp only
 case objs=>intro o ho;rw [g2];exact g3 o ho
 case roots=>exact ⟨b12.tmod (1+b9.tmod 6+1),by omega,by omega,by simp⟩
 case reg=>rw [g2];exact f3
 case prog=>exact f4
 all_goals first | omega | rfl
end B15
end
end Go.Pe.G
namespace Go.Pe.G
open Go.Pe
noncomputable section
theorem Uq {α β B C:Type} {f:List α×Int×Int×β→Option (xM (List α×Int×Int×β) B C)} {l:List α} {e:β} {b:B} (hl:l.length<1000000)
  (h1: ∀(i:Nat) (x:α),l[i]? =some x→f (l,(l.length:Int),(i:Int),e)=some (.again (l,(l.length:Int),((i+1:Nat):Int),e)))
  (h2:f (l,(l.length:Int),(l.length:Int),e)=some (.brk b)):yP f (l,(l.length:Int),0,e)=some (.brk b):=by
 refine (Zf (f:=f) (fun a=>∃i:Nat,a=(l,(l.length:Int),(i:Int),e)∧i≤l.length) (fun a=>l.length-a.2.2.1.toNat) (fun o=>o= .brk b) ?_ (l,(l.length:Int),0,e) ⟨0,rfl,by omega⟩ (wU (by simp;omega))).elim fun o h=> ?_
 rotate_left
 ·rw [h.1,h.2]
 ·rintro _ ⟨i,rfl,hi⟩
  rcases Nat.lt_or_ge i l.length with hlt | hge
  ·refine ⟨_,h1 i _ (List.getElem?_eq_getElem hlt),⟨i+1,rfl,hlt⟩,?_⟩
   show l.length-((i+1:Nat):Int).toNat<l.length-(i:Int).toNat
   omega
  ·have:i=l.length:=by omega
   subst this
   exact ⟨_,h2,rfl⟩
theorem wI {α:Type} {l:List α} {i:Nat} {x:α} (h:l[i]? =some x):idx l (i:Int)=some x:=by
 rw [Vj (by omega)];simpa using h
theorem uh {α:Type} {l:List α} {i:Nat} {x:α} (h:l[i]? =some x):(i:Int)<(l.length:Int):=by
 have:=(List.getElem?_eq_some_iff.1 h).1;omega
theorem xn {i:Nat} (h:i<1000000):w64 ((i:Int)+1)=((i+1:Nat):Int):=by
 rw [yU (by omega) (by omega)];omega
theorem zcH (a b c:Int):vQ a b c=some (decide (b≤a∧a≤c),()):=by
 rw [zlL,zA]
 by_cases h:b≤a
 ·rw [if_pos h];simp [h]
 ·rw [if_neg h];simp [h]
theorem zss {l:List Int} {h:zC} (hl:l.length<1000000) (hv: ∀v∈l,0≤v∧v≤(h.Objs.length:Int)):xT l h=some (false,()):=by
 rw [Yi,Y3,Uq (b:=()) hl (fun i x hx=> ?_) (by rw [vl];simp)]
 ·rfl
 ·have hm:=hv x (List.mem_of_getElem? hx)
  have hlt:=uh hx
  rw [vl,zA,if_pos hlt,wI hx,Option.bind_some,ziZ,zA,if_neg (show ¬x<0 by omega),Option.bind_some,xn (by omega)]
  simp [show ¬(h.Objs.length:Int)<x by omega]
theorem zty {l:List Int} {n:Int} (hl:l.length<1000000) (hv: ∀v∈l,0≤v∧v≤n):wi l n=some (false,()):=by
 rw [YJ,Xn,Uq (b:=()) hl (fun i x hx=> ?_) (by rw [vw];simp)]
 ·rfl
 ·have hm:=hv x (List.mem_of_getElem? hx)
  have hlt:=uh hx
  rw [vw,wI hx,Option.bind_some,zkC,zcH,Option.bind_some,Option.bind_some,xn (by omega),zA,if_pos hlt]
  simp [hm]
theorem ztU {l:List (List Int)} {h:zC} (hl:l.length<1000000) (hs:h.Slots<1000000) (hv: ∀o∈l,(o.length:Int)=h.Slots∧∀v∈o,0≤v∧v≤(h.Objs.length:Int)):xR l h=some (false,()):=by
 rw [Yf,YV,Uq (b:=()) hl (fun i x hx=> ?_) (by rw [vj];simp)]
 ·rfl
 ·have hm:=hv x (List.mem_of_getElem? hx)
  have hlt:=uh hx
  rw [vj,wI hx,Option.bind_some,zky,yQ,if_pos hm.1,zss (by omega) hm.2,Option.bind_some,Option.bind_some,xn (by omega),zA,if_pos hlt]
  rfl
theorem zl1 {r n:Int} (h:0≤r∧r<n) (h2:n≤4):z5 r n=some (true,()):=by
 rw [zkE,zA,if_pos h.1,zA]
 rw [if_neg (by omega)]
 simp [h.2]
theorem zuM {o:zj} {regs slots:Int} (h:zeK o regs slots) (h2:regs≤4) (h3:slots≤4):zet o regs slots=some (true,()):=by
 obtain ⟨hr,h⟩:=h
 have e1:=zl1 hr h2
 have h4: ¬4<slots:=by omega
 rw [zmj]
 rcases h with ⟨hk | hk,ha,hs⟩ | ⟨hk,ha,hs⟩ | ⟨hk | hk,ha,hs⟩
 ·have e2:=zl1 ha h2
  simp [hk,e1,e2,hs.1,hs.2,h4]
 ·have e2:=zl1 ha h2
  simp [hk,e1,e2,hs.1,hs.2,h4]
 ·have e2:=zl1 ha h2
  simp [hk,e1,e2,hs]
 ·simp [hk,e1,ha,hs]
 ·simp [hk,e1,ha,hs]
theorem zv1 {l:List zj} {regs slots:Int} (hl:(l.length:Int)≤64) (h: ∀o∈l,zeK o regs slots) (h2:regs≤4) (h3:slots≤4):zg2 l regs slots=some (true,()):=by
 rw [znG,zA,if_pos hl,ZA,ZO,Uq (b:=()) (by omega) (fun i x hx=> ?_) (by rw [wE];simp)]
 ·rfl
 ·have hlt:=uh hx
  rw [wE,wI hx,Option.bind_some,zlz,zuM (h x (List.mem_of_getElem? hx)) h2 h3,Option.bind_some,Option.bind_some,xn (by omega),zA,if_pos hlt]
  rfl
theorem ztK (a b:Int):zfj [] a b=some (true,()):=by
 rw [zmA,uW,Zr,Uq (b:=()) (by simp) (fun i x hx=>by simp at hx) (by rw [uX];simp)]
 rfl
def Wr (n:Int):BitVec 64:=if n<1 then 0#64 else 18446744073709551615#64 >>> (64-min n 64).toNat
theorem ztv (n:Int) (h:0≤n):zgK n=some (Wr n,()):=by
 rw [znt,zA]
 unfold Wr
 by_cases h1:n<1
 ·rw [if_pos h1,if_pos h1]
 ·rw [if_neg h1,if_neg h1]
  simp only [zA]
  have e:(if 64<n then (64:Int) else n)=min n 64:=by
   by_cases h2:64<n
   ·rw [if_pos h2];omega
   ·rw [if_neg h2];omega
  rw [e,yU (by omega) (by omega),if_neg (by omega),Nat.min_eq_left (by omega)]
theorem zoP: ∀(r n:Fin 7),r.1≤n.1→bit (r.1:Int)&&& ~~~Wr (n.1:Int)=0#64:=by decide
theorem zkO {p:zb} (h:zE p):p.Roots&&& ~~~Wr (p.H.Objs.length:Int)=0#64:=by
 obtain ⟨r,h1,h2,h3⟩:=h.roots
 have hn:=h.n
 have:=zoP ⟨r.toNat,by omega⟩ ⟨p.H.Objs.length,by omega⟩ (by show r.toNat≤p.H.Objs.length;omega)
 rw [h3]
 simpa [Int.toNat_of_nonneg h1] using this
theorem zs3 {p:zb} (h:zE p):UN p=some (true,()):=by
 obtain ⟨h1,h2,h3,h4,h5,h6,h7,_⟩:=h
 rw [ziu]
 simp only [zcH,Option.bind_some,zA]
 rw [if_pos (by omega),if_pos (by omega),if_pos (by omega),if_pos (by omega),if_pos (by omega),if_pos (by split<;>omega)]
 have:(if p.Price<p.Limit then p.Limit else p.Price)≤1000000:=by split<;>omega
 simp [this]
theorem zsG {p:zb} (h:zE p):ze9 p.H=some (true,()):=by
 have:=h.slots
 have:=h.n
 rw [zmv,zA,if_pos (by omega),zA,if_pos (by omega),zA,if_pos (by omega),ztU (by omega) (by omega) h.objs]
 rfl
theorem zsJ {p:zb} (h:zE p):zfa p=some (true,()):=by
 have hn:=h.n
 have hm:=h.most
 have hsl:=h.slots
 have hmt:=h.mt
 have hrl:=h.regs
 have hpl:=h.progs
 rw [zm6,zs3 h]
 simp only [Option.bind_some,Bool.not_true,cond_false,zsG h,zcH]
 rw [show decide ((p.H.Objs.length:Int)≤p.Most∧p.Most≤64)=true by simp;omega]
 simp only [Bool.not_true,cond_false,ztv _ (show (0:Int)≤(p.H.Objs.length:Int) by omega),Option.bind_some,znR,zkO h,decide_true,yQ,if_pos h.regs,if_pos h.progs]
 rw [Uq (b:=(p,())) (by omega) (fun i x hx=> ?_) (by rw [zdf];simp)]
 ·simp [h.picks,ztK]
 ·have hlt:=uh hx
  have hr:=h.reg x (List.mem_of_getElem? hx)
  obtain ⟨ops,hops⟩: ∃ops,p.Progs[i]? =some ops:=⟨_,List.getElem?_eq_getElem (by omega)⟩
  obtain ⟨o1,o2⟩:=h.prog i x ops hx hops
  rw [zdf,zA,if_pos hlt,wI hx]
  simp only [Option.bind_some,zcH]
  rw [show decide (1≤(x.length:Int)∧(x.length:Int)≤4)=true by simp;omega]
  simp only [Bool.not_true,cond_false,zty (show x.length<1000000 by omega) hr.2,Option.bind_some,wI hops,zv1 (show (ops.length:Int)≤64 by omega) o2 (show (x.length:Int)≤4 by omega) (show p.H.Slots≤4 by omega),xn (show i<1000000 by omega)]
end
end Go.Pe.G
namespace Go.Pe.G
open Go.Pe
noncomputable section
theorem zfo {n:Int} (h:0≤n) (h2:n<4294967296):VX n=some n.toNat:=by rw [zoT];simp [h,h2]
theorem zox {n:Int} (h:0<n) (h2:n<4294967296):zcS n=some n.toNat:=by rw [zmm];simp [h,h2]
def zlV (l:List Int):BitVec 64:=l.foldl (fun s o=>s|||bit o) 0#64
def ZT (p:zb):BitVec 64:=p.Regs.foldl (fun s l=>s|||zlV l) p.Roots
def zw6 (a1:BitVec 64):BitVec 64 :=
 let a:=((a1 >>> 1)&&&6148914691236517205#64)+(a1&&&6148914691236517205#64)
 let b:=((a >>> 2)&&&3689348814741910323#64)+(a&&&3689348814741910323#64)
 let c:=((b >>> 4)+b)&&&1085102592571150095#64
 let d:=c+(c >>> 8)
 let e:=d+(d >>> 16)
 e+(e >>> 32)
def cnt (s:BitVec 64):Int:=(BitVec.ofInt 64 (zw6 s).toInt&&&BitVec.ofInt 64 127).toInt
theorem zt8 (s:BitVec 64):zg5 s=some (cnt s,()):=by
 rw [zn3,zhy,zqL];rfl
theorem zhX {m:List Int} (h:m.length<4294967296):vZ m=some (m,()):=by
 rw [zdh,List.nil_append,uj h,Option.bind_some]
 cases m with
 | nil=>simp [zgv]
 | cons a l=>simp
theorem zwM {l:List Int} (hl:l.length<1000000):zlP l=some (zlV l,()):=by
 rw [zra]
 refine (Zf (f:=zg6) (fun a=>∃i:Nat,a=((l.take i).foldl (fun s o=>s|||bit o) 0#64,l,(l.length:Int),(i:Int),())∧i≤l.length) (fun a=>l.length-a.2.2.2.1.toNat) (fun o=>o= .brk (zlV l,())) ?_ (0#64,l,(l.length:Int),0,()) ⟨0,rfl,by omega⟩ (wU (by simp;omega))).elim fun o h=> ?_
 rotate_left
 ·rw [h.1,h.2];rfl
 ·rintro _ ⟨i,rfl,hi⟩
  rw [znX,zA]
  rcases Nat.lt_or_ge i l.length with hlt | hge
  ·have hx:=List.getElem?_eq_getElem hlt
   rw [if_pos (by omega),wI hx,Option.bind_some,zkk,Option.bind_some,xn (by omega)]
   refine ⟨_,rfl,⟨i+1,?_,hlt⟩,?_⟩
   ·rw [List.take_add_one,hx];simp only [Option.toList_some,List.foldl_append,List.foldl_cons,List.foldl_nil]
   ·show l.length-((i+1:Nat):Int).toNat<l.length-(i:Int).toNat
    omega
  ·rw [if_neg (by omega)]
   have:i=l.length:=by omega
   subst this
   exact ⟨_,rfl,by rw [List.take_length];rfl⟩
theorem zs0 {p:zb} (hl:p.Regs.length<1000000) (hr: ∀r∈p.Regs,r.length<1000000):zfc p=some (ZT p,()):=by
 rw [zmr]
 refine (Zf (f:=zbt) (fun a=>∃i:Nat,a=((p.Regs.take i).foldl (fun s l=>s|||zlV l) p.Roots,p.Regs,(p.Regs.length:Int),(i:Int),())∧i≤p.Regs.length) (fun a=>p.Regs.length-a.2.2.2.1.toNat) (fun o=>o= .brk (ZT p,())) ?_ (p.Roots,p.Regs,(p.Regs.length:Int),0,()) ⟨0,rfl,by omega⟩ (wU (by simp;omega))).elim fun o h=> ?_
 rotate_left
 ·rw [h.1,h.2];rfl
 ·rintro _ ⟨i,rfl,hi⟩
  rw [zi7,zA]
  rcases Nat.lt_or_ge i p.Regs.length with hlt | hge
  ·have hx:=List.getElem?_eq_getElem hlt
   rw [if_pos (by omega),wI hx,Option.bind_some,zwM (hr _ (List.getElem_mem hlt)),Option.bind_some,xn (by omega)]
   refine ⟨_,rfl,⟨i+1,?_,hlt⟩,?_⟩
   ·rw [List.take_add_one,hx];simp only [Option.toList_some,List.foldl_append,List.foldl_cons,List.foldl_nil]
   ·show p.Regs.length-((i+1:Nat):Int).toNat<p.Regs.length-(i:Int).toNat
    omega
  ·rw [if_neg (by omega)]
   have:i=p.Regs.length:=by omega
   subst this
   exact ⟨_,rfl,by rw [List.take_length];rfl⟩
theorem ztA {l:List (List Int)} (hl:l.length<1000000) (h: ∀r∈l,r.length<1000000):wK l=some (l,()):=by
 have key: ∀n:Int,n=(l.length:Int)→yP yM (n,0,l,())=some (.brk (l,())):=by
  rintro _ rfl
  refine (Zf (f:=yM) (fun a=>∃i:Nat,a=((l.length:Int),(i:Int),l,())∧i≤l.length) (fun a=>l.length-a.2.1.toNat) (fun o=>o= .brk (l,())) ?_ ((l.length:Int),0,l,()) ⟨0,rfl,by omega⟩ (wU (by simp;omega))).elim fun o h=> ?_
  rotate_left
  ·rw [h.1,h.2]
  ·rintro _ ⟨i,rfl,hi⟩
   rw [YQ,zA]
   rcases Nat.lt_or_ge i l.length with hlt | hge
   ·have hx:=List.getElem?_eq_getElem hlt
    have hr:=h _ (List.getElem_mem hlt)
    have e:Z2 l (i:Int)=some i:=by rw [Vr (by omega) (by omega)];simp
    rw [if_pos (by omega),e]
    simp only [Option.bind_some]
    rw [hx,Option.bind_some,zhX (by omega),Option.bind_some,xn (by omega)]
    refine ⟨_,rfl,⟨i+1,by simp,hlt⟩,?_⟩
    show l.length-((i+1:Nat):Int).toNat<l.length-(i:Int).toNat
    omega
   ·rw [if_neg (by omega)]
    have:i=l.length:=by omega
    subst this
    exact ⟨_,rfl,rfl⟩
 have hc:VX (l.length:Int)=some l.length:=by rw [zfo (by omega) (by omega)];simp
 rw [XM]
 simp only [decide_true,cond_true,hc,Option.bind_some,List.length_replicate]
 cases l with
 | nil=>simp;rw [key 0 rfl];rfl
 | cons a r=>simp only [List.isEmpty_cons,cond_false];rw [key _ rfl];rfl
def zde (cap:Int):List (BitVec 64):=[1#64,1#64]++List.replicate cap.toNat 0#64
theorem zrw {c:Int} (h:1≤c) (h2:c≤64):zdC c=some (zde c,()):=by
 have e:(if 64<(if c<1 then (1:Int) else c) then (64:Int) else (if c<1 then (1:Int) else c))=c:=by
  rw [if_neg (show ¬c<1 by omega),if_neg (by omega)]
 have w:w64 (2+c)=2+c:=yU (by omega) (by omega)
 have hc:VX (2+c)=some (2+c.toNat):=by rw [zfo (by omega) (by omega)];congr 1;omega
 rw [zlk]
 simp only [zA,e,w,if_true,hc,Option.bind_some]
 rw [Vr (by omega) (by simp;omega),Option.bind_some,Vr (by omega) (by simp;omega),Option.bind_some]
 have e2:List.replicate (2+c.toNat) 0#64=0#64::0#64::List.replicate c.toNat 0#64:=by rw [Nat.add_comm 2];rfl
 rw [e2];rfl
theorem zsj {m:Int} (h:0≤m) (h2:m≤16):zfC m=some (⟨0,0,0,List.replicate m.toNat 0⟩,()):=by
 have e:(if (if 16<m then (16:Int) else m)<0 then (0:Int) else (if 16<m then (16:Int) else m))=m:=by
  rw [if_neg (show ¬16<m by omega),if_neg (by omega)]
 have hc:VX m=some m.toNat:=zfo (by omega) (by omega)
 rw [zmX]
 simp only [zA,e,if_true,hc,Option.bind_some]
def links (m:List (BitVec 64)) (next:Int):List Int→List (BitVec 64)
 | []=>m
 | [a]=>st m (wc (next+a)) 0#64
 | a::b::l=>links (st m (wc (next+a)) (BitVec.ofInt 64 b)) next (b::l)
def zai (m:List (BitVec 64)) (head next:Int) (l:List Int):List (BitVec 64):=st (links m next l) head (yV 0#64 (l.headD 0))
theorem u6 (m:List (BitVec 64)) (a:Int) (v:BitVec 64):(st m a v).length=m.length:=by unfold st;split<;>simp
theorem zaz: ∀(l:List Int) (m:List (BitVec 64)) (n:Int),(links m n l).length=m.length
 | [],_,_=>rfl
 | [a],m,n=>u6 _ _ _
 | a::b::l,m,n=>by simp only [links];rw [zaz (b::l),u6]
theorem zld (m:List (BitVec 64)) (h n:Int) (l:List Int):(zai m h n l).length=m.length:=by unfold zai;rw [u6,zaz]
theorem zlD {head next:Int} {l:List Int} (hl:l.length<1000000): ∀(k:Nat) (m:List (BitVec 64)) (i:Nat),l.length-i=k→i≤l.length→m.length<4294967296 →
  ∀n,k<n→ZM zcq n (m,head,next,l,(l.length:Int),(i:Int),())=some (.brk (links m next (l.drop i),head,l,()))
 | 0,m,i,hk,hi,hm,n+1,hn=>by
  have:i=l.length:=by omega
  subst this
  simp only [ZM]
  rw [zdI,zA,if_neg (by omega),Option.bind_some,List.drop_length];rfl
 | k+1,m,i,hk,hi,hm,n+1,hn=>by
  have hlt:i<l.length:=by omega
  have hx:=List.getElem?_eq_getElem hlt
  simp only [ZM]
  rw [zdI,zA,if_pos (by omega),xn (by omega),zA,um]
  by_cases h2:i+1<l.length
  ·have hy:=List.getElem?_eq_getElem h2
   have ed:l.drop i=l[i]::l[i+1]::l.drop (i+2):=by
    rw [List.drop_eq_getElem_cons hlt,List.drop_eq_getElem_cons h2]
   rw [if_pos (by omega),wI hy,Option.bind_some,wI hx,Option.bind_some,UQ hm,Option.bind_some,Option.bind_some]
   dsimp only
   rw [zlD hl k _ (i+1) (by omega) (by omega) (by rw [u6];exact hm) n (by omega),ed]
   rw [List.drop_eq_getElem_cons h2];rfl
  ·have ed:l.drop i=[l[i]]:=by
    rw [List.drop_eq_getElem_cons hlt,List.drop_eq_nil_of_le (by omega)]
   rw [if_neg (by omega),wI hx,Option.bind_some,UQ hm,Option.bind_some,Option.bind_some]
   dsimp only
   rw [zlD hl k _ (i+1) (by omega) (by omega) (by rw [u6];exact hm) n (by omega),ed,List.drop_eq_nil_of_le (by omega)]
   rfl
theorem zoN {m:List (BitVec 64)} (hm:m.length<4294967296) {head next:Int} {l:List Int} (hl:l.length<1000000):zcu m head next l=some (zai m head next l,()):=by
 have e:=zlD (head:=head) (next:=next) hl l.length m 0 (by omega) (by omega) hm Wn (wU (by omega))
 rw [show ((0:Nat):Int)=0 from rfl] at e
 rw [znw,zaq,e]
 simp only [Option.bind_some,List.drop_zero,zA]
 unfold zai
 cases l with
 | nil =>
  rw [if_neg (by simp),zd6,Option.bind_some,UQ (by rw [zaz];exact hm)];rfl
 | cons a r =>
  have:idx (a::r) 0=some a:=by rw [Vj (by omega)];rfl
  rw [if_pos (by simp),this,Option.bind_some,zd6,Option.bind_some,UQ (by rw [zaz];exact hm)];rfl
def zpu:Nat→BitVec 64→Option (List Int)
 | 0,_=>none
 | f+1,s=>bif decide (s=0#64) then some [] else (zpu f (s&&&(s-1#64))).map fun l=>(((Go.Lib.ctz 64 s.toNat:Nat):Int)+1)::l
theorem zrn: ∀t:Fin 64,zpu 66 (BitVec.ofNat 64 t.1)=some (((List.range 6).filter fun i=>(BitVec.ofNat 64 t.1).getLsbD i).map fun i:Nat=>(i:Int)+1):=by decide +kernel
def W6 (s:BitVec 64):List Int:=((List.range 6).filter fun i=>s.getLsbD i).map fun i:Nat=>(i:Int)+1
theorem zqI {s:BitVec 64} (h:s&&& ~~~63#64=0#64): ∃t:Fin 64,s=BitVec.ofNat 64 t.1:=by
 have h2:s=s&&&63#64:=by
  apply BitVec.eq_of_getLsbD_eq
  intro i hi
  have:=congrArg (fun x=>x.getLsbD i) h
  simp only [BitVec.getLsbD_and,BitVec.getLsbD_not,hi,decide_true,Bool.true_and,BitVec.getLsbD_zero] at this ⊢
  cases h1:s.getLsbD i<;>cases h3:(63#64:BitVec 64).getLsbD i<;>simp_all
 have h3:s.toNat<64:=by
  rw [h2,BitVec.toNat_and]
  exact Nat.lt_of_le_of_lt Nat.and_le_right (by decide)
 exact ⟨⟨s.toNat,h3⟩,by simp⟩
theorem zwW: ∀t:Fin 64,Go.Lib.ctz 64 t.1≤64:=by decide +kernel
theorem zoF: ∀(f:Nat) (s:BitVec 64),s.toNat<64→zaC f s=zpu f s
 | 0,_,_=>rfl
 | f+1,s,h=>by
  simp only [zaC,zpu]
  rw [zoF f _ (by rw [BitVec.toNat_and];exact Nat.lt_of_le_of_lt Nat.and_le_left h)]
  have:Go.Lib.ctz 64 s.toNat≤64:=zwW ⟨s.toNat,h⟩
  have e:w64 (tz s+1)=((Go.Lib.ctz 64 s.toNat:Nat):Int)+1:=by
   unfold tz
   exact yU (by omega) (by omega)
  rw [e]
theorem zmS: ∀(l acc:List Int),(acc.length+l.length)<4294967296→ZR zdn l (acc,())=some (acc++l,())
 | [],acc,_=>by simp [ZR]
 | a::l,acc,h=>by
  simp only [List.length_cons] at h
  rw [ZR,zlH,uj (by simp;omega),Option.bind_some,Option.bind_some,zmS l _ (by simp;omega)]
  simp
theorem ztp (s:BitVec 64):(W6 s).length≤6:=by
 unfold W6
 rw [List.length_map]
 exact Nat.le_trans (List.length_filter_le _ _) (by simp)
theorem zuw {s:BitVec 64} (h:s&&& ~~~63#64=0#64):ziv s=some (W6 s,()):=by
 obtain ⟨t,rfl⟩:=zqI h
 have e:zi1 (BitVec.ofNat 64 t.1)=some (W6 (BitVec.ofNat 64 t.1)):=by
  show zaC 66 _=_
  rw [zoF 66 _ (by simp;omega),zrn t];rfl
 have:=ztp (BitVec.ofNat 64 t.1)
 rw [zo0,zo3,Option.bind_some,e,Option.bind_some,zmS _ _ (by simp;omega)]
 rfl
theorem zne (n:Nat) (hn:1≤n): ∀(f:Nat) (l:List Int),(vb n f l).length≤l.length
 | 0,l=>by simp [vb]
 | f+1,[]=>by simp [vb]
 | f+1,x::l=>by
  have:=zne n hn f ((x::l).drop n)
  simp only [vb,List.length_cons,List.length_drop] at this ⊢
  omega
theorem zgG (n:Nat): ∀(f:Nat) (l c:List Int),c∈vb n f l→c.length≤l.length
 | 0,l,c,h=>by simp [vb] at h
 | f+1,[],c,h=>by simp [vb] at h
 | f+1,x::l,c,h=>by
  simp only [vb,List.mem_cons] at h
  rcases h with rfl | h
  ·rw [List.length_take];exact Nat.min_le_right _ _
  ·have:=zgG n f _ c h
   simp only [List.length_drop] at this
   omega
def uJ (p:zb) (w:Nat):ze:=⟨0,0,0,(w:Int)+1,0,[],⟨2,0,zS p ((w:Int)+1),p.Cap,0#64,0#64,0,0⟩,⟨0,0,0,0,0#64,0,0,0⟩,⟨0,0,0,0,⟨0,0,0,0,0#64,0#64,0,0⟩,⟨0,0,0,0,0#64,0,0,0⟩,0,0⟩⟩
def ZG (p:zb) (k:Nat):List (BitVec 64):=(List.range k).flatMap fun _=>zde p.Cap
theorem zm4 (c:Int):(zde c).length=c.toNat+2:=by unfold zde;rw [List.length_append,List.length_replicate];exact Nat.add_comm _ _
theorem zgN (p:zb) (k:Nat):ZG p (k+1)=ZG p k++zde p.Cap:=by unfold ZG;rw [List.range_succ,List.flatMap_append];simp
theorem WR (p:zb): ∀k,(ZG p k).length=k*(p.Cap.toNat+2)
 | 0=>by simp [ZG]
 | k+1=>by rw [zgN,List.length_append,WR p k,zm4,Nat.succ_mul]
theorem zwO {p:zb} {s1:BitVec 64} {s5:Int} {s6:Int} {s7:Int} {s8:Int} {s9:Int} {s10:Int} {s11:Int} {s12:Int} {s13:Int} {s14:BitVec 64} {s15:Int} {s16:zo} {s17:Int} {s18:Int} {s19:Bool} {s20:Bool} {s21:Int} {s22:Int} {s23:Int} {s24:Int} {s25:zr} {s26:zb} {s27:Int} {s28:zo} {s29:Int} {s30:Int} {s31:Bool} {s32:Bool} {s33:Int} {s34:zq} {s35:zr} {s36:List (List Int)} {s37:List (List Int)} {s38:List (List zj)} {s39:List zm} {s40:List (List Int)} {s41:List (BitVec 64)} {s42:List (List Int)} {s43:List Int} {s44:List Int} {s45:List ze} {s46:List zc} {s47:List (List Int)} {s49:List (List Int)} {s50:List Int} {s52:List zc} (hp:zE p) :
  yP Ui (s1,p.Workers,0,p,s5,s6,s7,s8,s9,s10,s11,s12,s13,s14,s15,s16,s17,s18,s19,s20,s21,s22,s23,s24,s25,s26,s27,s28,s29,s30,s31,s32,s33,s34,s35,s36,s37,s38,s39,s40,s41,s42,s43,s44,s45,s46,s47,[],s49,s50,[],s52,())=some (.brk (s1,p,s5,s6,s7,s8,s9,s10,s11,s12,s13,s14,s15,s16,s17,s18,s19,s20,s21,s22,s23,s24,s25,s26,s27,s28,s29,s30,s31,s32,s33,s34,s35,s36,s37,s38,s39,s40,s41,s42,s43,s44,s45,s46,s47,(ZG p p.Workers.toNat),s49,s50,((List.range p.Workers.toNat).map (uJ p)),s52,())):=by
 have hw:=hp.wk
 have hc:=hp.cap
 refine (Zf (f:=Ui) (fun a=>∃i:Nat,a=(s1,p.Workers,(i:Int),p,s5,s6,s7,s8,s9,s10,s11,s12,s13,s14,s15,s16,s17,s18,s19,s20,s21,s22,s23,s24,s25,s26,s27,s28,s29,s30,s31,s32,s33,s34,s35,s36,s37,s38,s39,s40,s41,s42,s43,s44,s45,s46,s47,(ZG p i),s49,s50,((List.range i).map (uJ p)),s52,())∧(i:Int)≤p.Workers) (fun a=>(p.Workers-a.2.2.1).toNat) (fun o=>o= .brk (s1,p,s5,s6,s7,s8,s9,s10,s11,s12,s13,s14,s15,s16,s17,s18,s19,s20,s21,s22,s23,s24,s25,s26,s27,s28,s29,s30,s31,s32,s33,s34,s35,s36,s37,s38,s39,s40,s41,s42,s43,s44,s45,s46,s47,(ZG p p.Workers.toNat),s49,s50,((List.range p.Workers.toNat).map (uJ p)),s52,())) ?_ (s1,p.Workers,0,p,s5,s6,s7,s8,s9,s10,s11,s12,s13,s14,s15,s16,s17,s18,s19,s20,s21,s22,s23,s24,s25,s26,s27,s28,s29,s30,s31,s32,s33,s34,s35,s36,s37,s38,s39,s40,s41,s42,s43,s44,s45,s46,s47,[],s49,s50,[],s52,()) ⟨0,rfl,by omega⟩ (wU (by dsimp only;omega))).elim fun o h=> ?_
 rotate_left
 ·rw [h.1,h.2]
 ·rintro _ ⟨i,rfl,hi⟩
  rw [zkD,zA]
  by_cases hlt:(i:Int)<p.Workers
  ·have hl:=WR p i
   have hl2:=zm4 p.Cap
   have hb:i*(p.Cap.toNat+2)≤3*5:=Nat.mul_le_mul (by omega) (by omega)
   rw [if_pos hlt,zrw hc.1 (by omega),Option.bind_some,uj (l:=ZG p i++zde p.Cap) (by rw [List.length_append];omega),Option.bind_some,zcK,Option.bind_some,WO,Option.bind_some,uj (by simp<;>omega),Option.bind_some,xn (by omega)]
   refine ⟨_,rfl,⟨i+1,?_,by omega⟩,?_⟩
   ·rw [zgN,List.range_succ,List.map_append];rfl
   ·show (p.Workers-((i+1:Nat):Int)).toNat<(p.Workers-(i:Int)).toNat
    omega
  ·rw [if_neg hlt]
   have:i=p.Workers.toNat:=by omega
   subst this
   exact ⟨_,rfl,rfl⟩
def xh (k:Nat):List Int:=(List.range k).map fun i:Nat=>(i:Int)+1
theorem zql (k:Nat):(xh k).length=k:=by simp [xh]
theorem zvT {b:Int} {s1:BitVec 64} {s4:zb} {s5:Int} {s6:Int} {s7:Int} {s8:Int} {s9:Int} {s10:Int} {s11:Int} {s12:Int} {s13:Int} {s14:BitVec 64} {s15:Int} {s16:zo} {s17:Int} {s18:Int} {s19:Bool} {s20:Bool} {s21:Int} {s22:Int} {s23:Int} {s24:Int} {s25:zr} {s26:zb} {s27:Int} {s28:zo} {s29:Int} {s30:Int} {s31:Bool} {s32:Bool} {s33:Int} {s34:zq} {s35:zr} {s37:List (List Int)} {s38:List (List Int)} {s39:List (List zj)} {s40:List zm} {s41:List (List Int)} {s42:List (BitVec 64)} {s43:List (List Int)} {s44:List Int} {s45:List Int} {s46:List ze} {s47:List zc} {s48:List (List Int)} {s49:List (BitVec 64)} {s50:List (List Int)} {s51:List Int} {s52:List ze} {s53:List zc} (hb:0≤b∧b<1000) :
  yP VO (s1,b,0,s4,s5,s6,s7,s8,s9,s10,s11,s12,s13,s14,s15,s16,s17,s18,s19,s20,s21,s22,s23,s24,s25,s26,s27,s28,s29,s30,s31,s32,s33,s34,s35,[],s37,s38,s39,s40,s41,s42,s43,s44,s45,s46,s47,s48,s49,s50,s51,s52,s53,())=some (.brk (s1,s4,s5,s6,s7,s8,s9,s10,s11,s12,s13,s14,s15,s16,s17,s18,s19,s20,s21,s22,s23,s24,s25,s26,s27,s28,s29,s30,s31,s32,s33,s34,s35,(xh b.toNat),s37,s38,s39,s40,s41,s42,s43,s44,s45,s46,s47,s48,s49,s50,s51,s52,s53,())):=by
 refine (Zf (f:=VO) (fun a=>∃i:Nat,a=(s1,b,(i:Int),s4,s5,s6,s7,s8,s9,s10,s11,s12,s13,s14,s15,s16,s17,s18,s19,s20,s21,s22,s23,s24,s25,s26,s27,s28,s29,s30,s31,s32,s33,s34,s35,(xh i),s37,s38,s39,s40,s41,s42,s43,s44,s45,s46,s47,s48,s49,s50,s51,s52,s53,())∧(i:Int)≤b) (fun a=>(b-a.2.2.1).toNat) (fun o=>o= .brk (s1,s4,s5,s6,s7,s8,s9,s10,s11,s12,s13,s14,s15,s16,s17,s18,s19,s20,s21,s22,s23,s24,s25,s26,s27,s28,s29,s30,s31,s32,s33,s34,s35,(xh b.toNat),s37,s38,s39,s40,s41,s42,s43,s44,s45,s46,s47,s48,s49,s50,s51,s52,s53,())) ?_ (s1,b,0,s4,s5,s6,s7,s8,s9,s10,s11,s12,s13,s14,s15,s16,s17,s18,s19,s20,s21,s22,s23,s24,s25,s26,s27,s28,s29,s30,s31,s32,s33,s34,s35,[],s37,s38,s39,s40,s41,s42,s43,s44,s45,s46,s47,s48,s49,s50,s51,s52,s53,()) ⟨0,rfl,by omega⟩ (wU (by dsimp only;omega))).elim fun o h=> ?_
 rotate_left
 ·rw [h.1,h.2]
 ·rintro _ ⟨i,rfl,hi⟩
  rw [zji,zA]
  by_cases hlt:(i:Int)<b
  ·have:=zql i
   rw [if_pos hlt,uj (by rw [List.length_append];simp;omega),Option.bind_some,xn (by omega)]
   refine ⟨_,rfl,⟨i+1,?_,by omega⟩,?_⟩
   ·unfold xh;rw [List.range_succ,List.map_append];rfl
   ·show (b-((i+1:Nat):Int)).toNat<(b-(i:Int)).toNat
    omega
  ·rw [if_neg hlt]
   have:i=b.toNat:=by omega
   subst this
   exact ⟨_,rfl,rfl⟩
theorem zrT {s1:zb} {s2:Int} {s3:Int} {s4:Int} {s5:Int} {s6:Int} {s7:Int} {s8:Int} {s9:Int} {s10:Int} {s11:BitVec 64} {s12:Int} {s13:zo} {s14:Int} {s15:Int} {s16:Bool} {s17:Bool} {s18:Int} {s19:Int} {s20:Int} {s21:Int} {s22:zr} {s23:zb} {s24:Int} {s25:zo} {s26:Int} {s27:Int} {s28:Bool} {s29:Bool} {s30:Int} {s31:zq} {s32:zr} {s33:List Int} {s34:List (List Int)} {s35:List (List Int)} {s36:List (List zj)} {s37:List zm} {s38:List (List Int)} {s39:List (BitVec 64)} {s40:List (List Int)} {s41:List Int} {s42:List Int} {s43:List ze} {s44:List zc} {s45:List (List Int)} {s46:List (BitVec 64)} {s48:List Int} {s49:List ze} {s50:List zc}: ∀(ys acc:List (List Int)),acc.length+ys.length<1000000→(∀c∈ys,c.length<1000000)→ZR za0 ys (s1,s2,s3,s4,s5,s6,s7,s8,s9,s10,s11,s12,s13,s14,s15,s16,s17,s18,s19,s20,s21,s22,s23,s24,s25,s26,s27,s28,s29,s30,s31,s32,s33,s34,s35,s36,s37,s38,s39,s40,s41,s42,s43,s44,s45,s46,acc,s48,s49,s50,())=some (s1,s2,s3,s4,s5,s6,s7,s8,s9,s10,s11,s12,s13,s14,s15,s16,s17,s18,s19,s20,s21,s22,s23,s24,s25,s26,s27,s28,s29,s30,s31,s32,s33,s34,s35,s36,s37,s38,s39,s40,s41,s42,s43,s44,s45,s46,(acc++ys),s48,s49,s50,())
 | [],acc,_,_=>by simp [ZR]
 | y::ys,acc,h,hc=>by
  simp only [List.length_cons] at h
  have hy:=hc y (List.mem_cons_self ..)
  rw [ZR,zja,zhX (by omega),Option.bind_some,uj (by simp<;>omega),Option.bind_some,Option.bind_some,zrT ys _ (by simp<;>omega) (fun c h'=>hc c (List.mem_cons_of_mem _ h'))]
  simp
def v9 (r:List Int):zc:=⟨0,0,0,0,0,0,0,0,r,[],[],⟨0,0,0,0,0#64,0,0,0⟩,⟨0,0,0,0,⟨0,0,0,0,0#64,0#64,0,0⟩,⟨0,0,0,0,0#64,0,0,0⟩,0,0⟩⟩
theorem zv4 {p:zb} {s4:Int} {s5:Int} {s6:Int} {s7:Int} {s8:Int} {s9:Int} {s10:Int} {s11:Int} {s12:Int} {s13:BitVec 64} {s14:Int} {s15:zo} {s16:Int} {s17:Int} {s18:Bool} {s19:Bool} {s20:Int} {s21:Int} {s22:Int} {s23:Int} {s24:zr} {s25:zb} {s26:Int} {s27:List (BitVec 64)} {s28:zo} {s29:Int} {s30:Int} {s31:Bool} {s32:Bool} {s33:Int} {s34:zq} {s35:zr} {s36:List (List Int)} {s37:List (List Int)} {s38:List (List zj)} {s39:List zm} {s40:List (List Int)} {s41:List (BitVec 64)} {s42:List (List Int)} {s43:List Int} {s44:List Int} {s45:List ze} {s46:List zc} {s47:List (List Int)} {s48:List (List Int)} {s49:List Int} {s50:List ze} (hl:p.Regs.length<1000000) (hr: ∀r∈p.Regs,r.length<1000000) :
  yP VP (p.Regs,(p.Regs.length:Int),0,s4,s5,s6,s7,s8,s9,s10,s11,s12,s13,s14,s15,s16,s17,s18,s19,s20,s21,s22,s23,s24,s25,s26,s27,s28,s29,s30,s31,s32,s33,s34,s35,s36,s37,s38,s39,s40,s41,s42,s43,s44,s45,s46,s47,s48,s49,s50,[],())=some (.brk (s4,s5,s6,s7,s8,s9,s10,s11,s12,s13,s14,s15,s16,s17,s18,s19,s20,s21,s22,s23,s24,s25,s26,s27,s28,s29,s30,s31,s32,s33,s34,s35,s36,s37,s38,s39,s40,s41,s42,s43,s44,s45,s46,s47,s48,s49,s50,(p.Regs.map v9),())):=by
 refine (Zf (f:=VP) (fun a=>∃i:Nat,a=(p.Regs,(p.Regs.length:Int),(i:Int),s4,s5,s6,s7,s8,s9,s10,s11,s12,s13,s14,s15,s16,s17,s18,s19,s20,s21,s22,s23,s24,s25,s26,s27,s28,s29,s30,s31,s32,s33,s34,s35,s36,s37,s38,s39,s40,s41,s42,s43,s44,s45,s46,s47,s48,s49,s50,((p.Regs.take i).map v9),())∧i≤p.Regs.length) (fun a=>p.Regs.length-a.2.2.1.toNat) (fun o=>o= .brk (s4,s5,s6,s7,s8,s9,s10,s11,s12,s13,s14,s15,s16,s17,s18,s19,s20,s21,s22,s23,s24,s25,s26,s27,s28,s29,s30,s31,s32,s33,s34,s35,s36,s37,s38,s39,s40,s41,s42,s43,s44,s45,s46,s47,s48,s49,s50,(p.Regs.map v9),())) ?_ (p.Regs,(p.Regs.length:Int),0,s4,s5,s6,s7,s8,s9,s10,s11,s12,s13,s14,s15,s16,s17,s18,s19,s20,s21,s22,s23,s24,s25,s26,s27,s28,s29,s30,s31,s32,s33,s34,s35,s36,s37,s38,s39,s40,s41,s42,s43,s44,s45,s46,s47,s48,s49,s50,[],()) ⟨0,rfl,by omega⟩ (wU (by dsimp only;omega))).elim fun o h=> ?_
 rotate_left
 ·rw [h.1,h.2]
 ·rintro _ ⟨i,rfl,hi⟩
  rw [zjv,zA]
  rcases Nat.lt_or_ge i p.Regs.length with hlt | hge
  ·have hx:=List.getElem?_eq_getElem hlt
   have hh:=hr _ (List.getElem_mem hlt)
   rw [if_pos (by omega),wI hx,Option.bind_some,zhX (by omega),Option.bind_some,uj (by simp<;>omega),Option.bind_some,xn (by omega)]
   refine ⟨_,rfl,⟨i+1,?_,hlt⟩,?_⟩
   ·rw [List.take_add_one,hx,List.map_append];rfl
   ·show p.Regs.length-((i+1:Nat):Int).toNat<p.Regs.length-(i:Int).toNat
    omega
  ·rw [if_neg (by omega)]
   have:i=p.Regs.length:=by omega
   subst this
   exact ⟨_,rfl,by rw [List.take_length]⟩
def zT (p:zb):Nat:=(p.Most+p.Workers+p.Mutators).toNat
def yW (p:zb):List (List Int):=vb p.Bin.toNat (W6 (ZT p)).length (W6 (ZT p))
def wg (p:zb):za :=
 {P:=p,H:=p.H,
  M:=zai (zai (ZG p p.Workers.toNat++List.replicate (2+zT p) 0#64) (zZ p) (zD p) ((xh (zT p)).take (yW p).length)) (zD p) (zD p) ((xh (zT p)).drop (yW p).length),
  Bins:=[[]]++yW p++List.replicate (zT p-(yW p).length) [],
  T:=⟨ZT p,0#64⟩,Work:=cnt (ZT p),Epoch:=0,Flag:=false,Done:=false,Restarts:=0,
  Acks:=List.replicate p.Mutators.toNat 0,L:=⟨0,0,0,List.replicate p.Mutators.toNat 0⟩,
  Ws:=(List.range p.Workers.toNat).map (uJ p),Ms:=p.Regs.map v9,D:=⟨0,0⟩}
theorem ztD {r n:Int} (h:0≤r) (h2:r≤n) (h3:n≤6):bit r&&& ~~~Wr n=0#64:=by
 have:=zoP ⟨r.toNat,by omega⟩ ⟨n.toNat,by omega⟩ (by show r.toNat≤n.toNat;omega)
 simpa [Int.toNat_of_nonneg h,Int.toNat_of_nonneg (show 0≤n by omega)] using this
theorem zqu {a b c:BitVec 64} (ha:a&&& ~~~c=0#64) (hb:b&&& ~~~c=0#64):(a|||b)&&& ~~~c=0#64:=by
 apply BitVec.eq_of_getLsbD_eq
 intro i hi
 have h1:=congrArg (fun x=>x.getLsbD i) ha
 have h2:=congrArg (fun x=>x.getLsbD i) hb
 simp only [BitVec.getLsbD_and,BitVec.getLsbD_or,BitVec.getLsbD_not,BitVec.getLsbD_zero,hi,decide_true,Bool.true_and] at h1 h2 ⊢
 revert h1 h2
 generalize a.getLsbD i=x
 generalize b.getLsbD i=y
 generalize c.getLsbD i=z
 cases x<;>cases y<;>cases z<;>decide
theorem zsg {c:BitVec 64} {l:List Int} (h: ∀o∈l,bit o&&& ~~~c=0#64): ∀(z:BitVec 64),z&&& ~~~c=0#64→l.foldl (fun s o=>s|||bit o) z&&& ~~~c=0#64:=by
 induction l with
 | nil=>intro z hz;exact hz
 | cons a l ih=>intro z hz;exact ih (fun o ho=>h o (List.mem_cons_of_mem _ ho)) _ (zqu hz (h a (List.mem_cons_self ..)))
theorem zg1 {p:zb} (h:zE p):ZT p&&& ~~~Wr (p.H.Objs.length:Int)=0#64:=by
 have hn:=h.n
 have key: ∀(L:List (List Int)) (z:BitVec 64),(∀r∈L,∀v∈r,0≤v∧v≤(p.H.Objs.length:Int))→z&&& ~~~Wr (p.H.Objs.length:Int)=0#64→L.foldl (fun s l=>s|||zlV l) z&&& ~~~Wr (p.H.Objs.length:Int)=0#64:=by
  intro L
  induction L with
  | nil=>intro z _ hz;exact hz
  | cons r L ih =>
   intro z hr hz
   refine ih _ (fun r' h'=>hr r' (List.mem_cons_of_mem _ h')) (zqu hz (zsg (fun o ho=> ?_) _ (by simp)))
   have:=hr r (List.mem_cons_self ..) o ho
   exact ztD this.1 this.2 hn.2
 exact key _ _ (fun r hr=>(h.reg r hr).2) (zkO h)
theorem zre {a b c:BitVec 64} (h:a&&& ~~~b=0#64) (h2:b&&& ~~~c=0#64):a&&& ~~~c=0#64:=by
 apply BitVec.eq_of_getLsbD_eq
 intro i hi
 have h1:=congrArg (fun x=>x.getLsbD i) h
 have h2:=congrArg (fun x=>x.getLsbD i) h2
 simp only [BitVec.getLsbD_and,BitVec.getLsbD_not,BitVec.getLsbD_zero,hi,decide_true,Bool.true_and] at h1 h2 ⊢
 revert h1 h2
 generalize a.getLsbD i=x
 generalize b.getLsbD i=y
 generalize c.getLsbD i=z
 cases x<;>cases y<;>cases z<;>decide
theorem zrj: ∀n:Fin 7,Wr (n.1:Int)&&& ~~~63#64=0#64:=by decide
theorem zg7 {p:zb} (h:zE p):ZT p&&& ~~~63#64=0#64:=by
 have hn:=h.n
 refine zre (zg1 h) ?_
 exact zrj ⟨p.H.Objs.length,by omega⟩
theorem zr7: ∀(n:Fin 7) (t:Fin 64),BitVec.ofNat 64 t.1&&& ~~~Wr (n.1:Int)=0#64→(W6 (BitVec.ofNat 64 t.1)).length≤n.1:=by decide +kernel
theorem zjj {p:zb} (h:zE p):(W6 (ZT p)).length≤p.H.Objs.length:=by
 have hn:=h.n
 obtain ⟨t,ht⟩:=zqI (zg7 h)
 have h2:=zg1 h
 rw [ht] at h2 ⊢
 exact zr7 ⟨p.H.Objs.length,by omega⟩ t h2
theorem zie {p:zb} (h:zE p):(yW p).length≤p.H.Objs.length:=by
 have hb:=h.bin
 exact Nat.le_trans (zne _ (by omega) _ _) (zjj h)
theorem zou {p:zb} (h:zE p):zcw p=some (wg p,()):=by
 have hw:=h.wk
 have hc:=h.cap
 have hm:=h.mt
 have hb:=h.bin
 have hn:=h.n
 have hmo:=h.most
 have hrl:=h.regs
 have hreg: ∀r∈p.Regs,r.length<1000000:=fun r hr=>by have:=(h.reg r hr).1;omega
 have hobj: ∀o∈p.H.Objs,o.length<1000000:=fun o ho=>by have:=(h.objs o ho).1;have:=h.slots;omega
 have hfl:=zie h
 have hgl:=zjj h
 have hcl:=WR p p.Workers.toNat
 have hcb:p.Workers.toNat*(p.Cap.toNat+2)≤3*5:=Nat.mul_le_mul (by omega) (by omega)
 have hbn:(zT p:Int)=p.Most+p.Workers+p.Mutators:=by unfold zT;omega
 have eb:zcD p=some ((zT p:Int),()):=by
  rw [znF,yU (a:=p.Most+p.Workers) (by omega) (by omega),yU (by omega) (by omega),hbn]
 have hul:=zql (zT p)
 have ec:Vo (W6 (ZT p)) p.Bin=some (yW p):=by
  show zeE _ _=_
  unfold zeE yW
  have c1:(decide (1≤p.Bin)&&decide (p.Bin<1000000)&&decide (((W6 (ZT p)).length:Int)<1000000))=true:=by simp<;>omega
  rw [c1];rfl
 have cut1:cut (xh (zT p)) 0 ((yW p).length:Int)=some ((xh (zT p)).take (yW p).length):=by
  unfold cut
  have:((yW p).length:Int)≤((xh (zT p)).length:Int):=by omega
  simp [this]
 have cut2:cut (xh (zT p)) ((yW p).length:Int) ((xh (zT p)).length:Int)=some ((xh (zT p)).drop (yW p).length):=by
  unfold cut
  have:((yW p).length:Int)≤((xh (zT p)).length:Int):=by omega
  simp [this]
 rw [zn7,zsJ h]
 simp only [Option.bind_some,Bool.not_true,cond_false]
 rw [zs0 (by omega) hreg]
 simp only [Option.bind_some,zt8,zsj hm.1 (show p.Mutators≤16 by omega)]
 rw [ztA (by omega) hobj]
 simp only [Option.bind_some]
 rw [zwO h]
 simp only [Option.bind_some,eb]
 have e3:(2+(zT p:Int)).toNat=2+zT p:=by omega
 rw [yU (a:=2+(zT p:Int)) (by omega) (by omega),zox (by omega) (by omega),e3,Option.bind_some,uj (l:=ZG p p.Workers.toNat++List.replicate (2+zT p) 0#64) (by simp<;>omega),Option.bind_some,zvT (by omega)]
 dsimp only [Option.bind_some]
 rw [Int.toNat_natCast,zuw (zg7 h),Option.bind_some,zdl,zA,if_neg (by omega),Option.bind_some,ec,Option.bind_some,zrT _ _ (by simp<;>omega) (fun c hc'=>by have:=zgG _ _ _ _ hc';omega)]
 dsimp only [Option.bind_some]
 have e1:w64 ((([[]]++yW p:List (List Int)).length:Int)-1)=((yW p).length:Int):=by
  rw [yU (by simp<;>omega) (by simp<;>omega)];simp
 have e2:w64 (((xh (zT p)).length:Int)-((yW p).length:Int))=((zT p-(yW p).length:Nat):Int):=by
  rw [yU (by omega) (by omega)];omega
 rw [e1,e2,zox (by omega) (by omega),Int.toNat_natCast,Option.bind_some,uj (by simp<;>omega),Option.bind_some,zdQ,Option.bind_some,zbb,Option.bind_some,cut1,Option.bind_some,zoN (by simp<;>omega) (by simp<;>omega),Option.bind_some,zcx,Option.bind_some,Option.bind_some,cut2,Option.bind_some,zoN (by rw [zld];simp<;>omega) (by simp<;>omega),Option.bind_some,decide_true,cond_true,zfo hm.1 (show p.Mutators<4294967296 by omega),Option.bind_some,zv4 (by omega) hreg]
 rfl
end
end Go.Pe.G
namespace Go.Pe.G
open Go.Pe
noncomputable section
theorem zgd (h:BitVec 64):yr h=((h.toNat%4294967296:Nat):Int):=by
 unfold yr
 have e:(h&&&4294967295#64).toNat=h.toNat%4294967296:=by
  rw [BitVec.toNat_and]
  exact Nat.and_two_pow_sub_one_eq_mod h.toNat 32
 rw [BitVec.toInt_eq_toNat_cond,e]
 omega
theorem zga (h:BitVec 64):0≤yr h∧yr h<4294967296:=by rw [zgd];omega
theorem zaI (v:BitVec 64) {n:Int} (h:0≤n) (h2:n<4294967296):yr (yV v n)=n:=by
 rw [zgd]
 unfold yV
 rw [BitVec.toNat_or,BitVec.toNat_and,BitVec.toNat_shiftLeft]
 have e1:(v.toNat <<< 32%2 ^ 64|||(BitVec.ofInt 64 n).toNat&&&(4294967295#64).toNat)%2 ^ 32=(v.toNat <<< 32%2 ^ 64)%2 ^ 32|||((BitVec.ofInt 64 n).toNat&&&(4294967295#64).toNat)%2 ^ 32:=Nat.or_mod_two_pow
 have e2:v.toNat <<< 32%2 ^ 64%2 ^ 32=0:=by rw [Nat.shiftLeft_eq];omega
 have e3:(BitVec.ofInt 64 n).toNat&&&(4294967295#64).toNat=n.toNat:=by
  have:(BitVec.ofInt 64 n).toNat=n.toNat:=by rw [BitVec.toNat_ofInt];omega
  rw [this]
  exact (Nat.and_two_pow_sub_one_eq_mod n.toNat 32).trans (Nat.mod_eq_of_lt (by omega))
 rw [show (4294967296:Nat)=2 ^ 32 from rfl,e1,e2,e3,Nat.zero_or,Nat.mod_eq_of_lt (by omega)]
 omega
theorem toInt_ofInt {n:Int} (h:0≤n) (h2:n<4294967296):(BitVec.ofInt 64 n).toInt=n:=by
 have e:(BitVec.ofInt 64 n).toNat=n.toNat:=by rw [BitVec.toNat_ofInt];omega
 rw [BitVec.toInt_eq_toNat_cond,e]
 omega
theorem Xd {m:List (BitVec 64)} {a b:Int} {v:BitVec 64}:ld (st m a v) b=if a=b∧0≤a∧a<m.length then v else ld m b:=by
 unfold ld st
 by_cases hb:0≤b
 ·rw [if_pos hb,if_pos hb]
  by_cases ha:0≤a
  ·rw [if_pos ha,List.getD_eq_getElem?_getD,List.getD_eq_getElem?_getD,List.getElem?_set]
   by_cases hab:a.toNat=b.toNat
   ·have e:a=b:=by omega
    subst e
    by_cases hl:a.toNat<m.length
    ·rw [if_pos rfl,if_pos hl,if_pos ⟨rfl,ha,by omega⟩];rfl
    ·rw [if_pos rfl,if_neg hl,if_neg (by omega),List.getElem?_eq_none (by omega)]
   ·rw [if_neg hab,if_neg (by omega)]
  ·rw [if_neg ha,if_neg (by omega)]
 ·rw [if_neg hb,if_neg hb,if_neg (by omega)]
theorem yq {m:List (BitVec 64)} {a b:Int} {v:BitVec 64} (h:a≠b):ld (st m a v) b=ld m b:=by
 rw [Xd,if_neg (fun h'=>h h'.1)]
theorem uI {p:zb} (h:zE p):zZ p=p.Workers*(p.Cap+2)∧3≤zZ p∧zZ p≤15:=by
 have hw:=h.wk
 have hc:=h.cap
 unfold zZ
 rw [xm (a:=p.Cap+2) (by omega) (by omega)]
 have hx:p.Workers=1∨p.Workers=2∨p.Workers=3:=by omega
 rcases hx with hx | hx | hx<;>rw [hx,xm (by omega) (by omega)]<;>omega
theorem xW {p:zb} (h:zE p):zD p=zZ p+1:=by
 have:=uI h
 unfold zD
 rw [xm (by omega) (by omega)]
theorem Z1 {p:zb} (h:zE p) {w:Int} (h1:1≤w) (h2:w≤p.Workers):zS p w=(w-1)*(p.Cap+2)∧0≤zS p w∧zS p w+p.Cap+2≤zZ p:=by
 have hw:=h.wk
 have hc:=h.cap
 have hf:=(uI h).1
 unfold zS
 rw [xm (a:=p.Cap+2) (by omega) (by omega),xm (a:=w-1) (by omega) (by omega)]
 have hx:p.Workers=1∨p.Workers=2∨p.Workers=3:=by omega
 have hy:w=1∨w=2∨w=3:=by omega
 rw [hf]
 rcases hx with hx | hx | hx<;>rcases hy with hy | hy | hy<;>first | omega | (rw [hx,hy,xm (by omega) (by omega)]<;>omega)
theorem zlT {p:zb} (h:zE p) {d:zg} {w:Int} (h1:1≤w) (h2:w≤p.Workers) (hb:d.Base=zS p w) (hc:d.Cap=p.Cap) (i:BitVec 64) :
  WB d i=d.Base+2+((i.toNat%p.Cap.toNat:Nat):Int)∧d.Base+2≤WB d i∧WB d i<d.Base+2+p.Cap:=by
 have hcp:=h.cap
 have hd:=Z1 h h1 h2
 have hf:=uI h
 have hs:(Wg d).toNat=p.Cap.toNat:=by
  unfold Wg
  rw [hc,if_neg (by omega),BitVec.toNat_ofInt]
  omega
 have hlt:i.toNat%p.Cap.toNat<p.Cap.toNat:=Nat.mod_lt _ (by omega)
 have hm:(i%Wg d).toInt=((i.toNat%p.Cap.toNat:Nat):Int):=by
  rw [BitVec.toInt_eq_toNat_cond,BitVec.toNat_umod,hs]
  omega
 unfold WB
 rw [hm,xm (a:=d.Base+2) (by omega) (by omega),xm (by omega) (by omega)]
 omega
structure SOk (p:zb) (nb:Nat) (s:za):Prop where
 P:s.P=p
 bins:s.Bins.length=nb
 nbk:1≤nb∧nb<1000
 mem:s.M.length<100000
 cF:yr (ld s.M (zZ p))<nb
 cE:yr (ld s.M (zD p))<nb
 cL: ∀a,zD p<a→0≤(ld s.M a).toInt∧(ld s.M a).toInt<nb
structure MOk (p:zb) (nb:Nat) (g:zy):Prop where
 who:g.Mode=1→1≤g.Who∧g.Who≤p.Workers
 d3:g.PC=3→g.D.Kind=1∧g.D.Base=zS p g.Who∧g.D.Cap=p.Cap∧g.Mode=1
 c5:g.PC=5→g.C.Kind=2∧g.C.Head=zD p∧g.C.Next=zD p∧(1≤g.C.PC→1≤yr g.C.H∧yr g.C.H<nb)∧(2≤g.C.PC→0≤g.C.Y∧g.C.Y<nb)
 b6:g.PC=6→1≤g.Bin∧g.Bin<nb
 c7:g.PC=7→g.C.Kind=1∧g.C.Head=zZ p∧g.C.Next=zD p∧(1≤g.C.X∧g.C.X<nb)∧(1≤g.C.PC→yr g.C.H<nb)
theorem SOk.gok {p:zb} {nb:Nat} {s:za} {g:zy} (h:zE p) (S:SOk p nb s) (M:MOk p nb g):GOk s g:=by
 have hc:=h.cap
 refine ⟨by have:=S.mem;omega,by have:=S.bins;have:=S.nbk;omega,fun h6=> ?_,fun h3=> ?_⟩
 ·have:=M.b6 h6;have:=S.bins;omega
 ·obtain ⟨a,b,c,_⟩:=M.d3 h3;exact ⟨a,by omega⟩
theorem SOk.low {p:zb} {nb:Nat} {s:za} (h:zE p) (S:SOk p nb s) {a:Int} (ha:a<zZ p) (v:BitVec 64):SOk p nb {s with M:=st s.M a v}:=by
 have he:=xW h
 exact ⟨S.P,S.bins,S.nbk,by simp only [u6];exact S.mem,by simp only [yq (show a≠zZ p by omega)];exact S.cF,by simp only [yq (show a≠zD p by omega)];exact S.cE,fun b hb=>by
  simp only [yq (show a≠b by omega)];exact S.cL b hb⟩
theorem SOk.link {p:zb} {nb:Nat} {s:za} (h:zE p) (S:SOk p nb s) {a:Int} (ha:zD p<a) {v:BitVec 64} (hv:0≤v.toInt∧v.toInt<nb):SOk p nb {s with M:=st s.M a v}:=by
 have he:=xW h
 exact ⟨S.P,S.bins,S.nbk,by simp only [u6];exact S.mem,by simp only [yq (show a≠zZ p by omega)];exact S.cF,by simp only [yq (show a≠zD p by omega)];exact S.cE,fun b hb=>by
  simp only [Xd]
  split
  ·exact hv
  ·exact S.cL b hb⟩
theorem SOk.head {p:zb} {nb:Nat} {s:za} (h:zE p) (S:SOk p nb s) {a:Int} (ha:a=zZ p∨a=zD p) {v:BitVec 64} (hv:yr v<nb):SOk p nb {s with M:=st s.M a v}:=by
 have he:=xW h
 refine ⟨S.P,S.bins,S.nbk,by simp only [u6];exact S.mem,?_,?_,fun b hb=> ?_⟩
 ·simp only [Xd]
  split
  ·exact hv
  ·exact S.cF
 ·simp only [Xd]
  split
  ·exact hv
  ·exact S.cE
 ·simp only [yq (show a≠b by omega)];exact S.cL b hb
theorem SOk.swap {p:zb} {nb:Nat} {s:za} (h:zE p) (S:SOk p nb s) {a:Int} (ha:a=zZ p∨a=zD p) (x:BitVec 64) {v:BitVec 64} (hv:yr v<nb):SOk p nb {s with M:=(sw s.M a x v).1}:=by
 unfold sw
 split
 ·exact S.head h ha hv
 ·exact S
theorem zmZ {p:zb} {nb:Nat} {s:za} (h:zE p) (S:SOk p nb s) {c:zw} {hd:Int} (hdd:hd=zZ p∨hd=zD p) (hk:c.Kind=2) (hh:c.Head=hd) (hn:c.Next=zD p)
  (h1:1≤c.PC→1≤yr c.H∧yr c.H<nb) (h2:2≤c.PC→0≤c.Y∧c.Y<nb) (ho:c.Out≠1) :
  SOk p nb {s with M:=(zk s.M c).1}∧(zk s.M c).2.Kind=2∧(zk s.M c).2.Head=hd∧(zk s.M c).2.Next=zD p ∧
  ((zk s.M c).2.Out≠1→(zk s.M c).2.Out≠2→(1≤(zk s.M c).2.PC→1≤yr (zk s.M c).2.H∧yr (zk s.M c).2.H<nb)∧(2≤(zk s.M c).2.PC→0≤(zk s.M c).2.Y∧(zk s.M c).2.Y<nb)) ∧
  ((zk s.M c).2.Out=1→1≤(zk s.M c).2.X∧(zk s.M c).2.X<nb):=by
 have hnb:=S.nbk
 have hE:=xW h
 have hF:=uI h
 unfold zk
 split
 ·exact ⟨S,hk,hh,hn,fun _ _=>⟨h1,h2⟩,fun e=>absurd e ho⟩
 ·split
  ·rw [hh]
   have n1:=zga (ld s.M hd)
   have n2:yr (ld s.M hd)<nb:=by
    rcases hdd with e | e<;>rw [e]
    ·exact S.cF
    ·exact S.cE
   split
   ·exact ⟨S,hk,rfl,hn,fun _ h=>absurd rfl h,fun e=>by cases e⟩
   ·rename_i hne
    refine ⟨S,hk,rfl,hn,fun _ _=>⟨fun _=>⟨?_,n2⟩,fun e=>absurd e (by dsimp only;omega)⟩,fun e=>absurd e ho⟩
    have:yr (ld s.M hd)≠0:=fun e=>hne ⟨hk,e⟩
    dsimp only
    omega
  ·split
   ·try rw [if_pos hk]
    have hpc:1≤c.PC:=by omega
    have n1:=h1 hpc
    refine ⟨S,hk,hh,hn,fun _ _=>⟨fun _=>n1,fun _=> ?_⟩,fun e=>absurd e ho⟩
    dsimp only
    rw [hn,xm (by omega) (by omega)]
    exact S.cL _ (by omega)
   ·rename_i g1 g2 g3
    have hpc:c.PC=2:=by omega
    have n1:=h1 (by omega)
    have n2:=h2 (by omega)
    simp only [if_pos hk]
    refine ⟨S.swap h (by rw [hh];exact hdd) _ (by rw [zaI _ n2.1 (by omega)];exact n2.2),?_⟩
    split
    ·exact ⟨hk,hh,hn,fun e=>absurd rfl e,fun _=>n1⟩
    ·exact ⟨hk,hh,hn,fun _ _=>⟨fun e=>absurd e (by dsimp only;omega),fun e=>absurd e (by dsimp only;omega)⟩,fun e=>absurd e ho⟩
theorem znQ {p:zb} {nb:Nat} {s:za} (h:zE p) (S:SOk p nb s) {c:zw} {hd:Int} (hdd:hd=zZ p∨hd=zD p) (hk:c.Kind=1) (hh:c.Head=hd) (hn:c.Next=zD p) (hx:1≤c.X∧c.X<nb)
  (h1:1≤c.PC→yr c.H<nb) :
  SOk p nb {s with M:=(zk s.M c).1}∧(zk s.M c).2.Kind=1∧(zk s.M c).2.Head=hd∧(zk s.M c).2.Next=zD p∧(1≤(zk s.M c).2.X∧(zk s.M c).2.X<nb) ∧
  (1≤(zk s.M c).2.PC→yr (zk s.M c).2.H<nb):=by
 have hnb:=S.nbk
 have hE:=xW h
 have hF:=uI h
 have hk2: ¬c.Kind=2:=by omega
 unfold zk
 split
 ·exact ⟨S,hk,hh,hn,hx,h1⟩
 ·split
  ·rw [if_neg (fun e=>hk2 e.1),hh]
   exact ⟨S,hk,rfl,hn,hx,fun _=>hdd.elim (fun e=>by dsimp only;rw [e];exact S.cF) (fun e=>by dsimp only;rw [e];exact S.cE)⟩
  ·split
   ·try rw [if_neg hk2]
    have hpc:1≤c.PC:=by omega
    have n1:=h1 hpc
    have n2:=zga c.H
    refine ⟨?_,hk,hh,hn,hx,fun _=>n1⟩
    dsimp only
    rw [hn,xm (by omega) (by omega)]
    exact S.link h (by omega) (by rw [toInt_ofInt (by omega) (by omega)];omega)
   ·have n1:=h1 (by omega)
    simp only [if_neg hk2]
    refine ⟨S.swap h (by rw [hh];exact hdd) _ (by rw [zaI _ (by omega) (by omega)];exact hx.2),?_⟩
    split
    ·exact ⟨hk,hh,hn,hx,fun _=>n1⟩
    ·exact ⟨hk,hh,hn,hx,fun _=>n1⟩
theorem MOk.ask {p:zb} {nb:Nat} {g:zy} (hw:g.Mode=1→1≤g.Who∧g.Who≤p.Workers):MOk p nb (zeD p g) :=
 ⟨hw,fun e=>(by cases e),fun _=>⟨rfl,rfl,rfl,fun e=>absurd e (show ¬(1:Int)≤0 by decide),fun e=>absurd e (show ¬(2:Int)≤0 by decide)⟩,fun e=>(by cases e),fun e=>(by cases e)⟩
theorem zkc {p:zb} {nb:Nat} {s:za} {g:zy} (h:zE p) (S:SOk p nb s) (M:MOk p nb g) (hout:g.PC=5→g.C.Out≠1):SOk p nb (zp s g).1∧MOk p nb (zp s g).2∧((zp s g).2.PC=5→(zp s g).2.C.Out≠1):=by
 have hP:=S.P
 unfold zp
 split
 ·exact ⟨S,M,hout⟩
 split
 ·rename_i h7
  obtain ⟨a1,a2,a3,a4,a5⟩:=M.c7 h7
  obtain ⟨b1,b2,b3,b4,b5,b6⟩:=znQ h S (.inl rfl) a1 a2 a3 a4 a5
  unfold zak
  refine ⟨b1,?_,?_⟩
  ·dsimp only
   split<;>exact ⟨M.who,fun e=>(by dsimp only at e;omega),fun e=>(by dsimp only at e;omega),fun e=>(by dsimp only at e;omega),fun _=>⟨b2,b3,b4,b5,b6⟩⟩
  ·dsimp only
   split<;>exact fun e=>by dsimp only at e;omega
 split
 ·rename_i h6
  obtain ⟨a1,a2⟩:=M.b6 h6
  unfold zmx
  refine ⟨⟨hP,by simp only [List.length_set];exact S.bins,S.nbk,S.mem,S.cF,S.cE,S.cL⟩,⟨M.who,fun e=>(by cases e),fun e=>(by cases e),fun e=>(by cases e),fun _=>⟨rfl,by rw [hP],by rw [hP],⟨a1,a2⟩,fun e=>absurd e (show ¬(1:Int)≤0 by decide)⟩⟩,fun e=>by cases e⟩
 split
 ·rename_i h5
  obtain ⟨a1,a2,a3,a4,a5⟩:=M.c5 h5
  obtain ⟨b1,b2,b3,b4,b5,b6⟩:=zmZ h S (.inr rfl) a1 a2 a3 a4 a5 (hout h5)
  unfold zgb
  refine ⟨b1,?_,?_⟩
  ·dsimp only
   split
   ·rename_i e1
    exact ⟨M.who,fun e=>(by cases e),fun e=>(by cases e),fun _=>b6 e1,fun e=>(by cases e)⟩
   ·split
    ·rw [hP];exact MOk.ask M.who
    ·rename_i e1 e2
     exact ⟨M.who,fun e=>(by dsimp only at e;omega),fun _=>⟨b2,b3,b4,b5 e1 e2⟩,fun e=>(by dsimp only at e;omega),fun e=>(by dsimp only at e;omega)⟩
  ·dsimp only
   split
   ·exact fun e=>by cases e
   ·split
    ·exact fun _ e=>by cases e
    ·rename_i e1 e2;exact fun _=>e1
 split
 ·rw [hP]
  exact ⟨⟨rfl,S.bins,S.nbk,S.mem,S.cF,S.cE,S.cL⟩,MOk.ask M.who,fun _ e=>by cases e⟩
 split
 ·rename_i h3
  obtain ⟨a1,a2,a3,a4⟩:=M.d3 h3
  have hw:=M.who a4
  obtain ⟨d1,d2,d3⟩:=Z1 h hw.1 hw.2
  have hc:=h.cap
  have hf:=uI h
  have hs:SOk p nb {s with M:=(yG s.M g.D).1}:=by
   unfold yG
   split
   ·exact S
   split
   ·exact S
   split
   ·exact S
   split
   ·have:=zlT h hw.1 hw.2 a2 a3 g.D.B
    exact S.low h (by omega) _
   ·dsimp only
    rw [xm (by omega) (by omega)]
    exact S.low h (by omega) _
  have hd:(yG s.M g.D).2.Kind=1∧(yG s.M g.D).2.Base=zS p g.Who∧(yG s.M g.D).2.Cap=p.Cap:=by
   unfold yG
   split
   ·exact ⟨a1,a2,a3⟩
   split
   ·exact ⟨a1,a2,a3⟩
   split
   ·dsimp only
    split<;>exact ⟨a1,a2,a3⟩
   split<;>exact ⟨a1,a2,a3⟩
  unfold zf4
  refine ⟨hs,?_,?_⟩
  ·dsimp only
   split
   ·exact ⟨M.who,fun _=>⟨hd.1,hd.2.1,hd.2.2,a4⟩,fun e=>(by dsimp only at e;omega),fun e=>(by dsimp only at e;omega),fun e=>(by dsimp only at e;omega)⟩
   ·split
    ·rw [hP];exact MOk.ask M.who
    ·exact ⟨M.who,fun _=>⟨hd.1,hd.2.1,hd.2.2,a4⟩,fun e=>(by dsimp only at e;omega),fun e=>(by dsimp only at e;omega),fun e=>(by dsimp only at e;omega)⟩
  ·dsimp only
   split
   ·exact fun e=>by dsimp only at e;omega
   ·split
    ·exact fun _ e=>by cases e
    ·exact fun e=>by dsimp only at e;omega
 split
 ·rename_i h2
  exact ⟨⟨hP,S.bins,S.nbk,S.mem,S.cF,S.cE,S.cL⟩,⟨M.who,fun e=>(by dsimp only at e;omega),fun e=>(by dsimp only at e;omega),fun e=>(by dsimp only at e;omega),fun e=>(by dsimp only at e;omega)⟩,fun e=>by dsimp only at e;omega⟩
 split
 ·unfold zf0
  refine ⟨⟨hP,S.bins,S.nbk,S.mem,S.cF,S.cE,S.cL⟩,?_,?_⟩
  ·dsimp only
   split
   ·exact ⟨M.who,fun e=>(by cases e),fun e=>(by cases e),fun e=>(by cases e),fun e=>(by cases e)⟩
   split
   ·exact ⟨M.who,fun _=>⟨rfl,by rw [hP],by rw [hP],by assumption⟩,fun e=>(by cases e),fun e=>(by cases e),fun e=>(by cases e)⟩
   split
   ·exact ⟨M.who,fun e=>(by cases e),fun e=>(by cases e),fun e=>(by cases e),fun e=>(by cases e)⟩
   ·rw [hP];exact MOk.ask M.who
  ·dsimp only
   split
   ·exact fun e=>by cases e
   split
   ·exact fun e=>by cases e
   split
   ·exact fun e=>by cases e
   ·exact fun _ e=>by cases e
 ·exact ⟨⟨hP,S.bins,S.nbk,S.mem,S.cF,S.cE,S.cL⟩,⟨M.who,fun e=>(by cases e),fun e=>(by cases e),fun e=>(by cases e),fun e=>(by cases e)⟩,fun e=>by cases e⟩
theorem WV (s:za) (g:zy):(zp s g).2.Obj=g.Obj∧(zp s g).2.Who=g.Who∧(zp s g).2.Mode=g.Mode:=by
 unfold zp
 split
 ·exact ⟨rfl,rfl,rfl⟩
 split
 ·unfold zak;dsimp only;split<;>exact ⟨rfl,rfl,rfl⟩
 split
 ·exact ⟨rfl,rfl,rfl⟩
 split
 ·unfold zgb;dsimp only
  split
  ·exact ⟨rfl,rfl,rfl⟩
  ·split<;>exact ⟨rfl,rfl,rfl⟩
 split
 ·exact ⟨rfl,rfl,rfl⟩
 split
 ·unfold zf4;dsimp only
  split
  ·exact ⟨rfl,rfl,rfl⟩
  ·split<;>exact ⟨rfl,rfl,rfl⟩
 split
 ·exact ⟨rfl,rfl,rfl⟩
 split
 ·unfold zf0;dsimp only
  split
  ·exact ⟨rfl,rfl,rfl⟩
  split
  ·exact ⟨rfl,rfl,rfl⟩
  split<;>exact ⟨rfl,rfl,rfl⟩
 ·exact ⟨rfl,rfl,rfl⟩
end
end Go.Pe.G
namespace Go.Pe.G
open Go.Pe
noncomputable section
def OkV (nb:Nat) (v:BitVec 64):Prop:=yr v<nb∧0≤v.toInt∧v.toInt<nb
theorem zq2 {nb:Nat} (h:1≤nb):OkV nb 0#64:=by
 refine ⟨by rw [zgd];simp;omega,by simp,by simp;omega⟩
theorem zn4 {nb:Nat} {b:Int} (h:0≤b) (h2:b<nb) (h3:nb<1000):OkV nb (BitVec.ofInt 64 b):=by
 have e:(BitVec.ofInt 64 b).toNat=b.toNat:=by rw [BitVec.toNat_ofInt];omega
 refine ⟨by rw [zgd,e];omega,?_⟩
 rw [toInt_ofInt h (by omega)]
 omega
theorem zoG {b:Int} (h:0≤b) (h2:b<4294967296):yV 0#64 b=BitVec.ofInt 64 b:=by
 have e:(BitVec.ofInt 64 b).toNat=b.toNat:=by rw [BitVec.toNat_ofInt];omega
 apply BitVec.eq_of_toNat_eq
 unfold yV
 rw [BitVec.toNat_or,BitVec.toNat_and,e]
 have:b.toNat&&&(4294967295#64).toNat=b.toNat:=(Nat.and_two_pow_sub_one_eq_mod b.toNat 32).trans (Nat.mod_eq_of_lt (by omega))
 rw [this]
 simp
def YZ (F:Int) (nb:Nat) (m:List (BitVec 64)):Prop:=∀a,F≤a→OkV nb (ld m a)
theorem YZ.st {F:Int} {nb:Nat} {m:List (BitVec 64)} (h:YZ F nb m) (a:Int) {v:BitVec 64} (hv:OkV nb v):YZ F nb (st m a v):=fun b hb=>by
 rw [Xd]
 split
 ·exact hv
 ·exact h b hb
theorem YZ.links {F:Int} {nb:Nat} (h1:1≤nb) (h3:nb<1000): ∀(l:List Int) (m:List (BitVec 64)) (n:Int),(∀b∈l,0≤b∧b<nb)→YZ F nb m→YZ F nb (links m n l)
 | [],m,n,_,h=>h
 | [a],m,n,_,h=>h.st _ (zq2 h1)
 | a::b::l,m,n,hb,h=>YZ.links h1 h3 (b::l) _ n (fun x hx=>hb x (List.mem_cons_of_mem _ hx)) (h.st _ (zn4 (hb b (by simp)).1 (hb b (by simp)).2 h3))
theorem YZ.lay {F:Int} {nb:Nat} (h1:1≤nb) (h3:nb<1000) {l:List Int} {m:List (BitVec 64)} {hd n:Int} (hb: ∀b∈l,0≤b∧b<nb) (h:YZ F nb m):YZ F nb (zai m hd n l):=by
 unfold zai
 refine (YZ.links h1 h3 l m n hb h).st _ ?_
 cases l with
 | nil=>rw [List.headD_nil,zoG (by omega) (by omega)];exact zn4 (by omega) (by omega) h3
 | cons a r =>
  have:=hb a (by simp)
  rw [List.headD_cons,zoG this.1 (by omega)]
  exact zn4 this.1 this.2 h3
theorem zcn {k:Nat} {b:Int} (h:b∈xh k):1≤b∧b≤k:=by
 unfold xh at h
 obtain ⟨i,hi,rfl⟩:=List.mem_map.1 h
 have:=List.mem_range.1 hi
 omega
theorem zav {p:zb} (h:zE p):(zT p:Int)=p.Most+p.Workers+p.Mutators∧2≤zT p∧zT p≤14:=by
 have:=h.most
 have:=h.n
 have:=h.wk
 have:=h.mt
 unfold zT
 omega
theorem zrX {p:zb} (h:zE p):SOk p (zT p+1) (wg p):=by
 have hb:=zav h
 have hf:=zie h
 have hn:=h.n
 have hw:=h.wk
 have hc:=h.cap
 have hmo:=h.most
 have hF:=uI h
 have hE:=xW h
 have hcl:=WR p p.Workers.toNat
 have hfe:zZ p=((p.Workers.toNat*(p.Cap.toNat+2):Nat):Int):=by
  rw [hF.1]
  have e1:p.Workers=((p.Workers.toNat:Nat):Int):=by omega
  have e2:p.Cap+2=((p.Cap.toNat+2:Nat):Int):=by omega
  rw [e2,Int.natCast_mul]
  rw [←e1]
 have h0:YZ (zZ p) (zT p+1) (ZG p p.Workers.toNat++List.replicate (2+zT p) 0#64):=by
  intro a ha
  have:ld (ZG p p.Workers.toNat++List.replicate (2+zT p) 0#64) a=0#64:=by
   unfold ld
   rw [if_pos (by omega),List.getD_eq_getElem?_getD,List.getElem?_append_right (by omega),List.getElem?_replicate]
   split<;>rfl
  rw [this]
  exact zq2 (by omega)
 have h1:YZ (zZ p) (zT p+1) (wg p).M:=by
  refine YZ.lay (by omega) (by omega) (fun b hb'=> ?_) (YZ.lay (by omega) (by omega) (fun b hb'=> ?_) h0)
  ·have:=zcn (List.mem_of_mem_drop hb');omega
  ·have:=zcn (List.mem_of_mem_take hb');omega
 have hlen:(wg p).M.length=p.Workers.toNat*(p.Cap.toNat+2)+(2+zT p):=by
  show (zai _ _ _ _).length=_
  rw [zld,zld,List.length_append,hcl,List.length_replicate]
 refine ⟨rfl,?_,by omega,by rw [hlen];omega,(h1 _ (by omega)).1,(h1 _ (by omega)).1,fun a ha=>(h1 a (by omega)).2⟩
 have hd:(wg p).Bins.length=1+(yW p).length+(zT p-(yW p).length):=by
  show ([[]]++yW p++List.replicate (zT p-(yW p).length) ([]:List Int)).length=_
  rw [List.length_append,List.length_append,List.length_replicate];rfl
 have h2:=hb.1
 have hmt:=h.mt
 rw [hd]
 omega
def Yk (mode obj who:Int):zy:=⟨0,mode,obj,who,⟨0,0,0,0,0#64,0#64,0,0⟩,⟨0,0,0,0,0#64,0,0,0⟩,0,0⟩
theorem zsc (a b c:Int):zfg a b c=some (Yk a b c,()):=by rw [zmG];rfl
end
end Go.Pe.G
namespace Go.Pe.G
open Go.Pe
noncomputable section
structure Xg (s:za):Prop where
 m:s.M.length<1000000
 bins:s.Bins.length<1000000
 bin: ∀x∈s.Bins,x.length<1000000
 acks:s.Acks.length<1000000
 bal:s.L.Bal.length<1000000
 ws:s.Ws.length<1000000
 w: ∀x∈s.Ws,x.Batch.length<1000000
 ms:s.Ms.length<1000000
 mu: ∀x∈s.Ms,x.Regs.length<1000000∧x.Buf.length<1000000∧x.Batch.length<1000000
 objs:s.H.Objs.length<1000000
 obj: ∀x∈s.H.Objs,x.length<1000000
 pobjs:s.P.H.Objs.length<1000000
 pobj: ∀x∈s.P.H.Objs,x.length<1000000
 regs:s.P.Regs.length<1000000
 reg: ∀x∈s.P.Regs,x.length<1000000
 progs:s.P.Progs.length<1000000
 prog: ∀x∈s.P.Progs,x.length<1000000
 picks:s.P.Picks.length<1000000
theorem Uv (m:List (BitVec 64)) (c:zw):(zk m c).1.length=m.length:=by
 unfold zk sw
 split
 ·rfl
 split
 ·rfl
 split
 ·split<;>simp [u6]
 ·dsimp only;split<;>simp [u6]
theorem zem (m:List (BitVec 64)) (d:zg):(yG m d).1.length=m.length:=by
 unfold yG
 split
 ·rfl
 split
 ·rfl
 split
 ·rfl
 split<;>simp [u6]
theorem zef (s:za) (g:zy): ∃m b t w f,(zp s g).1={s with M:=m,Bins:=b,T:=t,Work:=w,Flag:=f}∧m.length=s.M.length∧b.length=s.Bins.length ∧
  (∀x∈b,x∈s.Bins∨x=[g.Obj])∧(t=s.T∨t=(ui s.T g.Obj).1)∧(w=s.Work∨w=wc (s.Work+1)∨w=wc (s.Work-1)):=by
 unfold zp
 split
 ·exact ⟨s.M,s.Bins,s.T,s.Work,s.Flag,rfl,rfl,rfl,fun x h=> .inl h,.inl rfl,.inl rfl⟩
 split
 ·exact ⟨_,s.Bins,s.T,s.Work,s.Flag,rfl,Uv _ _,rfl,fun x h=> .inl h,.inl rfl,.inl rfl⟩
 split
 ·refine ⟨s.M,_,s.T,s.Work,s.Flag,rfl,rfl,by simp,fun x h=> ?_,.inl rfl,.inl rfl⟩
  rcases List.mem_or_eq_of_mem_set h with h | h
  ·exact .inl h
  ·exact .inr h
 split
 ·exact ⟨_,s.Bins,s.T,s.Work,s.Flag,rfl,Uv _ _,rfl,fun x h=> .inl h,.inl rfl,.inl rfl⟩
 split
 ·exact ⟨s.M,s.Bins,s.T,s.Work,true,rfl,rfl,rfl,fun x h=> .inl h,.inl rfl,.inl rfl⟩
 split
 ·exact ⟨_,s.Bins,s.T,s.Work,s.Flag,rfl,zem _ _,rfl,fun x h=> .inl h,.inl rfl,.inl rfl⟩
 split
 ·exact ⟨s.M,s.Bins,s.T,_,s.Flag,rfl,rfl,rfl,fun x h=> .inl h,.inl rfl,.inr (.inr rfl)⟩
 split
 ·exact ⟨s.M,s.Bins,_,s.Work,s.Flag,rfl,rfl,rfl,fun x h=> .inl h,.inr rfl,.inl rfl⟩
 ·exact ⟨s.M,s.Bins,s.T,_,s.Flag,rfl,rfl,rfl,fun x h=> .inl h,.inl rfl,.inr (.inl rfl)⟩
theorem zow {p:zb} (h:zE p):Xg (wg p):=by
 have S:=zrX h
 have hb:=zav h
 have hg:=zjj h
 have hn:=h.n
 have hm:=h.mt
 have hw:=h.wk
 have hs:=h.slots
 have hrl:=h.regs
 have hpl:=h.progs
 have hobj: ∀o∈p.H.Objs,o.length<1000000:=fun o ho=>by have:=(h.objs o ho).1;omega
 have hreg: ∀r∈p.Regs,r.length<1000000:=fun r hr=>by have:=(h.reg r hr).1;omega
 refine ⟨by have:=S.mem;omega,by rw [S.bins];omega,fun x hx=> ?_,?_,?_,?_,fun x hx=> ?_,?_,fun x hx=> ?_,by show p.H.Objs.length<_;omega,hobj,by show p.H.Objs.length<_;omega,hobj,by show p.Regs.length<_;omega,hreg,by show p.Progs.length<_;omega,fun x hx=> ?_,?_⟩
 ·have hx:x∈[[]]++yW p++List.replicate (zT p-(yW p).length) []:=hx
  rcases List.mem_append.1 hx with hx | hx
  ·rcases List.mem_append.1 hx with hx | hx
   ·simp at hx;subst hx;simp
   ·have:=zgG _ _ _ _ hx;omega
  ·have:=(List.mem_replicate.1 hx).2;subst this;simp
 ·show (List.replicate p.Mutators.toNat (0:Int)).length<_;simp;omega
 ·show (List.replicate p.Mutators.toNat (0:Int)).length<_;simp;omega
 ·show ((List.range p.Workers.toNat).map (uJ p)).length<_;simp;omega
 ·have hx:x∈(List.range p.Workers.toNat).map (uJ p):=hx
  obtain ⟨i,_,rfl⟩:=List.mem_map.1 hx
  simp [uJ]
 ·show (p.Regs.map v9).length<_;simp;omega
 ·have hx:x∈p.Regs.map v9:=hx
  obtain ⟨r,hr,rfl⟩:=List.mem_map.1 hx
  exact ⟨hreg r hr,by simp [v9],by simp [v9]⟩
 ·obtain ⟨i,hi⟩:=List.getElem?_of_mem hx
  have hlt:=(List.getElem?_eq_some_iff.1 hi).1
  have:=(h.prog i _ x (List.getElem?_eq_getElem (show i<p.Regs.length from (show p.Progs.length=p.Regs.length by omega)▸hlt)) hi).1
  omega
 ·show p.Picks.length<_;rw [h.picks];simp
end
end Go.Pe.G
namespace Go.Pe.G
open Go.Pe
noncomputable section
theorem XH {α B C:Type} {f:List α×List α×Int×Int×Unit→Option (xM (List α×List α×Int×Int×Unit) B C)} {l:List α} {b:B} (hl:l.length<1000000)
  (h1: ∀(i:Nat) (x:α),l[i]? =some x→f (l,l,(l.length:Int),(i:Int),())=some (.again (l,l,(l.length:Int),((i+1:Nat):Int),())))
  (h2:f (l,l,(l.length:Int),(l.length:Int),())=some (.brk b)):yP f (l,l,(l.length:Int),0,())=some (.brk b):=by
 refine (Zf (f:=f) (fun a=>∃i:Nat,a=(l,l,(l.length:Int),(i:Int),())∧i≤l.length) (fun a=>l.length-a.2.2.2.1.toNat) (fun o=>o= .brk b) ?_ (l,l,(l.length:Int),0,()) ⟨0,rfl,by omega⟩ (wU (by dsimp only;omega))).elim fun o h=> ?_
 rotate_left
 ·rw [h.1,h.2]
 ·rintro _ ⟨i,rfl,hi⟩
  rcases Nat.lt_or_ge i l.length with hlt | hge
  ·refine ⟨_,h1 i _ (List.getElem?_eq_getElem hlt),⟨i+1,rfl,hlt⟩,?_⟩
   show l.length-((i+1:Nat):Int).toNat<l.length-(i:Int).toNat
   omega
  ·have:i=l.length:=by omega
   subst this
   exact ⟨_,h2,rfl⟩
theorem wn {l:List (Int)} (hl:l.length<1000000):yj l l=some (true,()):=by
 rw [zdj,yQ,if_pos rfl,XH (b:=()) hl (fun i x hx=> ?_) (by rw [X9];simp)]
 ·rfl
 ·have hlt:=uh hx
  rw [X9,zA,if_pos hlt,wI hx,Option.bind_some,Option.bind_some,xn (by omega)]
  simp
theorem zar {l:List (BitVec 64)} (hl:l.length<1000000):Zq l l=some (true,()):=by
 rw [zah,yQ,if_pos rfl,XH (b:=()) hl (fun i x hx=> ?_) (by rw [ZS];simp)]
 ·rfl
 ·have hlt:=uh hx
  rw [ZS,zA,if_pos hlt,wI hx,Option.bind_some,Option.bind_some,xn (by omega)]
  simp
theorem za3 {l:List (Int)} (hl:l.length<1000000):ZH l l=some (true,()):=by
 rw [zbo,yQ,if_pos rfl,XH (b:=()) hl (fun i x hx=> ?_) (by rw [YG];simp)]
 ·rfl
 ·have hlt:=uh hx
  rw [YG,zA,if_pos hlt,wI hx,Option.bind_some,Option.bind_some,xn (by omega)]
  simp
theorem UG {l:List (zj)} (hl:l.length<1000000):uT l l=some (true,()):=by
 rw [UM,yQ,if_pos rfl,XH (b:=()) hl (fun i x hx=> ?_) (by rw [ZC];simp)]
 ·rfl
 ·have hlt:=uh hx
  rw [ZC,zA,if_pos hlt,wI hx,Option.bind_some,Option.bind_some,xn (by omega)]
  simp
theorem Vw {l:List (zm)} (hl:l.length<1000000):vT l l=some (true,()):=by
 rw [Vx,yQ,if_pos rfl,XH (b:=()) hl (fun i x hx=> ?_) (by rw [uV];simp)]
 ·rfl
 ·have hlt:=uh hx
  rw [uV,zA,if_pos hlt,wI hx,Option.bind_some,Option.bind_some,xn (by omega)]
  simp
theorem wC {l:List (List Int)} (hl:l.length<1000000) (he: ∀x∈l,x.length<1000000):zt l l=some (true,()):=by
 rw [ua,yQ,if_pos rfl,XH (b:=()) hl (fun i x hx=> ?_) (by rw [xk];simp)]
 ·rfl
 ·have hlt:=uh hx
  rw [xk,zA,if_pos hlt,wI hx,Option.bind_some,Option.bind_some,wn (he x (List.mem_of_getElem? hx)),Option.bind_some,xn (by omega)]
  simp
theorem Zk {l:List (List zj)} (hl:l.length<1000000) (he: ∀x∈l,x.length<1000000):yg l l=some (true,()):=by
 rw [we,yQ,if_pos rfl,XH (b:=()) hl (fun i x hx=> ?_) (by rw [yE];simp)]
 ·rfl
 ·have hlt:=uh hx
  rw [yE,zA,if_pos hlt,wI hx,Option.bind_some,Option.bind_some,UG (he x (List.mem_of_getElem? hx)),Option.bind_some,xn (by omega)]
  simp
theorem zro {w:ze} (h:w.Batch.length<1000000):VJ w w=some (true,()):=by
 rw [zgW,wn h];simp
theorem zpD {m:zc} (h:m.Regs.length<1000000∧m.Buf.length<1000000∧m.Batch.length<1000000):WL m m=some (true,()):=by
 rw [zfN,wn h.1,wn h.2.1,wn h.2.2,zdU];simp
theorem vn {l:List (ze)} (hl:l.length<1000000) (he: ∀x∈l,x.Batch.length<1000000):z8 l l=some (true,()):=by
 rw [xV,yQ,if_pos rfl,XH (b:=()) hl (fun i x hx=> ?_) (by rw [yA];simp)]
 ·rfl
 ·have hlt:=uh hx
  rw [yA,zA,if_pos hlt,wI hx,Option.bind_some,Option.bind_some,zro (he x (List.mem_of_getElem? hx)),Option.bind_some,xn (by omega)]
  simp
theorem w8 {l:List (zc)} (hl:l.length<1000000) (he: ∀x∈l,x.Regs.length<1000000∧x.Buf.length<1000000∧x.Batch.length<1000000):zW l l=some (true,()):=by
 rw [xz,yQ,if_pos rfl,XH (b:=()) hl (fun i x hx=> ?_) (by rw [yw];simp)]
 ·rfl
 ·have hlt:=uh hx
  rw [yw,zA,if_pos hlt,wI hx,Option.bind_some,Option.bind_some,zpD (he x (List.mem_of_getElem? hx)),Option.bind_some,xn (by omega)]
  simp
theorem zoU {h:zC} (h1:h.Objs.length<1000000) (h2: ∀x∈h.Objs,x.length<1000000):uZ h h=some (true,()):=by
 rw [znT,wC h1 h2];simp
theorem zsY {s:za} (h:Xg s):zby s s=some (true,()):=by
 have hp:ZF s.P s.P=some (true,()):=by
  rw [zoc,zgx,zoU h.pobjs h.pobj,wC h.regs h.reg,Zk h.progs h.prog,Vw h.picks]
  simp
 have hl:uv s.L s.L=some (true,()):=by
  rw [zk3,za3 h.bal];simp
 have hm:Yy s.M s.M=some (true,()):=by
  rw [zpb,zar h.m];rfl
 rw [zmY,hp,zoU h.objs h.obj,hm,wC h.bins h.bin,wn h.acks,hl,vn h.ws h.w,w8 h.ms h.mu]
 simp
end
end Go.Pe.G
namespace Go.Pe.G
open Go.Pe
noncomputable section
def goF {S:Type} (g:Nat→S→S):Nat→Nat→S→S
 | _,0,s=>s
 | i,k+1,s=>goF g (i+1) k (g i s)
theorem zrZ {S σ B C:Type} {f:σ→Option (xM σ B C)} (A:Int→S→σ) (b:S→B) (n:Nat) (hn:n<1000000) (g:Nat→S→S) (Inv:S→Prop) (hg: ∀i s,Inv s→Inv (g i s))
  (h1: ∀(i:Nat) s,i<n→Inv s→f (A (i:Int) s)=some (.again (A ((i+1:Nat):Int) (g i s)))) (h2: ∀s,Inv s→f (A (n:Int) s)=some (.brk (b s))) {s:S} (hs:Inv s) :
  yP f (A 0 s)=some (.brk (b (goF g 0 n s))):=by
 have key: ∀(k i:Nat) (s:S),n-i=k→i≤n→Inv s→∀m,k<m→ZM f m (A (i:Int) s)=some (.brk (b (goF g i k s))):=by
  intro k
  induction k with
  | zero =>
   intro i s hk hi hs m hm
   have:i=n:=by omega
   subst this
   obtain ⟨m,rfl⟩: ∃x,m=x+1:=⟨m-1,by omega⟩
   simp only [ZM]
   rw [h2 s hs];rfl
  | succ k ih =>
   intro i s hk hi hs m hm
   obtain ⟨m,rfl⟩: ∃x,m=x+1:=⟨m-1,by omega⟩
   simp only [ZM]
   rw [h1 i s (by omega) hs,Option.bind_some]
   exact ih (i+1) _ (by omega) (by omega) (hg i s hs) m (by omega)
 have:=key n 0 s (by omega) (by omega) hs Wn (wU (by omega))
 rw [zaq]
 exact this
end
end Go.Pe.G
namespace Go.Pe.G
open Go.Pe
noncomputable section
def U8 (m:List (BitVec 64)) (d:zg):List (BitVec 64)×zg :=
 if d.PC<0∨7≤d.PC then (m,d)
 else if d.PC=0 then (m,{d with B:=ld m (wc (d.Base+1)),PC:=1})
 else if d.PC=1 then (st m (wc (d.Base+1)) (d.B-1#64),{d with PC:=2})
 else if d.PC=2 then (m,{d with T:=ld m d.Base,PC:=if 0<(ld m d.Base-(d.B-1#64)).toInt then 5 else 3})
 else if d.PC=3 then (m,{d with X:=(ld m (WB d (d.B-1#64))).toInt,PC:=4,Out:=if d.T=d.B-1#64 then d.Out else 1})
 else if d.PC=4 then ((sw m d.Base d.T (d.T+1#64)).1,{d with PC:=if (sw m d.Base d.T (d.T+1#64)).2 then 6 else 5})
 else if d.PC=5 then (st m (wc (d.Base+1)) d.B,{d with X:=0,Out:=2,PC:=6})
 else (st m (wc (d.Base+1)) d.B,{d with Out:=1,PC:=7})
def Xz (m:List (BitVec 64)) (d:zg):List (BitVec 64)×zg :=
 if d.PC<0∨4≤d.PC then (m,d)
 else if d.PC=0 then (m,{d with T:=ld m d.Base,PC:=1})
 else if d.PC=1 then (m,{d with B:=ld m (wc (d.Base+1)),PC:=2,Out:=if 0<(ld m (wc (d.Base+1))-d.T).toInt then d.Out else 2})
 else if d.PC=2 then (m,{d with X:=(ld m (WB d d.T)).toInt,PC:=3})
 else ((sw m d.Base d.T (d.T+1#64)).1,if (sw m d.Base d.T (d.T+1#64)).2 then {d with Out:=1,PC:=4} else {d with X:=0,Out:=4,PC:=4})
def zM (m:List (BitVec 64)) (d:zg):List (BitVec 64)×zg :=
 if d.Out≠0 then (m,d) else if d.Kind=1 then yG m d else if d.Kind=2 then U8 m d else if d.Kind=3 then Xz m d else (m,d)
theorem zq7 {m:List (BitVec 64)} {d:zg} (h:d.Kind=1):zM m d=yG m d:=by
 unfold zM
 by_cases h0:d.Out≠0
 ·rw [if_pos h0];unfold yG;rw [if_pos (.inl h0)]
 ·rw [if_neg h0,if_pos h]
theorem zrR {α:Type} {x y:Option α} {v:α} (h:x=some v):Option.or x y=some v:=by subst h;rfl
theorem zeq {α:Type} {x y z:Option α} (h:x=none) (h2:y=z):Option.or x y=z:=by subst h;exact h2
theorem zvg:wc 1=1∧wc 2=2∧wc 3=3∧wc 4=4∧wc 5=5∧wc 6=6∧wc 7=7:=by decide
theorem zud:w64 5=5∧w64 6=6∧w64 7=7:=by
 refine ⟨?_,?_,?_⟩<;>exact yU (by omega) (by omega)
theorem zsM {m:List (BitVec 64)} (hm:m.length<4294967296) {d:zg} (hc:d.Cap<1000):V1 m d=some ((zM m d).1,(zM m d).2,()):=by
 by_cases k1:d.Kind=1
 ·rw [zq7 k1];exact zgc hm k1 hc
 obtain ⟨w0,w1,w2,w3,w4⟩:=zpH
 obtain ⟨w5,w6,w7⟩:=zud
 obtain ⟨v1,v2,v3,v4,v5,v6,v7⟩:=zvg
 have hsb: ∀d:zg,wM m d=some (m,{d with B:=ld m (wc (d.Base+1))},()):=fun d=>by
  rw [Xj,xC,um,Option.bind_some,XI];rfl
 have htk: ∀d:zg,YF m d=some ((sw m d.Base d.T (d.T+1#64)).1,(sw m d.Base d.T (d.T+1#64)).2,()):=fun d=>by
  obtain ⟨v,hv⟩:=zon hm d.Base d.T (d.T+1#64)
  rw [zfS,ZD,Option.bind_some,hv];rfl
 rw [zgj,zdK,zkA,zkz,zkr]
 simp only [zA,yQ,if_neg k1]
 unfold zM
 by_cases k2:d.Kind=2
 ·refine zeq (by simp [k2]) (zrR ?_)
  rw [if_pos k2,Option.bind_some]
  by_cases g0:d.Out=0
  rotate_left
  ·rw [if_neg g0,if_pos (show d.Out≠0 from g0)]
  rw [if_pos g0,if_neg (show ¬(d.Out≠0) from fun e=>e g0),if_neg k1,if_pos k2]
  unfold U8
  by_cases g1:d.PC<0
  ·rw [if_pos g1,if_pos (.inl g1)]
  rw [if_neg g1]
  by_cases g2:7≤d.PC
  ·rw [if_pos g2,if_pos (.inr g2)]
  rw [if_neg g2,if_neg (show ¬(d.PC<0∨7≤d.PC) by omega)]
  have hpc:d.PC=0∨d.PC=1∨d.PC=2∨d.PC=3∨d.PC=4∨d.PC=5∨d.PC=6:=by omega
  rcases hpc with h | h | h | h | h | h | h
  ·simp [h,hsb,w1]
  ·simp [h,zeH,xC,um,UZ hm,v1,v2,v3,v4,v5,v6,v7]
  ·rw [h,if_neg (by decide),if_neg (by decide),if_neg (by decide),if_neg (by decide),if_pos rfl,if_neg (by decide),if_neg (by decide),if_pos rfl]
   simp only [zbS,ZD,Option.bind_some,XI,ze3,zA]
   by_cases hs:0<(ld m d.Base-(d.B-1#64)).toInt
   ·simp only [if_pos hs,Option.bind_some,Int.reduceAdd,w5]
   ·simp only [if_neg hs,Option.bind_some,h,Int.reduceAdd,w3]
  ·simp only [h,zd1,zgH hc,Option.bind_some,XI,yQ,wx]
   by_cases hs:d.T=d.B-1#64
   ·simp [hs,w4,h]
   ·simp [hs,w4,h]
  ·simp only [h,zdw,htk,Option.bind_some]
   cases hs:(sw m d.Base d.T (d.T+1#64)).2 with
   | true=>simp [hs,w6,h]
   | false=>simp [hs,w5,h]
  ·simp [h,zdH,wx,k1,xC,um,UZ hm,v1,v2,v3,v4,v5,v6,v7]
  ·simp [h,zea,wx,xC,um,UZ hm,v1,v2,v3,v4,v5,v6,v7]
 by_cases k3:d.Kind=3
 ·refine zeq (by simp [k2,k3]) (zeq (by simp [k2,k3]) (zrR ?_))
  rw [if_neg k2,if_pos k3,Option.bind_some]
  by_cases g0:d.Out=0
  rotate_left
  ·rw [if_neg g0,if_pos (show d.Out≠0 from g0)]
  rw [if_pos g0,if_neg (show ¬(d.Out≠0) from fun e=>e g0),if_neg k1,if_neg k2,if_pos k3]
  unfold Xz
  by_cases g1:d.PC<0
  ·rw [if_pos g1,if_pos (.inl g1)]
  rw [if_neg g1]
  by_cases g2:4≤d.PC
  ·rw [if_pos g2,if_pos (.inr g2)]
  rw [if_neg g2,if_neg (show ¬(d.PC<0∨4≤d.PC) by omega)]
  have hpc:d.PC=0∨d.PC=1∨d.PC=2∨d.PC=3:=by omega
  rcases hpc with h | h | h | h
  ·simp [h,zd5,ZD,XI,w1]
  ·rw [h,if_neg (by decide),if_neg (by decide),if_pos rfl,if_neg (by decide),if_pos rfl]
   simp only [zdV,xC,Option.bind_some,XI,ze3,yQ,um]
   by_cases hs:0<(ld m (wc (d.Base+1))-d.T).toInt
   ·simp only [if_pos hs,Option.bind_some,Int.reduceAdd,v2,h]
   ·simp only [if_neg hs,Option.bind_some,Int.reduceAdd,v2,h]
  ·simp [h,zdp,zgH hc,XI,w3]
  ·simp only [h,zco,htk,Option.bind_some,wx]
   cases hs:(sw m d.Base d.T (d.T+1#64)).2 with
   | true=>simp [hs,w4,h]
   | false=>simp [hs,w4,h,k1]
 ·refine zeq (by simp [k2,k3]) (zeq (by simp [k2,k3]) (zeq (by simp [k2,k3]) ?_))
  rw [if_neg k2,if_neg k3,Option.bind_some]
  by_cases g0:d.Out=0
  ·simp [g0,k1,k2,k3]
  ·simp [g0]
theorem zsl (m:List (BitVec 64)) (d:zg):(U8 m d).1.length=m.length∧(U8 m d).2.Kind=d.Kind∧(U8 m d).2.Base=d.Base∧(U8 m d).2.Cap=d.Cap:=by
 unfold U8 sw st
 split
 ·exact ⟨rfl,rfl,rfl,rfl⟩
 split
 ·exact ⟨rfl,rfl,rfl,rfl⟩
 split
 ·refine ⟨?_,rfl,rfl,rfl⟩;dsimp only;split<;>simp
 split
 ·exact ⟨rfl,rfl,rfl,rfl⟩
 split
 ·exact ⟨rfl,rfl,rfl,rfl⟩
 split
 ·refine ⟨?_,rfl,rfl,rfl⟩;dsimp only;split<;>(try split)<;>simp
 split<;>(refine ⟨?_,rfl,rfl,rfl⟩;dsimp only;split<;>simp)
theorem zqN (m:List (BitVec 64)) (d:zg):(Xz m d).1.length=m.length∧(Xz m d).2.Kind=d.Kind∧(Xz m d).2.Base=d.Base∧(Xz m d).2.Cap=d.Cap:=by
 unfold Xz sw st
 split
 ·exact ⟨rfl,rfl,rfl,rfl⟩
 split
 ·exact ⟨rfl,rfl,rfl,rfl⟩
 split
 ·exact ⟨rfl,rfl,rfl,rfl⟩
 split
 ·exact ⟨rfl,rfl,rfl,rfl⟩
 ·refine ⟨?_,?_,?_,?_⟩<;>dsimp only<;>split<;>(try split)<;>simp
end
end Go.Pe.G
namespace Go.Pe.G
open Go.Pe
noncomputable section
def yv (h:zC) (o:Int):List Int:=h.Objs.getD (o-1).toNat []
def yX (h:zC) (o s:Int):Bool:=decide (1≤o)&&decide (o≤(h.Objs.length:Int))&&decide (0≤s)&&decide (s<((yv h o).length:Int))
def zJ (h:zC) (o s:Int):Int:=if yX h o s then (yv h o).getD s.toNat 0 else 0
def zO (s:BitVec 64) (o:Int):Bool:= !(decide (s&&&bit o=0#64))
def xg (t:zo) (o:Int):Int:=if zO (t.Marks&&&t.Black) o then 2 else if zO t.Marks o then 1 else 0
def vq (t:zo) (o:Int):zo:=if xg t o=1 then {t with Black:=t.Black|||bit o} else t
def U9 (l:zq) (who:Int):zq :=
 if 1≤who∧who≤(l.Bal.length:Int) then {l with Scanned:=wc (l.Scanned+1),Bal:=l.Bal.set (who-1).toNat (wc (l.Bal.getD (who-1).toNat 0+1))}
 else {l with Scanned:=wc (l.Scanned+1),Pool:=wc (l.Pool+1)}
def XB (s:za) (b:Int):List Int:=s.Bins.getD b.toNat []
def znA (p:zb) (h x:Int):zw:=⟨2,0,h,zD p,0#64,x,0,0⟩
def W5 (p:zb) (h x:Int):zw:=⟨1,0,h,zD p,0#64,x,0,0⟩
def onW (s:za) (slot:Int):Int:=if slot=s.H.Slots then 8 else 5
def V6 (p:zb) (w:Int) (x:ze):ze:={x with PC:=0,Victim:=w,D:=⟨2,0,zS p w,p.Cap,0#64,0#64,0,0⟩}
def Ur (n v:Int):Int:=if v<n then v+1 else 1
def Ze (p:zb) (w:Int) (x:ze):ze :=
 if Ur p.Workers x.Victim=w then {x with PC:=2,Victim:=w,C:=znA p (zZ p) 0}
 else {x with PC:=1,Victim:=Ur p.Workers x.Victim,D:=⟨3,0,zS p (Ur p.Workers x.Victim),p.Cap,0#64,0#64,0,0⟩}
def zi (s:za) (w:Int) (x:ze):za×ze :=
 if x.PC=0∨x.PC=1 then
  ({s with M:=(zM s.M x.D).1},
   if (zM s.M x.D).2.Out=1 then {x with D:=(zM s.M x.D).2,Victim:=w,PC:=5,Obj:=(zM s.M x.D).2.X,Slot:=0}
   else if (zM s.M x.D).2.Out=2∨(zM s.M x.D).2.Out=4 then Ze s.P w {x with D:=(zM s.M x.D).2} else {x with D:=(zM s.M x.D).2})
 else if x.PC=2 then
  ({s with M:=(zk s.M x.C).1},
   if (zk s.M x.C).2.Out=1 then {x with C:=(zk s.M x.C).2,Bin:=(zk s.M x.C).2.X,PC:=3}
   else if (zk s.M x.C).2.Out=2 then V6 s.P w {x with C:=(zk s.M x.C).2} else {x with C:=(zk s.M x.C).2})
 else if x.PC=3 then ({s with Bins:=s.Bins.set x.Bin.toNat []},{x with Batch:=XB s x.Bin,PC:=4,C:=W5 s.P (zD s.P) x.Bin})
 else if x.PC=4 then
  ({s with M:=(zk s.M x.C).1},if (zk s.M x.C).2.Out=1 then {x with C:=(zk s.M x.C).2,Bin:=0,PC:=7} else {x with C:=(zk s.M x.C).2})
 else if x.PC=5 then
  (s,if zJ s.H x.Obj x.Slot=0 then {x with Slot:=wc (x.Slot+1),PC:=onW s (wc (x.Slot+1))} else {x with Slot:=wc (x.Slot+1),PC:=6,G:=Yk 1 (zJ s.H x.Obj x.Slot) w})
 else if x.PC=6 then ((zp s x.G).1,if (zp s x.G).2.Out=1 then {x with G:=(zp s x.G).2,PC:=onW s x.Slot} else {x with G:=(zp s x.G).2})
 else if x.PC=7 then (s,match x.Batch with | []=>V6 s.P w x | o::l=>{x with Batch:=l,PC:=5,Obj:=o,Slot:=0})
 else if x.PC=8 then ({s with T:=vq s.T x.Obj,L:=U9 s.L 0},{x with PC:=9})
 else if x.PC=9 then ({s with Work:=wc (s.Work-1)},{x with Obj:=0,PC:=7})
 else (s,x)
def zN (s:za) (w:Int):za :=
 if s.Done=true∨w<1∨(s.Ws.length:Int)<w then s
 else match s.Ws[(w-1).toNat]? with
  | some x=>{(zi s w x).1 with Ws:=s.Ws.set (w-1).toNat (zi s w x).2}
  | none=>s
structure zsd (p:zb) (nb:Nat) (hd:Int) (c:zw):Prop where
 k:c.Kind=2
 h:c.Head=hd
 n:c.Next=zD p
 v:1≤c.PC→1≤yr c.H∧yr c.H<nb
 y:2≤c.PC→0≤c.Y∧c.Y<nb
 o:c.Out≠1
structure zp2 (p:zb) (nb:Nat) (hd:Int) (c:zw):Prop where
 k:c.Kind=1
 h:c.Head=hd
 n:c.Next=zD p
 x:1≤c.X∧c.X<nb
 v:1≤c.PC→yr c.H<nb
theorem zrV {p:zb} {nb:Nat} {hd x:Int}:zsd p nb hd (znA p hd x) :=
 ⟨rfl,rfl,rfl,fun e=>absurd e (by show ¬(1:Int)≤0;decide),fun e=>absurd e (by show ¬(2:Int)≤0;decide),by show (0:Int)≠1;decide⟩
theorem zqk {p:zb} {nb:Nat} {hd x:Int} (h:1≤x∧x<nb):zp2 p nb hd (W5 p hd x) :=
 ⟨rfl,rfl,rfl,h,fun e=>absurd e (by show ¬(1:Int)≤0;decide)⟩
structure WOk (p:zb) (nb:Nat) (w:Int) (x:ze):Prop where
 pc:0≤x.PC∧x.PC≤9
 vic:1≤x.Victim∧x.Victim≤p.Workers
 d0:x.PC=0→x.D.Kind=2∧x.D.Base=zS p w∧x.D.Cap=p.Cap
 d1:x.PC=1→x.D.Kind=3∧x.D.Base=zS p x.Victim∧x.D.Cap=p.Cap
 c2:x.PC=2→zsd p nb (zZ p) x.C
 b3:x.PC=3→1≤x.Bin∧x.Bin<nb
 c4:x.PC=4→zp2 p nb (zD p) x.C
 g6:x.PC=6→MOk p nb x.G∧(x.G.PC=5→x.G.C.Out≠1)∧x.G.Mode=1∧x.G.PC≠4
theorem WOk.plain {p:zb} {nb:Nat} {w:Int} {x:ze} (pc:x.PC=5∨x.PC=7∨x.PC=8∨x.PC=9) (vic:1≤x.Victim∧x.Victim≤p.Workers):WOk p nb w x :=
 ⟨by omega,vic,fun e=>by omega,fun e=>by omega,fun e=>by omega,fun e=>by omega,fun e=>by omega,fun e=>by omega⟩
theorem SOk.swLow {p:zb} {nb:Nat} {s:za} (h:zE p) (S:SOk p nb s) {a:Int} (ha:a<zZ p) (x v:BitVec 64):SOk p nb {s with M:=(sw s.M a x v).1}:=by
 unfold sw
 split
 ·exact S.low h ha v
 ·exact S
theorem zwV {p:zb} {nb:Nat} {s:za} (h:zE p) (S:SOk p nb s) {d:zg} {v:Int} (hv:1≤v∧v≤p.Workers) (hk:d.Kind=2∨d.Kind=3) (hb:d.Base=zS p v):SOk p nb {s with M:=(zM s.M d).1}:=by
 have hd:=Z1 h hv.1 hv.2
 have hc:=h.cap
 have hf:=uI h
 have e1:wc (d.Base+1)=d.Base+1:=xm (by omega) (by omega)
 unfold zM
 split
 ·exact S
 split
 ·omega
 split
 ·unfold U8
  rw [e1]
  split
  ·exact S
  split
  ·exact S
  split
  ·exact S.low h (by omega) _
  split
  ·exact S
  split
  ·exact S
  split
  ·exact S.swLow h (by omega) _ _
  split<;>exact S.low h (by omega) _
 split
 ·unfold Xz
  split
  ·exact S
  split
  ·exact S
  split
  ·exact S
  split
  ·exact S
  ·exact S.swLow h (by omega) _ _
 ·exact S
theorem zgM (m:List (BitVec 64)) (d:zg):(zM m d).1.length=m.length∧(zM m d).2.Kind=d.Kind∧(zM m d).2.Base=d.Base∧(zM m d).2.Cap=d.Cap:=by
 unfold zM
 split
 ·exact ⟨rfl,rfl,rfl,rfl⟩
 split
 ·unfold yG
  split
  ·exact ⟨rfl,rfl,rfl,rfl⟩
  split
  ·exact ⟨rfl,rfl,rfl,rfl⟩
  split
  ·refine ⟨rfl,?_,?_,?_⟩<;>dsimp only<;>split<;>rfl
  split<;>exact ⟨u6 _ _ _,rfl,rfl,rfl⟩
 split
 ·exact zsl m d
 split
 ·exact zqN m d
 ·exact ⟨rfl,rfl,rfl,rfl⟩
theorem zu8 {n v:Int} (h:1≤v∧v≤n):1≤Ur n v∧Ur n v≤n:=by unfold Ur;split<;>omega
theorem WOk.look {p:zb} {nb:Nat} {w:Int} {x:ze} (hw:1≤w∧w≤p.Workers) (vic:1≤x.Victim∧x.Victim≤p.Workers):WOk p nb w (Ze p w x):=by
 have hn:=zu8 vic
 unfold Ze
 split
 ·exact ⟨⟨(by show (0:Int)≤2;decide),(by show (2:Int)≤9;decide)⟩,hw,fun e=>(by cases e),fun e=>(by cases e),fun _=>zrV,fun e=>(by cases e),fun e=>(by cases e),fun e=>(by cases e)⟩
 ·exact ⟨⟨(by show (0:Int)≤1;decide),(by show (1:Int)≤9;decide)⟩,hn,fun e=>(by cases e),fun _=>⟨rfl,rfl,rfl⟩,fun e=>(by cases e),fun e=>(by cases e),fun e=>(by cases e),fun e=>(by cases e)⟩
theorem WOk.begin {p:zb} {nb:Nat} {w:Int} {x:ze} (hw:1≤w∧w≤p.Workers):WOk p nb w (V6 p w x) :=
 ⟨⟨(by show (0:Int)≤0;decide),(by show (0:Int)≤9;decide)⟩,hw,fun _=>⟨rfl,rfl,rfl⟩,fun e=>(by cases e),fun e=>(by cases e),fun e=>(by cases e),fun e=>(by cases e),fun e=>(by cases e)⟩
theorem zrI (s:za) {g:zy} (h1:g.Mode=1) (h4:g.PC≠4):(zp s g).2.PC≠4∧(zp s g).1.Flag=s.Flag:=by
 have five:(5:Int)≠4:=by decide
 unfold zp
 split
 ·exact ⟨h4,rfl⟩
 split
 ·refine ⟨?_,rfl⟩;unfold zak;dsimp only;split<;>exact h4
 split
 ·exact ⟨(by show (7:Int)≠4;decide),rfl⟩
 split
 ·refine ⟨?_,rfl⟩;unfold zgb;dsimp only
  split
  ·show (6:Int)≠4;decide
  split
  ·exact five
  ·exact h4
 split
 ·refine ⟨?_,rfl⟩;unfold zf4;dsimp only
  split
  ·exact h4
  split
  ·exact five
  ·exact h4
 split
 ·exact ⟨h4,rfl⟩
 split
 ·refine ⟨?_,rfl⟩;unfold zf0;dsimp only
  split
  ·show (2:Int)≠4;decide
  ·show (3:Int)≠4;decide
 ·exact ⟨(by show (1:Int)≠4;decide),rfl⟩
theorem zjJ (s:za) (i:Int):onW s i=5∨onW s i=8:=by unfold onW;split<;>simp
theorem SOk.keep {p:zb} {nb:Nat} {s s':za} (S:SOk p nb s) (hP:s'.P=s.P) (hM:s'.M=s.M) (hB:s'.Bins.length=s.Bins.length):SOk p nb s' :=
 ⟨hP.trans S.P,hB.trans S.bins,S.nbk,by rw [hM];exact S.mem,by rw [hM];exact S.cF,by rw [hM];exact S.cE,by rw [hM];exact S.cL⟩
theorem zrH {p:zb} {nb:Nat} {s:za} {w:Int} {x:ze} (h:zE p) (hw:1≤w∧w≤p.Workers) (S:SOk p nb s) (W:WOk p nb w x):SOk p nb (zi s w x).1∧WOk p nb w (zi s w x).2:=by
 have hP:=S.P
 unfold zi
 split
 ·rename_i h01
  have hv: ∃v,(1≤v∧v≤p.Workers)∧(x.D.Kind=2∨x.D.Kind=3)∧x.D.Base=zS p v:=by
   rcases h01 with e | e
   ·obtain ⟨a,b,c⟩:=W.d0 e;exact ⟨w,hw,.inl a,b⟩
   ·obtain ⟨a,b,c⟩:=W.d1 e;exact ⟨x.Victim,W.vic,.inr a,b⟩
  obtain ⟨v,hv1,hv2,hv3⟩:=hv
  refine ⟨zwV h S hv1 hv2 hv3,?_⟩
  obtain ⟨l1,l2,l3,l4⟩:=zgM s.M x.D
  dsimp only
  split
  ·exact WOk.plain (.inl rfl) hw
  split
  ·rw [hP];exact WOk.look hw W.vic
  ·refine ⟨W.pc,W.vic,fun e=> ?_,fun e=> ?_,fun e=>by dsimp only at e;omega,fun e=>by dsimp only at e;omega,fun e=>by dsimp only at e;omega,fun e=>by dsimp only at e;omega⟩
   ·obtain ⟨a,b,c⟩:=W.d0 e;exact ⟨l2.trans a,l3.trans b,l4.trans c⟩
   ·obtain ⟨a,b,c⟩:=W.d1 e;exact ⟨l2.trans a,l3.trans b,l4.trans c⟩
 split
 ·rename_i h2
  have C:=W.c2 h2
  obtain ⟨b1,b2,b3,b4,b5,b6⟩:=zmZ h S (.inl rfl) C.k C.h C.n C.v C.y C.o
  refine ⟨b1,?_⟩
  dsimp only
  split
  ·rename_i e1
   exact ⟨⟨(by show (0:Int)≤3;decide),(by show (3:Int)≤9;decide)⟩,W.vic,fun e=>(by cases e),fun e=>(by cases e),fun e=>(by cases e),fun _=>b6 e1,fun e=>(by cases e),fun e=>(by cases e)⟩
  split
  ·rw [hP];exact WOk.begin hw
  ·rename_i e1 e2
   exact ⟨W.pc,W.vic,fun e=>(by dsimp only at e;omega),fun e=>(by dsimp only at e;omega),fun _=>⟨b2,b3,b4,(b5 e1 e2).1,(b5 e1 e2).2,e1⟩,fun e=>(by dsimp only at e;omega),fun e=>(by dsimp only at e;omega),fun e=>(by dsimp only at e;omega)⟩
 split
 ·rename_i h3
  have B:=W.b3 h3
  refine ⟨S.keep rfl rfl (by simp),?_⟩
  rw [hP]
  exact ⟨⟨(by show (0:Int)≤4;decide),(by show (4:Int)≤9;decide)⟩,W.vic,fun e=>(by cases e),fun e=>(by cases e),fun e=>(by cases e),fun e=>(by cases e),fun _=>zqk B,fun e=>(by cases e)⟩
 split
 ·rename_i h4
  have C:=W.c4 h4
  obtain ⟨b1,b2,b3,b4,b5,b6⟩:=znQ h S (.inr rfl) C.k C.h C.n C.x C.v
  refine ⟨b1,?_⟩
  dsimp only
  split
  ·exact WOk.plain (.inr (.inl rfl)) W.vic
  ·exact ⟨W.pc,W.vic,fun e=>(by dsimp only at e;omega),fun e=>(by dsimp only at e;omega),fun e=>(by dsimp only at e;omega),fun e=>(by dsimp only at e;omega),fun _=>⟨b2,b3,b4,b5,b6⟩,fun e=>(by dsimp only at e;omega)⟩
 split
 ·refine ⟨S,?_⟩
  dsimp only
  split
  ·rcases zjJ s (wc (x.Slot+1)) with e | e<;>rw [e]
   ·exact WOk.plain (.inl rfl) W.vic
   ·exact WOk.plain (.inr (.inr (.inl rfl))) W.vic
  ·exact ⟨⟨(by show (0:Int)≤6;decide),(by show (6:Int)≤9;decide)⟩,W.vic,fun e=>(by cases e),fun e=>(by cases e),fun e=>(by cases e),fun e=>(by cases e),fun e=>(by cases e),fun _ =>
    ⟨⟨fun _=>hw,fun e=>(by cases e),fun e=>(by cases e),fun e=>(by cases e),fun e=>(by cases e)⟩,fun e=>(by cases e),rfl,by show (0:Int)≠4;decide⟩⟩
 split
 ·rename_i h6
  obtain ⟨g1,g2,g3,g4⟩:=W.g6 h6
  obtain ⟨r1,r2,r3⟩:=zkc h S g1 g2
  refine ⟨r1,?_⟩
  dsimp only
  split
  ·rcases zjJ s x.Slot with e | e<;>rw [e]
   ·exact WOk.plain (.inl rfl) W.vic
   ·exact WOk.plain (.inr (.inr (.inl rfl))) W.vic
  ·exact ⟨W.pc,W.vic,fun e=>(by dsimp only at e;omega),fun e=>(by dsimp only at e;omega),fun e=>(by dsimp only at e;omega),fun e=>(by dsimp only at e;omega),fun e=>(by dsimp only at e;omega),fun _=>⟨r2,r3,(WV s x.G).2.2.trans g3,(zrI s g3 g4).1⟩⟩
 split
 ·refine ⟨S,?_⟩
  dsimp only
  split
  ·rw [hP];exact WOk.begin hw
  ·exact WOk.plain (.inl rfl) W.vic
 split
 ·exact ⟨S.keep rfl rfl rfl,WOk.plain (.inr (.inr (.inr rfl))) W.vic⟩
 split
 ·exact ⟨S.keep rfl rfl rfl,WOk.plain (.inr (.inl rfl)) W.vic⟩
 ·have:=W.pc
  omega
end
end Go.Pe.G
namespace Go.Pe.G
open Go.Pe
noncomputable section
def ZW (h:zC) (o s v:Int):zC :=
 if yX h o s=true∧0≤v∧v≤(h.Objs.length:Int) then {h with Objs:=h.Objs.set (o-1).toNat ((yv h o).set s.toNat v)} else h
def zaX (h:zC) (most:Int):Bool:=decide ((h.Objs.length:Int)<most)&&decide ((h.Objs.length:Int)<64)
def uo (h:zC):zC:={h with Objs:=h.Objs++[List.replicate h.Slots.toNat 0]}
def V4 (t:zo) (o:Int):zo:=if (ui t o).2=true then vq (ui t o).1 o else t
def zj7 (l:zq) (who:Int):Int:=l.Bal.getD (who-1).toNat 0
def zp1 (l:zq) (who:Int):Bool:=decide (1≤who)&&decide (who≤(l.Bal.length:Int))
def zom (l:zq) (who price limit:Int):Bool:=zp1 l who&&decide (0≤price)&&decide (0≤limit)&&decide (price≤1000000)&&decide (limit≤1000000)
def znm (l:zq) (who price limit:Int):Bool:=zom l who price limit&&decide (wc (-limit)≤wc (zj7 l who-price))
def zcX (l:zq) (who price:Int):zq:={l with Spent:=wc (l.Spent+price),Bal:=l.Bal.set (who-1).toNat (wc (zj7 l who-price))}
def zul (l:zq) (who price limit:Int):Int:=if zom l who price limit then (if znm l who price limit then 0 else wc (wc (price-limit)-zj7 l who)) else -1
def zpT (a b:Int):Int:=if b<a then b else a
def zgp (l:zq) (who want:Int):zq×Int :=
 if zp1 l who=true∧0<zpT want l.Pool then ({l with Pool:=wc (l.Pool-zpT want l.Pool),Bal:=l.Bal.set (who-1).toNat (wc (zj7 l who+zpT want l.Pool))},zpT want l.Pool) else (l,0)
def Y8 (p:zb) (m:Int):List zj:=p.Progs.getD (m-1).toNat []
def opM (p:zb) (m:Int) (x:zc):zj:=(Y8 p m).getD x.IP.toNat ⟨0,0,0,0⟩
def Za (x:zc) (r:Int):Int:=x.Regs.getD r.toNat 0
def vD (x:zc):zc:={x with PC:=0,IP:=wc (x.IP+1)}
def setM (x:zc) (r v:Int):zc:={x with PC:=0,IP:=wc (x.IP+1),Regs:=x.Regs.set r.toNat v}
def onM (s:za) (slot:Int):Int:=if slot=s.H.Slots then 38 else 36
def zpp (s:za) (m:Int) (x:zc):Int:=zJ s.H (Za x (opM s.P m x).A) (opM s.P m x).S
def zba (s:za) (m:Int) (x:zc):zc :=
 if s.Acks.getD (m-1).toNat 0<s.Epoch then {x with PC:=1,Ret:=2,Want:=s.Epoch}
 else if ((Y8 s.P m).length:Int)≤x.IP then x
 else if (opM s.P m x).Kind=1 then {x with PC:=10}
 else if (opM s.P m x).Kind=2 then {x with PC:=20}
 else if (opM s.P m x).Kind=3 then {x with PC:=30}
 else if (opM s.P m x).Kind=4 then setM x (opM s.P m x).R (Za x (opM s.P m x).A)
 else setM x (opM s.P m x).R 0
def mu0 (s:za) (m:Int) (x:zc):za×zc :=
 (s,zba s m x)
def mu1 (s:za) (m:Int) (x:zc):za×zc :=
 (s,if x.Buf.length=0 then {x with PC:=x.Ret} else {x with PC:=3,Buf:=x.Buf.take (x.Buf.length-1),G:=Yk 2 (x.Buf.getD (x.Buf.length-1) 0) m})
def mu2 (s:za) (m:Int) (x:zc):za×zc :=
 ({s with Acks:=s.Acks.set (m-1).toNat x.Want},{x with PC:=0})
def mu3 (s:za) (m:Int) (x:zc):za×zc :=
 ((zp s x.G).1,if (zp s x.G).2.Out=1 then {x with PC:=1,G:=(zp s x.G).2} else {x with G:=(zp s x.G).2})
def zhg (s:za) (m:Int) (x:zc):za×zc :=
 (s,setM x (opM s.P m x).R (zpp s m x))
def zeC (s:za) (m:Int) (x:zc):za×zc :=
 (s,if Za x (opM s.P m x).A=0 then vD x else {x with PC:=21,Old:=zpp s m x})
def zfk (s:za) (m:Int) (x:zc):za×zc :=
 (s,if x.Old=0∨xg s.T x.Old≠0 then {x with PC:=23,Old:=0} else {x with PC:=22})
def zeN (s:za) (m:Int) (x:zc):za×zc :=
 (s,if s.P.Buf≤(x.Buf.length:Int) then {x with PC:=1,Ret:=22} else {x with PC:=23,Old:=0,Buf:=x.Buf++[x.Old]})
def zfv (s:za) (m:Int) (x:zc):za×zc :=
 ({s with H:=ZW s.H (Za x (opM s.P m x).A) (opM s.P m x).S (Za x (opM s.P m x).R)},vD x)
def zao (s:za) (m:Int) (x:zc):za×zc :=
   if znm s.L m s.P.Price s.P.Limit=true then
   if zaX s.H s.P.Most=true then ({s with L:=zcX s.L m s.P.Price,H:=uo s.H,T:=V4 s.T (wc (s.H.Objs.length+1))},setM x (opM s.P m x).R (wc (s.H.Objs.length+1)))
   else (s,vD x)
  else (s,{x with PC:=31})
def zeB (s:za) (m:Int) (x:zc):za×zc :=
   ({s with L:=(zgp s.L m (zul s.L m s.P.Price s.P.Limit)).1},if (zgp s.L m (zul s.L m s.P.Price s.P.Limit)).2=0 then {x with PC:=32,C:=znA s.P (zZ s.P) x.Bin} else {x with PC:=0})
def zfd (s:za) (m:Int) (x:zc):za×zc :=
   ({s with M:=(zk s.M x.C).1},if (zk s.M x.C).2.Out=1 then {x with PC:=33,Bin:=(zk s.M x.C).2.X,C:=(zk s.M x.C).2}
   else if (zk s.M x.C).2.Out=2 then {x with PC:=0,C:=(zk s.M x.C).2} else {x with C:=(zk s.M x.C).2})
def zgV (s:za) (m:Int) (x:zc):za×zc :=
 ({s with Bins:=s.Bins.set x.Bin.toNat []},{x with Batch:=XB s x.Bin,PC:=34,C:=W5 s.P (zD s.P) x.Bin})
def zfi (s:za) (m:Int) (x:zc):za×zc :=
   ({s with M:=(zk s.M x.C).1},if (zk s.M x.C).2.Out=1 then {x with C:=(zk s.M x.C).2,Bin:=0,PC:=35} else {x with C:=(zk s.M x.C).2})
def ze5 (s:za) (m:Int) (x:zc):za×zc :=
 (s,match x.Batch with | []=>{x with PC:=0} | o::l=>{x with PC:=36,Obj:=o,Slot:=0,Batch:=l})
def zfh (s:za) (m:Int) (x:zc):za×zc :=
   (s,if zJ s.H x.Obj x.Slot=0 then {x with Slot:=wc (x.Slot+1),PC:=onM s (wc (x.Slot+1))} else {x with Slot:=wc (x.Slot+1),PC:=37,G:=Yk 3 (zJ s.H x.Obj x.Slot) m})
def zap (s:za) (m:Int) (x:zc):za×zc :=
 ((zp s x.G).1,if (zp s x.G).2.Out=1 then {x with G:=(zp s x.G).2,PC:=onM s x.Slot} else {x with G:=(zp s x.G).2})
def zgI (s:za) (m:Int) (x:zc):za×zc :=
 ({s with T:=vq s.T x.Obj,L:=U9 s.L m},{x with PC:=39})
def zgC (s:za) (m:Int) (x:zc):za×zc :=
 ({s with Work:=wc (s.Work-1)},{x with Obj:=0,PC:=35})
def zn (s:za) (m:Int) (x:zc):za×zc :=
 if x.PC=0 then mu0 s m x
 else if x.PC=1 then mu1 s m x
 else if x.PC=2 then mu2 s m x
 else if x.PC=3 then mu3 s m x
 else if x.PC=10 then zhg s m x
 else if x.PC=20 then zeC s m x
 else if x.PC=21 then zfk s m x
 else if x.PC=22 then zeN s m x
 else if x.PC=23 then zfv s m x
 else if x.PC=30 then zao s m x
 else if x.PC=31 then zeB s m x
 else if x.PC=32 then zfd s m x
 else if x.PC=33 then zgV s m x
 else if x.PC=34 then zfi s m x
 else if x.PC=35 then ze5 s m x
 else if x.PC=36 then zfh s m x
 else if x.PC=37 then zap s m x
 else if x.PC=38 then zgI s m x
 else if x.PC=39 then zgC s m x
 else (s,x)
def yR (s:za) (m:Int):za :=
 if s.Done=true∨m<1∨(s.Ms.length:Int)<m then s
 else match s.Ms[(m-1).toNat]? with
  | some x=>{(zn s m x).1 with Ms:=s.Ms.set (m-1).toNat (zn s m x).2}
  | none=>s
def zni (p:zb) (m:Int):Nat:=(p.Regs.getD (m-1).toNat []).length
structure XOk (p:zb) (nb:Nat) (m:Int) (x:zc):Prop where
 pc:(0≤x.PC∧x.PC≤3)∨x.PC=10∨(20≤x.PC∧x.PC≤23)∨(30≤x.PC∧x.PC≤39)
 regs:x.Regs.length=zni p m
 ip:0≤x.IP∧x.IP≤((Y8 p m).length:Int)
 op:(10≤x.PC∧x.PC≤30)∨((x.PC=1∨x.PC=3)∧x.Ret=22)→x.IP<((Y8 p m).length:Int)
 ret:x.PC=1∨x.PC=3→x.Ret=2∨x.Ret=22
 c32:x.PC=32→zsd p nb (zZ p) x.C
 b33:x.PC=33→1≤x.Bin∧x.Bin<nb
 c34:x.PC=34→zp2 p nb (zD p) x.C
 bin:x.PC≠33→x.PC≠34→x.Bin=0
 g:x.PC=3∨x.PC=37→MOk p nb x.G∧(x.G.PC=5→x.G.C.Out≠1)∧x.G.Mode≠1
 buf:(x.Buf.length:Int)≤p.Buf
theorem XOk.move {p:zb} {nb:Nat} {m:Int} {x y:zc} (X:XOk p nb m x) (h:x.PC≠33∧x.PC≠34) (pc:y.PC=0∨y.PC=2∨y.PC=10∨(20≤y.PC∧y.PC≤23)∨y.PC=30∨y.PC=31∨y.PC=35∨y.PC=36∨y.PC=38∨y.PC=39)
  (regs:y.Regs.length=x.Regs.length) (bin:y.Bin=x.Bin) (buf:(y.Buf.length:Int)≤p.Buf) (ip:0≤y.IP∧y.IP≤((Y8 p m).length:Int)) (op:10≤y.PC∧y.PC≤30→y.IP<((Y8 p m).length:Int)):XOk p nb m y :=
 ⟨by omega,regs.trans X.regs,ip,fun e=>op (by omega),fun e=>by omega,fun e=>by omega,fun e=>by omega,fun e=>by omega,fun _ _=>bin.trans (X.bin h.1 h.2),fun e=>by omega,buf⟩
theorem zcP (s:za) (i:Int):onM s i=36∨onM s i=38:=by unfold onM;split<;>simp
theorem XOk.next {p:zb} {nb:Nat} {m:Int} {x:zc} (hp:((Y8 p m).length:Int)≤64) (X:XOk p nb m x) (h:x.PC≠33∧x.PC≠34) (hi:x.IP<((Y8 p m).length:Int)):XOk p nb m (vD x):=by
 have:=X.ip
 have e:wc (x.IP+1)=x.IP+1:=xm (by omega) (by omega)
 refine X.move h (.inl rfl) rfl rfl X.buf ?_ (fun h=>absurd h (by show ¬((10:Int)≤0∧(0:Int)≤30);decide))
 show 0≤wc (x.IP+1)∧wc (x.IP+1)≤_
 rw [e];omega
theorem XOk.set {p:zb} {nb:Nat} {m:Int} {x:zc} (hp:((Y8 p m).length:Int)≤64) (X:XOk p nb m x) (h:x.PC≠33∧x.PC≠34) (hi:x.IP<((Y8 p m).length:Int)) (r v:Int):XOk p nb m (setM x r v):=by
 have:=X.ip
 have e:wc (x.IP+1)=x.IP+1:=xm (by omega) (by omega)
 refine X.move h (.inl rfl) (by simp [setM]) rfl X.buf ?_ (fun h=>absurd h (by show ¬((10:Int)≤0∧(0:Int)≤30);decide))
 show 0≤wc (x.IP+1)∧wc (x.IP+1)≤_
 rw [e];omega
theorem wD {motive:za×zc→Prop} (s:za) (m:Int) (x:zc) (h0:x.PC=0→motive (mu0 s m x)) (h1:x.PC=1→motive (mu1 s m x)) (h2:x.PC=2→motive (mu2 s m x)) (h3:x.PC=3→motive (mu3 s m x)) (h10:x.PC=10→motive (zhg s m x)) (h20:x.PC=20→motive (zeC s m x)) (h21:x.PC=21→motive (zfk s m x)) (h22:x.PC=22→motive (zeN s m x)) (h23:x.PC=23→motive (zfv s m x)) (h30:x.PC=30→motive (zao s m x)) (h31:x.PC=31→motive (zeB s m x)) (h32:x.PC=32→motive (zfd s m x)) (h33:x.PC=33→motive (zgV s m x)) (h34:x.PC=34→motive (zfi s m x)) (h35:x.PC=35→motive (ze5 s m x)) (h36:x.PC=36→motive (zfh s m x)) (h37:x.PC=37→motive (zap s m x)) (h38:x.PC=38→motive (zgI s m x)) (h39:x.PC=39→motive (zgC s m x)) (hn:motive (s,x)):motive (zn s m x):=by
 unfold zn
 by_cases c0:x.PC=0
 ·rw [if_pos c0];exact h0 c0
 rw [if_neg c0]
 by_cases c1:x.PC=1
 ·rw [if_pos c1];exact h1 c1
 rw [if_neg c1]
 by_cases c2:x.PC=2
 ·rw [if_pos c2];exact h2 c2
 rw [if_neg c2]
 by_cases c3:x.PC=3
 ·rw [if_pos c3];exact h3 c3
 rw [if_neg c3]
 by_cases c10:x.PC=10
 ·rw [if_pos c10];exact h10 c10
 rw [if_neg c10]
 by_cases c20:x.PC=20
 ·rw [if_pos c20];exact h20 c20
 rw [if_neg c20]
 by_cases c21:x.PC=21
 ·rw [if_pos c21];exact h21 c21
 rw [if_neg c21]
 by_cases c22:x.PC=22
 ·rw [if_pos c22];exact h22 c22
 rw [if_neg c22]
 by_cases c23:x.PC=23
 ·rw [if_pos c23];exact h23 c23
 rw [if_neg c23]
 by_cases c30:x.PC=30
 ·rw [if_pos c30];exact h30 c30
 rw [if_neg c30]
 by_cases c31:x.PC=31
 ·rw [if_pos c31];exact h31 c31
 rw [if_neg c31]
 by_cases c32:x.PC=32
 ·rw [if_pos c32];exact h32 c32
 rw [if_neg c32]
 by_cases c33:x.PC=33
 ·rw [if_pos c33];exact h33 c33
 rw [if_neg c33]
 by_cases c34:x.PC=34
 ·rw [if_pos c34];exact h34 c34
 rw [if_neg c34]
 by_cases c35:x.PC=35
 ·rw [if_pos c35];exact h35 c35
 rw [if_neg c35]
 by_cases c36:x.PC=36
 ·rw [if_pos c36];exact h36 c36
 rw [if_neg c36]
 by_cases c37:x.PC=37
 ·rw [if_pos c37];exact h37 c37
 rw [if_neg c37]
 by_cases c38:x.PC=38
 ·rw [if_pos c38];exact h38 c38
 rw [if_neg c38]
 by_cases c39:x.PC=39
 ·rw [if_pos c39];exact h39 c39
 rw [if_neg c39]
 exact hn
theorem zta {p:zb} {nb:Nat} {s:za} {m:Int} {x:zc} (h:zE p) (hp:((Y8 p m).length:Int)≤64) (S:SOk p nb s) (X:XOk p nb m x):SOk p nb (zn s m x).1∧XOk p nb m (zn s m x).2:=by
 have hP:=S.P
 have hip:=X.ip
 have hbuf:=X.buf
 have hb:=h.buf
 have nop: ∀y:Int,31≤y→¬(10≤y∧y≤30):=fun y h e=>by omega
 refine wD (motive:=fun r=>SOk p nb r.1∧XOk p nb m r.2) s m x ?_ ?_ ?_ ?_ ?_ ?_ ?_ ?_ ?_ ?_ ?_ ?_ ?_ ?_ ?_ ?_ ?_ ?_ ?_ ?_
 ·intro c
  unfold mu0
  refine ⟨S,?_⟩
  unfold zba
  rw [hP]
  split
  ·exact ⟨.inl ⟨(by show (0:Int)≤1;decide),(by show (1:Int)≤3;decide)⟩,X.regs,X.ip,fun e=>by dsimp only at e;omega,fun _=> .inl rfl,fun e=>(by cases e),fun e=>(by cases e),fun e=>(by cases e),fun _ _=>X.bin (by omega) (by omega),fun e=>by dsimp only at e;omega,X.buf⟩
  split
  ·exact X
  rename_i hlt
  have hlt:x.IP<((Y8 p m).length:Int):=by omega
  split
  ·exact X.move (by omega) (.inr (.inr (.inl rfl))) rfl rfl X.buf X.ip (fun _=>hlt)
  split
  ·exact X.move (by omega) (.inr (.inr (.inr (.inl ⟨by show (20:Int)≤20;decide,by show (20:Int)≤23;decide⟩)))) rfl rfl X.buf X.ip (fun _=>hlt)
  split
  ·exact X.move (by omega) (.inr (.inr (.inr (.inr (.inl rfl))))) rfl rfl X.buf X.ip (fun _=>hlt)
  split
  ·exact X.set hp (by omega) hlt _ _
  ·exact X.set hp (by omega) hlt _ _
 ·intro c
  unfold mu1
  refine ⟨S,?_⟩
  split
  ·rcases X.ret (.inl c) with e | e
   ·exact X.move (by omega) (.inr (.inl e)) rfl rfl X.buf X.ip (fun e2=>by dsimp only at e2;omega)
   ·exact X.move (by omega) (.inr (.inr (.inr (.inl (by dsimp only;omega))))) rfl rfl X.buf X.ip (fun e2=>X.op (.inr ⟨.inl c,e⟩))
  ·exact ⟨.inl ⟨(by show (0:Int)≤3;decide),(by show (3:Int)≤3;decide)⟩,X.regs,X.ip,fun e=>X.op (.inr ⟨.inl c,by dsimp only at e;omega⟩),fun _=>X.ret (.inl c),fun e=>(by cases e),fun e=>(by cases e),fun e=>(by cases e),fun _ _=>X.bin (by omega) (by omega),
    fun _=>⟨⟨fun e=>absurd e (by show ¬(2:Int)=1;decide),fun e=>(by cases e),fun e=>(by cases e),fun e=>(by cases e),fun e=>(by cases e)⟩,fun e=>(by cases e),by show (2:Int)≠1;decide⟩,by dsimp only;rw [List.length_take];omega⟩
 ·intro c
  unfold mu2
  exact ⟨S.keep rfl rfl rfl,X.move (by omega) (.inl rfl) rfl rfl X.buf X.ip (fun e=>absurd e (by show ¬((10:Int)≤0∧(0:Int)≤30);decide))⟩
 ·intro c
  unfold mu3
  obtain ⟨g1,g2,g3⟩:=X.g (.inl c)
  obtain ⟨r1,r2,r3⟩:=zkc h S g1 g2
  refine ⟨r1,?_⟩
  dsimp only
  split
  ·exact ⟨.inl ⟨(by show (0:Int)≤1;decide),(by show (1:Int)≤3;decide)⟩,X.regs,X.ip,fun e=>X.op (.inr ⟨.inr c,by dsimp only at e;omega⟩),fun _=>X.ret (.inr c),fun e=>(by cases e),fun e=>(by cases e),fun e=>(by cases e),fun _ _=>X.bin (by omega) (by omega),fun e=>by dsimp only at e;omega,X.buf⟩
  ·exact ⟨X.pc,X.regs,X.ip,X.op,X.ret,fun e=>by dsimp only at e;omega,fun e=>by dsimp only at e;omega,fun e=>by dsimp only at e;omega,X.bin,fun _=>⟨r2,r3,by rw [(WV s x.G).2.2];exact g3⟩,X.buf⟩
 ·intro c
  unfold zhg
  exact ⟨S,X.set hp (by omega) (X.op (.inl (by omega))) _ _⟩
 ·intro c
  unfold zeC
  refine ⟨S,?_⟩
  split
  ·exact X.next hp (by omega) (X.op (.inl (by omega)))
  ·exact X.move (by omega) (.inr (.inr (.inr (.inl ⟨by show (20:Int)≤21;decide,by show (21:Int)≤23;decide⟩)))) rfl rfl X.buf X.ip (fun _=>X.op (.inl (by omega)))
 ·intro c
  unfold zfk
  refine ⟨S,?_⟩
  split
  ·exact X.move (by omega) (.inr (.inr (.inr (.inl ⟨by show (20:Int)≤23;decide,by show (23:Int)≤23;decide⟩)))) rfl rfl X.buf X.ip (fun _=>X.op (.inl (by omega)))
  ·exact X.move (by omega) (.inr (.inr (.inr (.inl ⟨by show (20:Int)≤22;decide,by show (22:Int)≤23;decide⟩)))) rfl rfl X.buf X.ip (fun _=>X.op (.inl (by omega)))
 ·intro c
  unfold zeN
  have hi:=X.op (.inl (by omega))
  refine ⟨S,?_⟩
  rw [hP]
  split
  ·exact ⟨.inl ⟨(by show (0:Int)≤1;decide),(by show (1:Int)≤3;decide)⟩,X.regs,X.ip,fun e=>hi,fun _=> .inr rfl,fun e=>(by cases e),fun e=>(by cases e),fun e=>(by cases e),fun _ _=>X.bin (by omega) (by omega),fun e=>by dsimp only at e;omega,X.buf⟩
  ·exact X.move (by omega) (.inr (.inr (.inr (.inl ⟨by show (20:Int)≤23;decide,by show (23:Int)≤23;decide⟩)))) rfl rfl (by simp;omega) X.ip (fun _=>hi)
 ·intro c
  unfold zfv
  exact ⟨S.keep rfl rfl rfl,X.next hp (by omega) (X.op (.inl (by omega)))⟩
 ·intro c
  unfold zao
  have hi:=X.op (.inl (by omega))
  split
  ·split
   ·exact ⟨S.keep rfl rfl rfl,X.set hp (by omega) hi _ _⟩
   ·exact ⟨S,X.next hp (by omega) hi⟩
  ·exact ⟨S,X.move (by omega) (.inr (.inr (.inr (.inr (.inr (.inl rfl)))))) rfl rfl X.buf X.ip (fun e=>absurd e (by show ¬((10:Int)≤31∧(31:Int)≤30);decide))⟩
 ·intro c
  unfold zeB
  refine ⟨S.keep rfl rfl rfl,?_⟩
  rw [hP]
  split
  ·exact ⟨.inr (.inr (.inr ⟨(by show (30:Int)≤32;decide),(by show (32:Int)≤39;decide)⟩)),X.regs,X.ip,fun e=>by dsimp only at e;omega,fun e=>by dsimp only at e;omega,fun _=>zrV,fun e=>(by cases e),fun e=>(by cases e),fun _ _=>X.bin (by omega) (by omega),fun e=>by dsimp only at e;omega,X.buf⟩
  ·exact X.move (by omega) (.inl rfl) rfl rfl X.buf X.ip (fun e=>absurd e (by show ¬((10:Int)≤0∧(0:Int)≤30);decide))
 ·intro c
  unfold zfd
  have C:=X.c32 c
  obtain ⟨b1,b2,b3,b4,b5,b6⟩:=zmZ h S (.inl rfl) C.k C.h C.n C.v C.y C.o
  refine ⟨b1,?_⟩
  dsimp only
  split
  ·rename_i e1
   exact ⟨.inr (.inr (.inr ⟨(by show (30:Int)≤33;decide),(by show (33:Int)≤39;decide)⟩)),X.regs,X.ip,fun e=>by dsimp only at e;omega,fun e=>by dsimp only at e;omega,fun e=>(by cases e),fun _=>b6 e1,fun e=>(by cases e),fun e=>absurd rfl e,fun e=>by dsimp only at e;omega,X.buf⟩
  split
  ·exact X.move (by omega) (.inl rfl) rfl rfl X.buf X.ip (fun e=>absurd e (by show ¬((10:Int)≤0∧(0:Int)≤30);decide))
  ·rename_i e1 e2
   exact ⟨X.pc,X.regs,X.ip,X.op,X.ret,fun _=>⟨b2,b3,b4,(b5 e1 e2).1,(b5 e1 e2).2,e1⟩,fun e=>by dsimp only at e;omega,fun e=>by dsimp only at e;omega,X.bin,fun e=>by dsimp only at e;omega,X.buf⟩
 ·intro c
  unfold zgV
  have B:=X.b33 c
  refine ⟨S.keep rfl rfl (by simp),?_⟩
  rw [hP]
  exact ⟨.inr (.inr (.inr ⟨(by show (30:Int)≤34;decide),(by show (34:Int)≤39;decide)⟩)),X.regs,X.ip,fun e=>by dsimp only at e;omega,fun e=>by dsimp only at e;omega,fun e=>(by cases e),fun e=>(by cases e),fun _=>zqk B,fun _ e=>absurd rfl e,fun e=>by dsimp only at e;omega,X.buf⟩
 ·intro c
  unfold zfi
  have C:=X.c34 c
  obtain ⟨b1,b2,b3,b4,b5,b6⟩:=znQ h S (.inr rfl) C.k C.h C.n C.x C.v
  refine ⟨b1,?_⟩
  dsimp only
  split
  ·exact ⟨.inr (.inr (.inr ⟨(by show (30:Int)≤35;decide),(by show (35:Int)≤39;decide)⟩)),X.regs,X.ip,fun e=>by dsimp only at e;omega,fun e=>by dsimp only at e;omega,fun e=>(by cases e),fun e=>(by cases e),fun e=>(by cases e),fun _ _=>rfl,fun e=>by dsimp only at e;omega,X.buf⟩
  ·exact ⟨X.pc,X.regs,X.ip,X.op,X.ret,fun e=>by dsimp only at e;omega,fun e=>by dsimp only at e;omega,fun _=>⟨b2,b3,b4,b5,b6⟩,X.bin,fun e=>by dsimp only at e;omega,X.buf⟩
 ·intro c
  unfold ze5
  refine ⟨S,?_⟩
  dsimp only
  split
  ·exact X.move (by omega) (.inl rfl) rfl rfl X.buf X.ip (fun e=>absurd e (by show ¬((10:Int)≤0∧(0:Int)≤30);decide))
  ·exact X.move (by omega) (by simp) rfl rfl X.buf X.ip (fun e=>absurd e (nop 36 (by omega)))
 ·intro c
  unfold zfh
  refine ⟨S,?_⟩
  dsimp only
  split
  ·rcases zcP s (wc (x.Slot+1)) with e | e<;>rw [e]
   ·exact X.move (by omega) (by simp) rfl rfl X.buf X.ip (fun e=>absurd e (nop 36 (by omega)))
   ·exact X.move (by omega) (by simp) rfl rfl X.buf X.ip (fun e=>absurd e (nop 38 (by omega)))
  ·exact ⟨.inr (.inr (.inr ⟨(by show (30:Int)≤37;decide),(by show (37:Int)≤39;decide)⟩)),X.regs,X.ip,fun e=>by dsimp only at e;omega,fun e=>by dsimp only at e;omega,fun e=>(by cases e),fun e=>(by cases e),fun e=>(by cases e),fun _ _=>X.bin (by omega) (by omega),
    fun _=>⟨⟨fun e=>absurd e (by show ¬(3:Int)=1;decide),fun e=>(by cases e),fun e=>(by cases e),fun e=>(by cases e),fun e=>(by cases e)⟩,fun e=>(by cases e),by show (3:Int)≠1;decide⟩,X.buf⟩
 ·intro c
  unfold zap
  obtain ⟨g1,g2,g3⟩:=X.g (.inr c)
  obtain ⟨r1,r2,r3⟩:=zkc h S g1 g2
  refine ⟨r1,?_⟩
  dsimp only
  split
  ·rcases zcP s x.Slot with e | e<;>rw [e]
   ·exact X.move (by omega) (by simp) rfl rfl X.buf X.ip (fun e=>absurd e (nop 36 (by omega)))
   ·exact X.move (by omega) (by simp) rfl rfl X.buf X.ip (fun e=>absurd e (nop 38 (by omega)))
  ·exact ⟨X.pc,X.regs,X.ip,X.op,X.ret,fun e=>by dsimp only at e;omega,fun e=>by dsimp only at e;omega,fun e=>by dsimp only at e;omega,X.bin,fun _=>⟨r2,r3,by rw [(WV s x.G).2.2];exact g3⟩,X.buf⟩
 ·intro c
  unfold zgI
  exact ⟨S.keep rfl rfl rfl,X.move (by omega) (by simp) rfl rfl X.buf X.ip (fun e=>absurd e (nop 39 (by omega)))⟩
 ·intro c
  unfold zgC
  exact ⟨S.keep rfl rfl rfl,X.move (by omega) (by simp) rfl rfl X.buf X.ip (fun e=>absurd e (nop 35 (by omega)))⟩
 ·exact ⟨S,X⟩
end
end Go.Pe.G
namespace Go.Pe.G
open Go.Pe
noncomputable section
structure HOk (p:zb) (h:zC):Prop where
 slots:h.Slots=p.H.Slots
 n:(p.H.Objs.length:Int)≤(h.Objs.length:Int)∧(h.Objs.length:Int)≤p.Most
 objs: ∀o∈h.Objs,(o.length:Int)=h.Slots∧∀v∈o,0≤v∧v≤(h.Objs.length:Int)
structure EOk (p:zb) (nb:Nat) (s:za):Prop where
 S:SOk p nb s
 wl:(s.Ws.length:Int)=p.Workers
 ml:(s.Ms.length:Int)=p.Mutators
 al:s.Acks.length=s.Ms.length
 W: ∀(i:Nat) x,s.Ws[i]? =some x→WOk p nb ((i:Int)+1) x
 X: ∀(i:Nat) x,s.Ms[i]? =some x→XOk p nb ((i:Int)+1) x
 H:HOk p s.H
 D:(0≤s.D.PC∧s.D.PC≤6)∧(s.D.PC=3→0≤s.D.I∧s.D.I<(s.Ms.length:Int))
 small:Xg s
theorem zmU {p:zb} (h:zE p) (m:Int):((Y8 p m).length:Int)≤64:=by
 unfold Y8
 have hr:=h.regs
 have hp:=h.progs
 rw [List.getD_eq_getElem?_getD]
 rcases Nat.lt_or_ge (m-1).toNat p.Progs.length with hl | hl
 ·rw [List.getElem?_eq_getElem hl]
  have hl2:(m-1).toNat<p.Regs.length:=by omega
  have:=(h.prog (m-1).toNat _ _ (List.getElem?_eq_getElem hl2) (List.getElem?_eq_getElem hl)).1
  show ((p.Progs[(m-1).toNat]).length:Int)≤64
  omega
 ·rw [List.getElem?_eq_none hl];show (([]:List zj).length:Int)≤64;simp
theorem zqv {p:zb} (h:zE p):EOk p (zT p+1) (wg p):=by
 have hw:=h.wk
 have hm:=h.mt
 have hr:=h.regs
 have hn:=h.n
 have hmo:=h.most
 have hb:=h.buf
 refine ⟨zrX h,?_,?_,?_,fun i x hx=> ?_,fun i x hx=> ?_,⟨rfl,⟨Int.le_refl _,hmo.1⟩,h.objs⟩,⟨⟨by show (0:Int)≤0;decide,by show (0:Int)≤6;decide⟩,fun e=>absurd e (by show ¬(0:Int)=3;decide)⟩,zow h⟩
 ·show (((List.range p.Workers.toNat).map (uJ p)).length:Int)=_
  rw [List.length_map,List.length_range];omega
 ·show ((p.Regs.map v9).length:Int)=_
  rw [List.length_map];exact hr
 ·show (List.replicate p.Mutators.toNat (0:Int)).length=(p.Regs.map v9).length
  rw [List.length_replicate,List.length_map];omega
 ·have hx:((List.range p.Workers.toNat).map (uJ p))[i]? =some x:=hx
  rw [List.getElem?_map] at hx
  rcases Nat.lt_or_ge i p.Workers.toNat with hl | hl
  ·rw [List.getElem?_range hl] at hx
   injection hx with hx
   subst hx
   exact ⟨⟨by show (0:Int)≤0;decide,by show (0:Int)≤9;decide⟩,by show 1≤(i:Int)+1∧(i:Int)+1≤p.Workers;omega,fun _=>⟨rfl,rfl,rfl⟩,fun e=>(by cases e),fun e=>(by cases e),fun e=>(by cases e),fun e=>(by cases e),fun e=>(by cases e)⟩
  ·rw [List.getElem?_eq_none (by rw [List.length_range];exact hl)] at hx;cases hx
 ·have hx:(p.Regs.map v9)[i]? =some x:=hx
  rw [List.getElem?_map] at hx
  cases hq:p.Regs[i]? with
  | none=>rw [hq] at hx;cases hx
  | some r =>
   rw [hq] at hx
   injection hx with hx
   subst hx
   refine ⟨.inl ⟨by show (0:Int)≤0;decide,by show (0:Int)≤3;decide⟩,?_,⟨by show (0:Int)≤0;decide,by show (0:Int)≤_;omega⟩,fun e=>absurd e ?_,fun e=>absurd e ?_,fun e=>(by cases e),fun e=>(by cases e),fun e=>(by cases e),fun _ _=>rfl,fun e=>absurd e ?_,by show (0:Int)≤p.Buf;omega⟩
   ·show r.length=zni p ((i:Int)+1)
    unfold zni
    rw [show ((i:Int)+1-1).toNat=i by omega,List.getD_eq_getElem?_getD,hq];rfl
   ·intro e;simp [v9] at e
   ·intro e;simp [v9] at e
   ·intro e;simp [v9] at e
theorem zkM {s:za} (h:Xg s) (b:Int):(XB s b).length<1000000:=by
 unfold XB
 rw [List.getD_eq_getElem?_getD]
 cases hq:s.Bins[b.toNat]? with
 | none=>simp
 | some l=>exact h.bin l (List.mem_of_getElem? hq)
theorem zoM (l:zq) (w:Int):(U9 l w).Bal.length=l.Bal.length:=by unfold U9;split<;>simp
structure Xv (s s':za):Prop where
 P:s'.P=s.P
 m:s'.M.length=s.M.length
 bl:s'.Bins.length=s.Bins.length
 b: ∀l∈s'.Bins,l∈s.Bins∨l.length≤1
 bal:s'.L.Bal.length=s.L.Bal.length
 ac:s'.Acks.length=s.Acks.length
 ws:s'.Ws=s.Ws
 ms:s'.Ms=s.Ms
 done:s'.Done=s.Done
 d:s'.D=s.D
theorem Xv.refl (s:za):Xv s s:=⟨rfl,rfl,rfl,fun l h=> .inl h,rfl,rfl,rfl,rfl,rfl,rfl⟩
theorem zaB (s:za) (g:zy):Xv s (zp s g).1∧(zp s g).1.H=s.H:=by
 obtain ⟨m,b,t,w,f,e,h1,h2,h3,_,_⟩:=zef s g
 rw [e]
 exact ⟨⟨rfl,h1,h2,fun l hl=>(h3 l hl).imp id (fun e=>by rw [e];simp),rfl,rfl,rfl,rfl,rfl,rfl⟩,rfl⟩
theorem zrU {s:za} (b:Nat): ∀l∈s.Bins.set b [],l∈s.Bins∨l.length≤1:=fun l hl=>(List.mem_or_eq_of_mem_set hl).imp id (fun e=>by rw [e];simp)
theorem zoY (s:za) (w:Int) (x:ze):Xv s (zi s w x).1∧(zi s w x).1.H=s.H:=by
 unfold zi
 split
 ·exact ⟨⟨rfl,(zgM _ _).1,rfl,fun l h=> .inl h,rfl,rfl,rfl,rfl,rfl,rfl⟩,rfl⟩
 split
 ·exact ⟨⟨rfl,Uv _ _,rfl,fun l h=> .inl h,rfl,rfl,rfl,rfl,rfl,rfl⟩,rfl⟩
 split
 ·exact ⟨⟨rfl,rfl,by simp,zrU _,rfl,rfl,rfl,rfl,rfl,rfl⟩,rfl⟩
 split
 ·exact ⟨⟨rfl,Uv _ _,rfl,fun l h=> .inl h,rfl,rfl,rfl,rfl,rfl,rfl⟩,rfl⟩
 split
 ·exact ⟨Xv.refl s,rfl⟩
 split
 ·exact zaB s x.G
 split
 ·exact ⟨Xv.refl s,rfl⟩
 split
 ·exact ⟨⟨rfl,rfl,rfl,fun l h=> .inl h,zoM _ _,rfl,rfl,rfl,rfl,rfl⟩,rfl⟩
 split
 ·exact ⟨⟨rfl,rfl,rfl,fun l h=> .inl h,rfl,rfl,rfl,rfl,rfl,rfl⟩,rfl⟩
 ·exact ⟨Xv.refl s,rfl⟩
theorem zrg (p:zb) (w:Int) (x:ze):(Ze p w x).Batch=x.Batch:=by unfold Ze;split<;>rfl
theorem zsL {s:za} (h:Xg s) (w:Int) {x:ze} (hx:x.Batch.length<1000000):(zi s w x).2.Batch.length<1000000:=by
 unfold zi
 split
 ·dsimp only
  split
  ·exact hx
  split
  ·rw [zrg];exact hx
  ·exact hx
 split
 ·dsimp only
  split
  ·exact hx
  split<;>exact hx
 split
 ·exact zkM h _
 split
 ·dsimp only
  split<;>exact hx
 split
 ·dsimp only
  split<;>exact hx
 split
 ·dsimp only
  split<;>exact hx
 split
 ·dsimp only
  cases hb:x.Batch with
  | nil=>show x.Batch.length<_;exact hx
  | cons o l=>rw [hb] at hx;show l.length<_;simp at hx;omega
 split
 ·exact hx
 split
 ·exact hx
 ·exact hx
theorem zsF (l:zq) (w p:Int):(zcX l w p).Bal.length=l.Bal.length:=by unfold zcX;simp
theorem ztq (l:zq) (w n:Int):(zgp l w n).1.Bal.length=l.Bal.length:=by unfold zgp;split<;>simp
theorem zvn (s:za) (m:Int) (x:zc):Xv s (zn s m x).1:=by
 have q: ∀s':za,s'.P=s.P→s'.M=s.M→s'.Bins=s.Bins→s'.L.Bal.length=s.L.Bal.length→s'.Acks.length=s.Acks.length→s'.Ws=s.Ws→s'.Ms=s.Ms→s'.Done=s.Done→s'.D=s.D→Xv s s' :=
  fun s' a b c d e f g h i=>⟨a,by rw [b],by rw [c],fun l hl=> .inl (c▸hl),d,e,f,g,h,i⟩
 refine wD (motive:=fun r=>Xv s r.1) s m x ?_ ?_ ?_ ?_ ?_ ?_ ?_ ?_ ?_ ?_ ?_ ?_ ?_ ?_ ?_ ?_ ?_ ?_ ?_ ?_
 ·intro c
  unfold mu0
  exact Xv.refl s
 ·intro c
  unfold mu1
  exact Xv.refl s
 ·intro c
  unfold mu2
  exact q _ rfl rfl rfl rfl (by simp) rfl rfl rfl rfl
 ·intro c
  unfold mu3
  exact (zaB s x.G).1
 ·intro c
  unfold zhg
  exact Xv.refl s
 ·intro c
  unfold zeC
  exact Xv.refl s
 ·intro c
  unfold zfk
  exact Xv.refl s
 ·intro c
  unfold zeN
  exact Xv.refl s
 ·intro c
  unfold zfv
  exact q _ rfl rfl rfl rfl rfl rfl rfl rfl rfl
 ·intro c
  unfold zao
  split
  ·split
   ·exact q _ rfl rfl rfl (zsF _ _ _) rfl rfl rfl rfl rfl
   ·exact Xv.refl s
  ·exact Xv.refl s
 ·intro c
  unfold zeB
  exact q _ rfl rfl rfl (ztq _ _ _) rfl rfl rfl rfl rfl
 ·intro c
  unfold zfd
  exact ⟨rfl,Uv _ _,rfl,fun l h=> .inl h,rfl,rfl,rfl,rfl,rfl,rfl⟩
 ·intro c
  unfold zgV
  exact ⟨rfl,rfl,by simp,zrU _,rfl,rfl,rfl,rfl,rfl,rfl⟩
 ·intro c
  unfold zfi
  exact ⟨rfl,Uv _ _,rfl,fun l h=> .inl h,rfl,rfl,rfl,rfl,rfl,rfl⟩
 ·intro c
  unfold ze5
  exact Xv.refl s
 ·intro c
  unfold zfh
  exact Xv.refl s
 ·intro c
  unfold zap
  exact (zaB s x.G).1
 ·intro c
  unfold zgI
  exact q _ rfl rfl rfl (zoM _ _) rfl rfl rfl rfl rfl
 ·intro c
  unfold zgC
  exact q _ rfl rfl rfl rfl rfl rfl rfl rfl rfl
 ·exact Xv.refl s
theorem HOk.sm {p:zb} (hp:zE p) {h:zC} (H:HOk p h):h.Objs.length<1000000∧∀x∈h.Objs,x.length<1000000:=by
 have h1:=H.n
 have h2:=hp.most
 have h3:=hp.n
 have h4:=hp.slots
 have h5:=H.slots
 exact ⟨by omega,fun x hx=>by have:=(H.objs x hx).1;omega⟩
theorem Xg.turn {p:zb} (hp:zE p) {s s':za} (h:Xg s) (T:Xv s s') (H:HOk p s'.H):Xg s':=by
 have hh:=H.sm hp
 refine ⟨by rw [T.m];exact h.m,by rw [T.bl];exact h.bins,fun x hx=> ?_,by rw [T.ac];exact h.acks,by rw [T.bal];exact h.bal,by rw [T.ws];exact h.ws,by rw [T.ws];exact h.w,by rw [T.ms];exact h.ms,by rw [T.ms];exact h.mu,hh.1,hh.2,by rw [T.P];exact h.pobjs,by rw [T.P];exact h.pobj,by rw [T.P];exact h.regs,by rw [T.P];exact h.reg,by rw [T.P];exact h.progs,by rw [T.P];exact h.prog,by rw [T.P];exact h.picks⟩
 rcases T.b x hx with h' | h'
 ·exact h.bin x h'
 ·omega
theorem Xg.setW {s:za} (h:Xg s) {i:Nat} {x:ze} (hx:x.Batch.length<1000000):Xg {s with Ws:=s.Ws.set i x} :=
 ⟨h.m,h.bins,h.bin,h.acks,h.bal,by simp only [List.length_set];exact h.ws,fun y hy=>by
  rcases List.mem_or_eq_of_mem_set hy with hy | rfl
  ·exact h.w y hy
  ·exact hx,h.ms,h.mu,h.objs,h.obj,h.pobjs,h.pobj,h.regs,h.reg,h.progs,h.prog,h.picks⟩
theorem Xg.setM {s:za} (h:Xg s) {i:Nat} {x:zc} (hx:x.Regs.length<1000000∧x.Buf.length<1000000∧x.Batch.length<1000000):Xg {s with Ms:=s.Ms.set i x} :=
 ⟨h.m,h.bins,h.bin,h.acks,h.bal,h.ws,h.w,by simp only [List.length_set];exact h.ms,fun y hy=>by
  rcases List.mem_or_eq_of_mem_set hy with hy | rfl
  ·exact h.mu y hy
  ·exact hx,h.objs,h.obj,h.pobjs,h.pobj,h.regs,h.reg,h.progs,h.prog,h.picks⟩
theorem zr6 {α:Type} {l:List α} {i j:Nat} {x y:α} (h:(l.set i x)[j]? =some y):(j=i∧y=x)∨l[j]? =some y:=by
 rw [List.getElem?_set] at h
 split at h
 ·rename_i e
  split at h
  ·injection h with h;exact .inl ⟨e.symm,h.symm⟩
  ·cases h
 ·exact .inr h
theorem ziH {p:zb} {nb:Nat} {s:za} (h:zE p) (E:EOk p nb s) (w:Int):EOk p nb (zN s w):=by
 unfold zN
 split
 ·exact E
 rename_i hc
 cases hx:s.Ws[(w-1).toNat]? with
 | none=>exact E
 | some x =>
  have hw1: ¬w<1:=fun e=>hc (.inr (.inl e))
  have hw2: ¬(s.Ws.length:Int)<w:=fun e=>hc (.inr (.inr e))
  have hwl:=E.wl
  have ei:(((w-1).toNat:Nat):Int)+1=w:=by omega
  have hW:=E.W _ x hx
  rw [ei] at hW
  obtain ⟨r1,r2⟩:=zrH h (by omega) E.S hW
  obtain ⟨T,TH⟩:=zoY s w x
  have sm:Xg (zi s w x).1:=E.small.turn h T (by rw [TH];exact E.H)
  have hws:(zi s w x).1.Ws=s.Ws:=T.ws
  refine ⟨r1.keep rfl rfl rfl,?_,?_,?_,fun i y hy=> ?_,fun i y hy=> ?_,?_,?_,?_⟩
  ·show ((s.Ws.set _ _).length:Int)=_
   rw [List.length_set];exact hwl
  ·show ((zi s w x).1.Ms.length:Int)=_
   rw [T.ms];exact E.ml
  ·show (zi s w x).1.Acks.length=(zi s w x).1.Ms.length
   rw [T.ms,T.ac];exact E.al
  ·rcases zr6 hy with ⟨rfl,rfl⟩ | hy
   ·rw [ei];exact r2
   ·exact E.W i y hy
  ·have hy:(zi s w x).1.Ms[i]? =some y:=hy
   rw [T.ms] at hy
   exact E.X i y hy
  ·show HOk p (zi s w x).1.H
   rw [TH];exact E.H
  ·show (0≤(zi s w x).1.D.PC∧(zi s w x).1.D.PC≤6)∧((zi s w x).1.D.PC=3→0≤(zi s w x).1.D.I∧(zi s w x).1.D.I<((zi s w x).1.Ms.length:Int))
   rw [T.d,T.ms];exact E.D
  ·have:=sm.setW (i:=(w-1).toNat) (zsL E.small w (E.small.w x (List.mem_of_getElem? hx)))
   rw [hws] at this
   exact this
theorem HOk.put {p:zb} {h:zC} (H:HOk p h) (o s v:Int):HOk p (ZW h o s v):=by
 unfold ZW
 split
 ·rename_i c
  obtain ⟨c1,c2,c3⟩:=c
  unfold yX at c1
  simp only [Bool.and_eq_true,decide_eq_true_eq] at c1
  refine ⟨H.slots,by simp only [List.length_set];exact H.n,fun l hl=> ?_⟩
  simp only [List.length_set]
  rcases List.mem_or_eq_of_mem_set hl with hl | rfl
  ·exact H.objs l hl
  ·have hm:yv h o∈h.Objs:=by
    unfold yv
    rw [List.getD_eq_getElem?_getD,List.getElem?_eq_getElem (show (o-1).toNat<h.Objs.length by omega)]
    exact List.getElem_mem _
   obtain ⟨a,b⟩:=H.objs _ hm
   refine ⟨by rw [List.length_set];exact a,fun y hy=> ?_⟩
   rcases List.mem_or_eq_of_mem_set hy with hy | rfl
   ·exact b y hy
   ·exact ⟨c2,c3⟩
 ·exact H
theorem HOk.alloc {p:zb} (hp:zE p) {h:zC} (H:HOk p h) (hr:zaX h p.Most=true):HOk p (uo h):=by
 unfold zaX at hr
 simp only [Bool.and_eq_true,decide_eq_true_eq] at hr
 have hs:=hp.slots
 have hsl:=H.slots
 have hn:=H.n
 unfold uo
 refine ⟨H.slots,by simp only [List.length_append,List.length_singleton];omega,fun l hl=> ?_⟩
 simp only [List.length_append,List.length_singleton]
 rcases List.mem_append.1 hl with hl | hl
 ·obtain ⟨a,b⟩:=H.objs l hl
  exact ⟨a,fun v hv=>by have:=b v hv;omega⟩
 ·rw [List.mem_singleton.1 hl]
  refine ⟨by rw [List.length_replicate];omega,fun v hv=> ?_⟩
  rw [(List.mem_replicate.1 hv).2];omega
theorem zwZ {p:zb} (hp:zE p) {s:za} (hP:s.P=p) (H:HOk p s.H) (m:Int) (x:zc):HOk p (zn s m x).1.H:=by
 refine wD (motive:=fun r=>HOk p r.1.H) s m x ?_ ?_ ?_ ?_ ?_ ?_ ?_ ?_ ?_ ?_ ?_ ?_ ?_ ?_ ?_ ?_ ?_ ?_ ?_ ?_
 ·intro c
  unfold mu0
  exact H
 ·intro c
  unfold mu1
  exact H
 ·intro c
  unfold mu2
  exact H
 ·intro c
  unfold mu3
  rw [(zaB s x.G).2];exact H
 ·intro c
  unfold zhg
  exact H
 ·intro c
  unfold zeC
  exact H
 ·intro c
  unfold zfk
  exact H
 ·intro c
  unfold zeN
  exact H
 ·intro c
  unfold zfv
  exact H.put _ _ _
 ·intro c
  unfold zao
  split
  ·split
   ·rename_i hr
    rw [hP] at hr
    exact H.alloc hp hr
   ·exact H
  ·exact H
 ·intro c
  unfold zeB
  exact H
 ·intro c
  unfold zfd
  exact H
 ·intro c
  unfold zgV
  exact H
 ·intro c
  unfold zfi
  exact H
 ·intro c
  unfold ze5
  exact H
 ·intro c
  unfold zfh
  exact H
 ·intro c
  unfold zap
  rw [(zaB s x.G).2];exact H
 ·intro c
  unfold zgI
  exact H
 ·intro c
  unfold zgC
  exact H
 ·exact H
theorem zp0 (s:za) (m:Int) (x:zc):(zba s m x).Batch=x.Batch:=by
 unfold zba
 repeat' split
 all_goals rfl
theorem ztL {s:za} (h:Xg s) (m:Int) {x:zc} (hx:x.Batch.length<1000000):(zn s m x).2.Batch.length<1000000:=by
 refine wD (motive:=fun r=>r.2.Batch.length<1000000) s m x ?_ ?_ ?_ ?_ ?_ ?_ ?_ ?_ ?_ ?_ ?_ ?_ ?_ ?_ ?_ ?_ ?_ ?_ ?_ ?_
 ·intro c
  unfold mu0
  dsimp only;rw [zp0];exact hx
 ·intro c
  unfold mu1
  dsimp only;split<;>exact hx
 ·intro c
  unfold mu2
  exact hx
 ·intro c
  unfold mu3
  dsimp only;split<;>exact hx
 ·intro c
  unfold zhg
  exact hx
 ·intro c
  unfold zeC
  dsimp only;split<;>exact hx
 ·intro c
  unfold zfk
  dsimp only;split<;>exact hx
 ·intro c
  unfold zeN
  dsimp only;split<;>exact hx
 ·intro c
  unfold zfv
  exact hx
 ·intro c
  unfold zao
  split
  ·split<;>exact hx
  ·exact hx
 ·intro c
  unfold zeB
  dsimp only;split<;>exact hx
 ·intro c
  unfold zfd
  dsimp only
  split
  ·exact hx
  split<;>exact hx
 ·intro c
  unfold zgV
  exact zkM h _
 ·intro c
  unfold zfi
  dsimp only;split<;>exact hx
 ·intro c
  unfold ze5
  dsimp only
  cases hb:x.Batch with
  | nil=>show ([]:List Int).length<1000000;simp
  | cons o l=>rw [hb] at hx;show l.length<_;simp at hx;omega
 ·intro c
  unfold zfh
  dsimp only;split<;>exact hx
 ·intro c
  unfold zap
  dsimp only;split<;>exact hx
 ·intro c
  unfold zgI
  exact hx
 ·intro c
  unfold zgC
  exact hx
 ·exact hx
theorem zq6 {p:zb} (h:zE p) (m:Int):zni p m<1000000:=by
 unfold zni
 rw [List.getD_eq_getElem?_getD]
 cases hq:p.Regs[(m-1).toNat]? with
 | none=>simp
 | some r=>have:=(h.reg r (List.mem_of_getElem? hq)).1;show r.length<_;omega
theorem zts {p:zb} {nb:Nat} {s:za} (h:zE p) (E:EOk p nb s) (m:Int):EOk p nb (yR s m):=by
 unfold yR
 split
 ·exact E
 rename_i hc
 cases hx:s.Ms[(m-1).toNat]? with
 | none=>exact E
 | some x =>
  have hw1: ¬m<1:=fun e=>hc (.inr (.inl e))
  have hw2: ¬(s.Ms.length:Int)<m:=fun e=>hc (.inr (.inr e))
  have ei:(((m-1).toNat:Nat):Int)+1=m:=by omega
  have hX:=E.X _ x hx
  rw [ei] at hX
  obtain ⟨r1,r2⟩:=zta h (zmU h m) E.S hX
  have T:=zvn s m x
  have TH:=zwZ h E.S.P E.H m x
  have sm:Xg (zn s m x).1:=E.small.turn h T TH
  have hms:(zn s m x).1.Ms=s.Ms:=T.ms
  have hb:=h.buf
  refine ⟨r1.keep rfl rfl rfl,?_,?_,?_,fun i y hy=> ?_,fun i y hy=> ?_,TH,?_,?_⟩
  ·show ((zn s m x).1.Ws.length:Int)=_
   rw [T.ws];exact E.wl
  ·show ((s.Ms.set _ _).length:Int)=_
   rw [List.length_set];exact E.ml
  ·show (zn s m x).1.Acks.length=(s.Ms.set _ _).length
   rw [List.length_set,T.ac];exact E.al
  ·have hy:(zn s m x).1.Ws[i]? =some y:=hy
   rw [T.ws] at hy
   exact E.W i y hy
  ·rcases zr6 hy with ⟨rfl,rfl⟩ | hy
   ·rw [ei];exact r2
   ·exact E.X i y hy
  ·show (0≤(zn s m x).1.D.PC∧(zn s m x).1.D.PC≤6)∧((zn s m x).1.D.PC=3→0≤(zn s m x).1.D.I∧(zn s m x).1.D.I<((s.Ms.set _ _).length:Int))
   rw [T.d,List.length_set];exact E.D
  ·have q:=E.small.mu x (List.mem_of_getElem? hx)
   have q1:=r2.regs
   have q2:=r2.buf
   have q3:=zq6 h m
   have:=sm.setM (i:=(m-1).toNat) (x:=(zn s m x).2) ⟨by omega,by omega,ztL E.small m q.2.2⟩
   rw [hms] at this
   exact this
end
end Go.Pe.G
namespace Go.Pe.G
open Go.Pe
noncomputable section
theorem zv3 (t:zo) (o:Int):zjE t o=some (xg t o,()):=by
 rw [zp4,znz,Option.bind_some]
 show (bif zO (t.Marks&&&t.Black) o then _ else _)=_
 unfold xg
 cases h:zO (t.Marks&&&t.Black) o with
 | true=>rfl
 | false =>
  rw [cond_false,znz,Option.bind_some]
  show (bif zO t.Marks o then _ else _)=_
  cases h2:zO t.Marks o<;>rfl
theorem zth (t:zo) (o:Int):zcr t o=some (vq t o,decide (xg t o=1),()):=by
 rw [zoj,zv3,Option.bind_some,yQ]
 unfold vq
 by_cases h:xg t o=1
 ·rw [if_pos h,if_pos h,zkk,Option.bind_some,decide_eq_true h]
 ·rw [if_neg h,if_neg h,decide_eq_false h]
theorem zst {h:zC} (hl:h.Objs.length<1000000) (o s:Int):UO h o s=some (yX h o s,()):=by
 rw [ziC]
 simp only [zA]
 unfold yX
 by_cases h1:1≤o
 ·rw [if_pos h1]
  by_cases h2:o≤(h.Objs.length:Int)
  ·rw [if_pos h2]
   by_cases h3:0≤s
   ·have e:=List.getElem?_eq_getElem (show (o-1).toNat<h.Objs.length by omega)
    rw [if_pos h3,yU (a:=o-1) (by omega) (by omega),Vj (by omega),e,Option.bind_some,decide_eq_true h1,decide_eq_true h2,decide_eq_true h3]
    unfold yv
    rw [List.getD_eq_getElem?_getD,e];rfl
   ·rw [if_neg h3,decide_eq_false h3,Bool.and_false];rfl
  ·rw [if_neg h2,decide_eq_false h2,Bool.and_false];rfl
 ·rw [if_neg h1,decide_eq_false h1];rfl
theorem zu7 {h:zC} (hl:h.Objs.length<1000000) (o s:Int):ziD h o s=some (zJ h o s,yX h o s,()):=by
 rw [zoZ,zst hl,Option.bind_some]
 unfold zJ
 cases hs:yX h o s with
 | false=>rfl
 | true =>
  have hs':=hs
  unfold yX at hs'
  simp only [Bool.and_eq_true,decide_eq_true_eq] at hs'
  obtain ⟨⟨⟨h1,h2⟩,h3⟩,h4⟩:=hs'
  have e:=List.getElem?_eq_getElem (show (o-1).toNat<h.Objs.length by omega)
  have es:yv h o=h.Objs[(o-1).toNat]'(by omega):=by unfold yv;rw [List.getD_eq_getElem?_getD,e];rfl
  rw [es] at h4
  have e2:=List.getElem?_eq_getElem (show s.toNat<(h.Objs[(o-1).toNat]'(by omega)).length by omega)
  simp only [Bool.not_true,cond_false,if_true]
  rw [yU (a:=o-1) (by omega) (by omega),Vj (by omega),e,Option.bind_some,Vj h3,e2,Option.bind_some,es,List.getD_eq_getElem?_getD,e2];rfl
theorem zpz (l:zq) (who:Int):Wz l who=some (decide (1≤who)&&decide (who≤(l.Bal.length:Int)),()):=by
 rw [ze0,zA]
 by_cases h1:1≤who
 ·rw [if_pos h1,decide_eq_true h1];rfl
 ·rw [if_neg h1,decide_eq_false h1];rfl
theorem zrf {l:zq} (hl:l.Bal.length<1000000) (who:Int):zab l who=some (U9 l who,()):=by
 rw [zlw,um,zpz,Option.bind_some]
 unfold U9
 by_cases h:1≤who∧who≤(l.Bal.length:Int)
 ·rw [if_pos h,decide_eq_true h.1,decide_eq_true (show who≤((({l with Scanned:=wc (l.Scanned+1)}:zq).Bal.length:Nat):Int) from h.2)]
  have hn: ¬l.Bal.isEmpty=true:=by
   intro e
   have:l.Bal=[]:=by simpa using e
   rw [this] at h
   simp at h
   omega
  have hn:l.Bal.isEmpty=false:=by simpa using hn
  have e:=List.getElem?_eq_getElem (show (who-1).toNat<l.Bal.length by omega)
  rw [Bool.true_and,Bool.not_true,cond_false,Wm]
  simp only [decide_true,cond_true,zfo (n:=(l.Bal.length:Int)) (by omega) (by omega),Option.bind_some,List.length_replicate,Int.toNat_natCast,hn,cond_false,um]
  rw [xm (a:=who-1) (by omega) (by omega),Vr (l:=l.Bal) (by omega) (by omega),Option.bind_some,e,Option.bind_some,zjH,Option.bind_some,Option.bind_some,Option.bind_some,um,List.getD_eq_getElem?_getD,e]
  rfl
 ·rw [if_neg h]
  have e:(decide (1≤who)&&decide (who≤((({l with Scanned:=wc (l.Scanned+1)}:zq).Bal.length:Nat):Int)))=false:=by
   by_cases h1:1≤who
   ·rw [decide_eq_true h1,decide_eq_false (fun e=>h ⟨h1,e⟩)];rfl
   ·rw [decide_eq_false h1];rfl
  rw [e];rfl
theorem zuB {α:Type} (o:α) (l:List α):cut (o::l) 1 (((o::l).length:Nat):Int)=some l:=by
 unfold cut
 rw [decide_eq_true (show (0:Int)≤1 by decide),decide_eq_true (show (1:Int)≤(((o::l).length:Nat):Int) by simp;omega),decide_eq_true (Int.le_refl _)]
 simp
end
end Go.Pe.G
namespace Go.Pe.G
open Go.Pe
noncomputable section
theorem zvk {m:List ze} (h:m.length<4294967296):wP m=some (m,()):=by
 rw [XU,List.nil_append,uj h,Option.bind_some]
 cases m with
 | nil=>simp [zgv]
 | cons a l=>simp
theorem zu0 {n v:Int} (h:1≤v∧v≤n) (hn:n<1000000):w64 (v.tmod n+1)=Ur n v:=by
 unfold Ur
 rw [Int.tmod_eq_emod_of_nonneg (by omega)]
 by_cases hv:v<n
 ·rw [if_pos hv,Int.emod_eq_of_lt (by omega) hv,yU (by omega) (by omega)]
 ·have:v=n:=by omega
  rw [if_neg hv,this,Int.emod_self,yU (by omega) (by omega)]
  rfl
theorem zrq {p:zb} (h:zE p) {s:za} (hP:s.P=p) (hl:(s.Ws.length:Int)=p.Workers) {x:ze} (hv:1≤x.Victim∧x.Victim≤p.Workers) (w:Int) :
  YE ⟨x,s,w⟩=some (⟨Ze p w x,s,w⟩,()):=by
 have hw:=h.wk
 rw [zfJ]
 simp only [zA,hl]
 rw [if_neg (show ¬p.Workers=0 by omega),zu0 hv (by omega)]
 unfold Ze
 by_cases e:Ur p.Workers x.Victim=w
 ·rw [if_pos e,if_pos e,zdQ,Option.bind_some,zbc]
  simp only [zbb,Option.bind_some,WS,e,hP]
  rfl
 ·rw [if_neg e,if_neg e,zcR]
  simp only [zcK,Option.bind_some,WO,hP]
theorem zi3 {p:zb} {s:za} (hP:s.P=p) (x:ze) (w:Int):vA ⟨x,s,w⟩=some (⟨V6 p w x,s,w⟩,()):=by
 rw [zft,zcR]
 simp only [zcK,Option.bind_some,WO,hP]
 rfl
theorem zoO (s:za) (x:ze) (w:Int):XJ ⟨x,s,w⟩=some (onW s x.Slot,()):=by
 rw [zj2,zA]
 unfold onW
 split<;>rfl
theorem zkK {s:za} (hm:s.M.length<4294967296) (x:ze) (w:Int):vR ⟨x,s,w⟩=some ((zk s.M x.C).2.Out,⟨{x with C:=(zk s.M x.C).2},{s with M:=(zk s.M x.C).1},w⟩,()):=by
 rw [zfM]
 simp only [zij hm,Option.bind_some]
theorem zm0 {p:zb} (h:zE p) {s:za} (hP:s.P=p) (hm:s.M.length<4294967296) (hl:(s.Ws.length:Int)=p.Workers) {x:ze} (hv:1≤x.Victim∧x.Victim≤p.Workers) (hc:x.D.Cap<1000) {w:Int} (h01:x.PC=0∨x.PC=1) :
  Xf ⟨x,s,w⟩=some (⟨(zi s w x).2,(zi s w x).1,w⟩,()):=by
 unfold zi
 rw [if_pos h01,zgO]
 simp only [zsM hm hc,Option.bind_some,zA]
 by_cases o1:(zM s.M x.D).2.Out=1
 ·rw [if_pos o1,if_pos o1,UE];rfl
 ·rw [if_neg o1,if_neg o1]
  have hk:=fun (x':ze) (e:x'.Victim=x.Victim)=>zrq h (s:={s with M:=(zM s.M x.D).1}) hP hl (x:=x') (by rw [e];exact hv) w
  by_cases o4:(zM s.M x.D).2.Out=4
  ·rw [if_pos o4,if_pos (.inr o4),hk {x with D:=(zM s.M x.D).2} rfl,Option.bind_some,hP]
  ·rw [if_neg o4]
   by_cases o2:(zM s.M x.D).2.Out=2
   ·rw [if_pos o2,if_pos (.inl o2),hk {x with D:=(zM s.M x.D).2} rfl,Option.bind_some,hP]
   ·rw [if_neg o2,if_neg (by omega)]
theorem zs4 {p:zb} {nb:Nat} (h:zE p) {s:za} {x:ze} {w:Int} (S:SOk p nb s) (W:WOk p nb w x) (hl:(s.Ws.length:Int)=p.Workers) (sm:Xg s) :
  W1 ⟨x,s,w⟩=some (⟨(zi s w x).2,(zi s w x).1,w⟩,()):=by
 have hP:=S.P
 have hm:s.M.length<4294967296:=by have:=S.mem;omega
 have hc:=h.cap
 rw [zfQ]
 simp only [zA]
 by_cases c0:x.PC=0
 ·rw [if_pos c0,if_pos c0,zm0 h hP hm hl W.vic (by have:=(W.d0 c0).2.2;omega) (.inl c0),Option.bind_some]
 rw [if_neg c0]
 by_cases c1:x.PC=1
 ·rw [if_pos c1,zm0 h hP hm hl W.vic (by have:=(W.d1 c1).2.2;omega) (.inr c1),Option.bind_some]
 rw [if_neg c1]
 unfold zi
 rw [if_neg (show ¬(x.PC=0∨x.PC=1) by omega)]
 by_cases c2:x.PC=2
 ·rw [if_pos c2,if_pos c2,zkK hm,Option.bind_some]
  simp only [zi3 (s:={s with M:=(zk s.M x.C).1}) hP]
  by_cases o1:(zk s.M x.C).2.Out=1
  ·rw [if_pos o1,if_pos o1]
  ·rw [if_neg o1,if_neg o1]
   by_cases o2:(zk s.M x.C).2.Out=2
   ·rw [if_pos o2,if_pos o2,Option.bind_some,hP]
   ·rw [if_neg o2,if_neg o2]
 rw [if_neg c2,if_neg c2]
 by_cases c3:x.PC=3
 ·have B:=W.b3 c3
  have hb:=S.bins
  have hnb:=S.nbk
  have e:=List.getElem?_eq_getElem (show x.Bin.toNat<s.Bins.length by omega)
  rw [if_pos c3,if_pos c3,zfT]
  dsimp only
  rw [Vj (by omega),e,Option.bind_some,zmF (by omega),Option.bind_some,Vr (l:=s.Bins) (by omega) (by omega),Option.bind_some,zcx,Option.bind_some,zbc]
  simp only [zbb,Option.bind_some,WS]
  unfold XB
  rw [List.getD_eq_getElem?_getD,e];rfl
 rw [if_neg c3,if_neg c3]
 by_cases c4:x.PC=4
 ·rw [if_pos c4,if_pos c4,zkK hm,Option.bind_some]
  dsimp only
  by_cases o1:(zk s.M x.C).2.Out=1
  ·rw [if_pos o1,if_pos o1]
  ·rw [if_neg o1,if_neg o1]
 rw [if_neg c4,if_neg c4]
 by_cases c5:x.PC=5
 ·rw [if_pos c5,if_pos c5,zfV]
  simp only [zu7 sm.objs,Option.bind_some,zA,zoO,zsc,um]
  by_cases v:zJ s.H x.Obj x.Slot=0
  ·rw [if_pos v,if_pos v];rfl
  ·rw [if_neg v,if_neg v];rfl
 rw [if_neg c5,if_neg c5]
 by_cases c6:x.PC=6
 ·obtain ⟨g1,g2,g3,g4⟩:=W.g6 c6
  rw [if_pos c6,if_pos c6]
  simp only [ztf (S.gok h g1),Option.bind_some,zoO]
  have eH:(zp s x.G).1.H=s.H:=(zaB s x.G).2
  by_cases o1:(zp s x.G).2.Out=1
  ·rw [if_pos o1,if_pos o1]
   unfold onW
   rw [eH]
  ·rw [if_neg o1,if_neg o1]
 rw [if_neg c6,if_neg c6]
 by_cases c7:x.PC=7
 ·rw [if_pos c7,if_pos c7]
  cases hb:x.Batch with
  | nil=>rw [if_pos (by simp),zi3 hP,Option.bind_some,hP]
  | cons o l =>
   rw [if_neg (by simp;omega),Vj (by omega)]
   simp only [Int.toNat_zero,List.getElem?_cons_zero,Option.bind_some,UE,hb]
   rw [zuB];rfl
 rw [if_neg c7,if_neg c7]
 by_cases c8:x.PC=8
 ·rw [if_pos c8,if_pos c8]
  simp only [zth,Option.bind_some,zrf sm.bal]
 rw [if_neg c8,if_neg c8]
 by_cases c9:x.PC=9
 ·rw [if_pos c9,if_pos c9,um]
 ·rw [if_neg c9,if_neg c9]
theorem zcz {p:zb} {nb:Nat} {s:za} (h:zE p) (E:EOk p nb s) (w:Int):Z5 s w=some (zN s w,()):=by
 rw [zlm]
 simp only [zA]
 unfold zN
 cases hd:s.Done with
 | true=>rw [cond_true,if_pos (.inl rfl)]
 | false =>
  rw [cond_false]
  by_cases h1:w<1
  ·rw [if_pos h1,if_pos (.inr (.inl h1))]
  rw [if_neg h1]
  by_cases h2:(s.Ws.length:Int)<w
  ·rw [if_pos h2,if_pos (.inr (.inr h2))]
  have hwl:=E.wl
  have hwk:=h.wk
  have e:=List.getElem?_eq_getElem (show (w-1).toNat<s.Ws.length by omega)
  have ei:(((w-1).toNat:Nat):Int)+1=w:=by omega
  have hW:=E.W _ _ e
  rw [ei] at hW
  obtain ⟨T,TH⟩:=zoY s w (s.Ws[(w-1).toNat]'(by omega))
  rw [if_neg h2,if_neg (fun e=>e.elim (fun h=>by cases h) (fun e=>e.elim h1 h2)),yU (a:=w-1) (by omega) (by omega),Vj (by omega),e,Option.bind_some,zs4 h E.S hW hwl E.small,Option.bind_some]
  simp only [T.ws,zvk (show s.Ws.length<4294967296 by omega),Option.bind_some,Vr (l:=s.Ws) (show 0≤w-1 by omega) (show w-1<(s.Ws.length:Int) by omega)]
end
end Go.Pe.G
namespace Go.Pe.G
open Go.Pe
noncomputable section
def Zb (p:zb) (w:Int) (i:Nat):Int:=zS p w+2+((i%p.Cap.toNat:Nat):Int)
structure DQ (p:zb) (m:List (BitVec 64)) (w:Int) (t:Nat) (l:List Int) (c:Nat):Prop where
 top:ld m (zS p w)=BitVec.ofNat 64 t
 bot:ld m (zS p w+1)=BitVec.ofNat 64 (t+l.length-c)
 c1:c≤1
 t1:1≤t
 cap:l.length≤p.Cap.toNat
 small:t+l.length<4294967296
 cell: ∀(i:Nat) (hi:i<l.length),(ld m (Zb p w (t+i))).toInt=l[i]
theorem DQ.keep {p:zb} (h:zE p) {m m':List (BitVec 64)} {w:Int} {t c:Nat} {l:List Int} (D:DQ p m w t l c) (hm: ∀a,zS p w≤a→a<zS p w+p.Cap+2→ld m' a=ld m a):DQ p m' w t l c:=by
 have hc:=h.cap
 refine ⟨by rw [hm _ (by omega) (by omega)];exact D.top,by rw [hm _ (by omega) (by omega)];exact D.bot,D.c1,D.t1,D.cap,D.small,fun i hi=> ?_⟩
 have:=Nat.mod_lt (t+i) (show 0<p.Cap.toNat by omega)
 rw [hm _ (by unfold Zb;omega) (by unfold Zb;omega)]
 exact D.cell i hi
theorem u0 {n:Nat} (h:n<18446744073709551616):(BitVec.ofNat 64 n).toNat=n:=by rw [BitVec.toNat_ofNat];omega
theorem zgo {a b:Nat} (h:b≤a) (h2:a<18446744073709551616):BitVec.ofNat 64 a-BitVec.ofNat 64 b=BitVec.ofNat 64 (a-b):=by
 apply BitVec.eq_of_toNat_eq
 rw [BitVec.toNat_sub,u0 h2,u0 (by omega),u0 (by omega)]
 omega
theorem zjF {a b:Nat} (h2:a+b<18446744073709551616):BitVec.ofNat 64 a+BitVec.ofNat 64 b=BitVec.ofNat 64 (a+b):=by
 apply BitVec.eq_of_toNat_eq
 rw [BitVec.toNat_add,u0 (by omega),u0 (by omega),u0 (by omega)]
 omega
theorem zt7 {a b:Nat} (h:a<18446744073709551616) (h2:b<18446744073709551616) (e:BitVec.ofNat 64 a=BitVec.ofNat 64 b):a=b:=by
 have:=congrArg BitVec.toNat e
 rwa [u0 h,u0 h2] at this
theorem zi2 {a b:Nat} (h:a<4294967296) (h2:b<4294967296):0<(BitVec.ofNat 64 a-BitVec.ofNat 64 b).toInt↔b<a:=by
 rw [BitVec.toInt_eq_toNat_cond,BitVec.toNat_sub,u0 (by omega),u0 (by omega)]
 omega
theorem zv9 {t i n c:Nat} (hi:i<n) (hn:n<t+c) (ht:t≤i) (e:i%c=n%c):False:=by
 have h1:=Nat.div_add_mod i c
 have h2:=Nat.div_add_mod n c
 have hc:0<c:=by omega
 rw [e] at h1
 have h3:c*(n/c)=c*(i/c)+(n-i):=by omega
 rcases Nat.lt_or_ge (i/c) (n/c) with h | h
 ·have:c*(i/c)+c≤c*(n/c):=by
   have:=Nat.mul_le_mul_left c h
   rw [Nat.succ_eq_add_one,Nat.mul_add,Nat.mul_one] at this
   exact this
  omega
 ·have:=Nat.mul_le_mul_left c h
  omega
theorem zf2 {p:zb} (h:zE p) {d:zg} {w:Int} (hw:1≤w∧w≤p.Workers) (hb:d.Base=zS p w) (hc:d.Cap=p.Cap) {i:Nat} (hi:i<4294967296):WB d (BitVec.ofNat 64 i)=Zb p w i:=by
 rw [(zlT h hw.1 hw.2 hb hc _).1,u0 (by omega),hb];rfl
structure DK (p:zb) (m:List (BitVec 64)) (w:Int) (t:Nat) (l:List Int) (c:Nat) (d:zg):Prop where
 kind:d.Kind=1
 base:d.Base=zS p w
 size:d.Cap=p.Cap
 out:d.Out=0
 c0:c=0
 pc:0≤d.PC∧d.PC≤3
 b:1≤d.PC→d.B=BitVec.ofNat 64 (t+l.length)
 r:2≤d.PC→l.length<p.Cap.toNat
 x:3≤d.PC→(ld m (Zb p w (t+l.length))).toInt=d.X
structure PK (p:zb) (m:List (BitVec 64)) (w:Int) (t:Nat) (l:List Int) (c:Nat) (d:zg):Prop where
 kind:d.Kind=2
 base:d.Base=zS p w
 size:d.Cap=p.Cap
 out:d.Out=0
 pc:0≤d.PC∧d.PC≤6
 c0:d.PC≤1→c=0
 c1:d.PC=2∨4≤d.PC→c=1
 b:d.PC=1∨d.PC=2∨4≤d.PC∨(d.PC=3∧d.T=d.B-1#64)→d.B=BitVec.ofNat 64 (t+l.length)
 c3:d.PC=3→d.T=d.B-1#64→c=1
 n3:d.PC=3→d.T≠d.B-1#64→c=0∧d.B=BitVec.ofNat 64 (t+l.length+1)∧t+l.length+1<4294967296∧l.length+1≤p.Cap.toNat
 t3:d.PC=3∨d.PC=4→d.T.toNat≤t
 t4:d.PC=4→d.T=d.B-1#64
 x4:d.PC=4→d.T.toNat=t→l=[d.X]
 e5:5≤d.PC→l=[]
def Y0 (m:List (BitVec 64)) (d:zg):List Int :=
 if d.PC=3∧d.T≠d.B-1#64 then [(ld m (WB d (d.B-1#64))).toInt] else if d.PC=6 then [d.X] else []
structure TK (p:zb) (m:List (BitVec 64)) (w:Int) (t:Nat) (l:List Int) (d:zg):Prop where
 kind:d.Kind=3
 base:d.Base=zS p w
 size:d.Cap=p.Cap
 out:d.Out=0
 pc:0≤d.PC∧d.PC≤3
 le:1≤d.PC→d.T.toNat≤t
 ne:2≤d.PC→d.T.toNat=t→l≠[]
 hd:d.PC=3→d.T.toNat=t→l.head? =some d.X
structure Dv (t:Nat) (l:List Int) (t':Nat) (l':List Int):Prop where
 le:t≤t'
 hd:t'=t→l≠[]→l'≠[]∧l'.head? =l.head?
theorem Dv.refl (t:Nat) (l:List Int):Dv t l t l:=⟨Nat.le_refl _,fun _ h=>⟨h,rfl⟩⟩
theorem TK.dv {p:zb} {m m':List (BitVec 64)} {w:Int} {t t':Nat} {l l':List Int} {d:zg} (K:TK p m w t l d) (V:Dv t l t' l'):TK p m' w t' l' d:=by
 have h1:=V.le
 refine ⟨K.kind,K.base,K.size,K.out,K.pc,fun h=>Nat.le_trans (K.le h) h1,fun h e=> ?_,fun h e=> ?_⟩
 ·have:=K.le (by omega)
  have et:t'=t:=by omega
  exact (V.hd et (K.ne h (by omega))).1
 ·have:=K.le (by omega)
  have et:t'=t:=by omega
  rw [(V.hd et (K.ne (by omega) (by omega))).2]
  exact K.hd h (by omega)
theorem zsZ {p:zb} (h:zE p) {m:List (BitVec 64)} {w:Int} {t c:Nat} {l:List Int} {d:zg} (hw:1≤w∧w≤p.Workers) (hlen:zZ p≤m.length) (D:DQ p m w t l c) (K:TK p m w t l d) :
  ((zM m d).1=m∧(((zM m d).2.Out=0∧TK p m w t l (zM m d).2)∨(zM m d).2.Out=2∨(zM m d).2.Out=4)) ∨
  (∃x l',l=x::l'∧(zM m d).2.Out=1∧(zM m d).2.X=x∧DQ p (zM m d).1 w (t+1) l' c∧(∀a,a≠zS p w→ld (zM m d).1 a=ld m a)):=by
 have hc:=h.cap
 have hd:=Z1 h hw.1 hw.2
 have hf:=uI h
 have hpc:=K.pc
 have hsm:=D.small
 have ht1:=D.t1
 have hc1:=D.c1
 have eb:wc (d.Base+1)=zS p w+1:=by rw [K.base,xm (by omega) (by omega)]
 have k:=K.kind
 unfold zM
 rw [if_neg (by have:=K.out;omega),if_neg (by omega),if_neg (by omega),if_pos k]
 unfold Xz
 rw [if_neg (by omega),eb]
 by_cases c0:d.PC=0
 ·rw [if_pos c0]
  exact .inl ⟨rfl,.inl ⟨K.out,⟨k,K.base,K.size,K.out,⟨by dsimp only;omega,by dsimp only;omega⟩,fun _=>by dsimp only;rw [K.base,D.top,u0 (by omega)];exact Nat.le_refl _,fun e=>by dsimp only at e;omega,fun e=>by dsimp only at e;omega⟩⟩⟩
 rw [if_neg c0]
 have hT:=K.le (by omega)
 by_cases c1:d.PC=1
 ·rw [if_pos c1]
  left
  refine ⟨rfl,?_⟩
  by_cases hs:0<(ld m (zS p w+1)-d.T).toInt
  ·left
   dsimp only
   rw [if_pos hs]
   refine ⟨K.out,⟨k,K.base,K.size,K.out,⟨by dsimp only;omega,by dsimp only;omega⟩,fun _=>hT,fun _ e=> ?_,fun e=>by dsimp only at e;omega⟩⟩
   have e:d.T.toNat=t:=e
   have eT:d.T=BitVec.ofNat 64 t:=by apply BitVec.eq_of_toNat_eq;rw [u0 (by omega)];exact e
   rw [D.bot,eT] at hs
   have:=(zi2 (by omega) (by omega)).1 hs
   intro el
   rw [el] at this
   simp at this
   omega
  ·right;left
   dsimp only
   rw [if_neg hs]
 rw [if_neg c1]
 by_cases c2:d.PC=2
 ·rw [if_pos c2]
  left
  refine ⟨rfl,.inl ⟨K.out,⟨k,K.base,K.size,K.out,⟨by dsimp only;omega,by dsimp only;omega⟩,fun _=>hT,fun _ e=>K.ne (by omega) e,fun _ e=> ?_⟩⟩⟩
  have e:d.T.toNat=t:=e
  have eT:d.T=BitVec.ofNat 64 t:=by apply BitVec.eq_of_toNat_eq;rw [u0 (by omega)];exact e
  have hn:=K.ne (by omega) e
  cases l with
  | nil=>exact absurd rfl hn
  | cons x l =>
   have:=D.cell 0 (by simp)
   dsimp only
   rw [eT,zf2 h hw K.base K.size (by omega)]
   rw [Nat.add_zero] at this
   rw [this];rfl
 rw [if_neg c2]
 have c3:d.PC=3:=by omega
 by_cases hs:ld m d.Base=d.T
 ·right
  have eT:d.T.toNat=t:=by rw [←hs,K.base,D.top,u0 (by omega)]
  have eT':d.T=BitVec.ofNat 64 t:=by rw [←hs,K.base,D.top]
  have hx:=K.hd c3 eT
  have hn:=K.ne (by omega) eT
  have hsw:sw m d.Base d.T (d.T+1#64)=(st m d.Base (d.T+1#64),true):=by unfold sw;rw [if_pos ⟨by rw [K.base];omega,by rw [K.base];omega,hs⟩]
  rw [hsw]
  cases l with
  | nil=>exact absurd rfl hn
  | cons x l =>
   have hx:x=d.X:=by simpa using hx
   have hmod: ∀i,zS p w+2≤Zb p w i:=fun i=>by unfold Zb;omega
   have hlc:=D.cap
   rw [List.length_cons] at hlc hsm
   refine ⟨x,l,rfl,rfl,hx.symm,⟨?_,?_,hc1,by omega,by omega,by omega,fun i hi=> ?_⟩,fun a ha=> ?_⟩
   ·dsimp only
    rw [K.base,Xd,if_pos ⟨rfl,by omega,by omega⟩,eT']
    exact zjF (by omega)
   ·dsimp only
    rw [K.base,yq (by omega),D.bot,List.length_cons]
    congr 1
    omega
   ·dsimp only
    have:=hmod (t+1+i)
    rw [K.base,yq (by omega)]
    have:=D.cell (i+1) (by simp;omega)
    rw [show t+(i+1)=t+1+i by omega] at this
    simpa using this
   ·dsimp only
    rw [K.base,yq (fun e=>ha e.symm)]
 ·left
  have hsw:sw m d.Base d.T (d.T+1#64)=(m,false):=by unfold sw;rw [if_neg (fun e=>hs e.2.2)]
  rw [hsw]
  exact ⟨rfl,.inr (.inr rfl)⟩
theorem vi {m:List (BitVec 64)} {d:zg} (h:d.PC≠3∨d.T=d.B-1#64) (h2:d.PC≠6):Y0 m d=[]:=by
 unfold Y0
 rw [if_neg (fun e=>h.elim (fun f=>f e.1) (fun f=>e.2 f)),if_neg h2]
theorem zqZ {p:zb} (h:zE p) {m:List (BitVec 64)} {w:Int} {t c:Nat} {l:List Int} {d:zg} (hw:1≤w∧w≤p.Workers) (hlen:zZ p≤m.length) (D:DQ p m w t l c) (K:PK p m w t l c d) :
  ∃t' l' c',DQ p (zM m d).1 w t' l' c'∧(∀a,a≠zS p w→a≠zS p w+1→ld (zM m d).1 a=ld m a)∧Dv t l t' l'∧t'+l'.length≤t+l.length ∧
   (((zM m d).2.Out=0∧PK p (zM m d).1 w t' l' c' (zM m d).2∧List.Perm (l'++Y0 (zM m d).1 (zM m d).2) (l++Y0 m d)) ∨
    ((zM m d).2.Out=1∧c'=0∧List.Perm (l'++[(zM m d).2.X]) (l++Y0 m d)) ∨
    ((zM m d).2.Out=2∧c'=0∧l'=[]∧l=[]∧Y0 m d=[])):=by
 have hc:=h.cap
 have hd:=Z1 h hw.1 hw.2
 have hf:=uI h
 have hpc:=K.pc
 have hsm:=D.small
 have ht1:=D.t1
 have hc1:=D.c1
 have eb:wc (d.Base+1)=zS p w+1:=by rw [K.base,xm (by omega) (by omega)]
 have k:=K.kind
 have one:(1#64:BitVec 64)=BitVec.ofNat 64 1:=rfl
 have hmod: ∀i,zS p w+2≤Zb p w i∧Zb p w i<zS p w+p.Cap+2:=fun i=>by
  have:=Nat.mod_lt i (show 0<p.Cap.toNat by omega)
  unfold Zb;omega
 have stb: ∀(c':Nat) (v:BitVec 64),c'≤1→v=BitVec.ofNat 64 (t+l.length-c')→DQ p (st m (zS p w+1) v) w t l c'∧(∀a,a≠zS p w→a≠zS p w+1→ld (st m (zS p w+1) v) a=ld m a):=by
  intro c' v h1 h2
  refine ⟨⟨by rw [yq (by omega)];exact D.top,by rw [Xd,if_pos ⟨rfl,by omega,by omega⟩];exact h2,h1,ht1,D.cap,hsm,fun i hi=>by rw [yq (by have:=hmod (t+i);omega)];exact D.cell i hi⟩,fun a _ h2=>yq (fun e=>h2 e.symm)⟩
 unfold zM
 rw [if_neg (by have:=K.out;omega),if_neg (by omega),if_pos k]
 unfold U8
 rw [if_neg (by omega),eb]
 by_cases p0:d.PC=0
 ·rw [if_pos p0]
  have hc0:=K.c0 (by omega)
  refine ⟨t,l,c,D,fun _ _ _=>rfl,Dv.refl _ _,Nat.le_refl _,.inl ⟨K.out,⟨k,K.base,K.size,K.out,⟨by dsimp only;omega,by dsimp only;omega⟩,fun _=>hc0,fun e=>by dsimp only at e;omega,fun _=> ?_,fun e=>by dsimp only at e;omega,fun e=>by dsimp only at e;omega,fun e=>by dsimp only at e;omega,fun e=>by dsimp only at e;omega,fun e=>by dsimp only at e;omega,fun e=>by dsimp only at e;omega⟩,?_⟩⟩
  ·dsimp only;rw [D.bot,hc0];rfl
  ·rw [vi (.inl (by dsimp only;omega)) (by dsimp only;omega),vi (.inl (by omega)) (by omega)]
 rw [if_neg p0]
 by_cases p1:d.PC=1
 ·rw [if_pos p1]
  have hB:=K.b (.inl p1)
  have eB:d.B-1#64=BitVec.ofNat 64 (t+l.length-1):=by rw [hB,one,zgo (by omega) (by omega)]
  obtain ⟨D',hm⟩:=stb 1 (d.B-1#64) (by omega) eB
  refine ⟨t,l,1,D',hm,Dv.refl _ _,Nat.le_refl _,.inl ⟨K.out,⟨k,K.base,K.size,K.out,⟨by dsimp only;omega,by dsimp only;omega⟩,fun e=>by dsimp only at e;omega,fun _=>rfl,fun _=>hB,fun e=>by dsimp only at e;omega,fun e=>by dsimp only at e;omega,fun e=>by dsimp only at e;omega,fun e=>by dsimp only at e;omega,fun e=>by dsimp only at e;omega,fun e=>by dsimp only at e;omega⟩,?_⟩⟩
  rw [vi (.inl (by dsimp only;omega)) (by dsimp only;omega),vi (.inl (by omega)) (by omega)]
 rw [if_neg p1]
 by_cases p2:d.PC=2
 ·rw [if_pos p2]
  have hB:=K.b (.inr (.inl p2))
  have hc':=K.c1 (.inl p2)
  have eB:d.B-1#64=BitVec.ofNat 64 (t+l.length-1):=by rw [hB,one,zgo (by omega) (by omega)]
  have eT:ld m d.Base=BitVec.ofNat 64 t:=by rw [K.base];exact D.top
  rw [vi (d:=d) (.inl (by omega)) (by omega),List.append_nil]
  by_cases hs:0<(ld m d.Base-(d.B-1#64)).toInt
  ·have hs':=hs
   rw [eT,eB] at hs'
   have:=(zi2 (by omega) (by omega)).1 hs'
   have el:l=[]:=by cases l with | nil=>rfl | cons a l=>rw [List.length_cons] at this;omega
   rw [if_pos hs]
   refine ⟨t,l,c,D,fun _ _ _=>rfl,Dv.refl _ _,Nat.le_refl _,.inl ⟨K.out,⟨k,K.base,K.size,K.out,⟨by dsimp only;omega,by dsimp only;omega⟩,fun e=>by dsimp only at e;omega,fun _=>hc',fun _=>hB,fun e=>by dsimp only at e;omega,fun e=>by dsimp only at e;omega,fun e=>by dsimp only at e;omega,fun e=>by dsimp only at e;omega,fun e=>by dsimp only at e;omega,fun _=>el⟩,?_⟩⟩
   rw [vi (.inl (by dsimp only;omega)) (by dsimp only;omega),List.append_nil]
  ·have hs':=hs
   rw [eT,eB] at hs'
   have hle: ¬(t+l.length-1<t):=fun e=>hs' ((zi2 (by omega) (by omega)).2 e)
   rw [if_neg hs]
   by_cases h1:l.length=1
   ·have e3:ld m d.Base=d.B-1#64:=by rw [eT,eB];congr 1;omega
    refine ⟨t,l,c,D,fun _ _ _=>rfl,Dv.refl _ _,Nat.le_refl _,.inl ⟨K.out,⟨k,K.base,K.size,K.out,⟨by dsimp only;omega,by dsimp only;omega⟩,fun e=>by dsimp only at e;omega,fun e=>by dsimp only at e;omega,fun _=>hB,fun _ _=>hc',fun _ e=>absurd e3 e,fun _=>by dsimp only;rw [eT,u0 (by omega)];exact Nat.le_refl _,fun e=>by dsimp only at e;omega,fun e=>by dsimp only at e;omega,fun e=>by dsimp only at e;omega⟩,?_⟩⟩
    rw [vi (.inr e3) (by dsimp only;omega),List.append_nil]
   ·-- the last one is the owner's
    have h2:2≤l.length:=by omega
    have e3:ld m d.Base≠d.B-1#64:=by
     rw [eT,eB]
     intro e
     have:=zt7 (by omega) (by omega) e
     omega
    have hne:l≠[]:=fun e=>by rw [e] at h2;simp at h2
    have hdl:l.dropLast.length=l.length-1:=List.length_dropLast
    refine ⟨t,l.dropLast,0,⟨D.top,?_,by omega,ht1,by have:=D.cap;omega,by omega,fun i hi=> ?_⟩,fun _ _ _=>rfl,⟨Nat.le_refl _,fun _ _=>⟨fun e=> ?_,?_⟩⟩,by omega,.inl ⟨K.out,⟨k,K.base,K.size,K.out,⟨by dsimp only;omega,by dsimp only;omega⟩,fun e=>by dsimp only at e;omega,fun e=>by dsimp only at e;omega,fun e=> ?_,fun _ e=>absurd e e3,fun _ _=>⟨rfl,?_,by omega,by have:=D.cap;omega⟩,fun _=>by dsimp only;rw [eT,u0 (by omega)];exact Nat.le_refl _,fun e=>by dsimp only at e;omega,fun e=>by dsimp only at e;omega,fun e=>by dsimp only at e;omega⟩,?_⟩⟩
    ·rw [D.bot,hc',hdl];congr 1;omega
    ·rw [D.cell i (by omega)]
     exact (List.getElem_dropLast ..).symm
    ·have:=congrArg List.length e;rw [hdl] at this;simp at this;omega
    ·cases l with
     | nil=>exact absurd rfl hne
     | cons a l=>cases l with
      | nil=>simp at h2
      | cons b l=>rfl
    ·rcases e with e | e | e | ⟨_,e⟩
     ·dsimp only at e;omega
     ·dsimp only at e;omega
     ·dsimp only at e;omega
     ·exact absurd e e3
    ·dsimp only;rw [hB,hdl];congr 1;omega
    ·unfold Y0
     rw [if_pos ⟨rfl,e3⟩]
     dsimp only
     have ep:WB {d with T:=ld m d.Base,PC:=3} (d.B-1#64)=Zb p w (t+(l.length-1)):=by
      rw [eB]
      have:=zf2 h (d:={d with T:=ld m d.Base,PC:=3}) hw K.base K.size (i:=t+l.length-1) (by omega)
      rw [this];congr 1;omega
     rw [ep,D.cell (l.length-1) (by omega)]
     have:=List.dropLast_concat_getLast hne
     rw [List.getLast_eq_getElem] at this
     rw [this]
 rw [if_neg p2]
 by_cases p3:d.PC=3
 ·rw [if_pos p3]
  by_cases e3:d.T=d.B-1#64
  ·rw [if_pos e3]
   have hB:=K.b (.inr (.inr (.inr ⟨p3,e3⟩)))
   have hc':=K.c3 p3 e3
   have eB:d.B-1#64=BitVec.ofNat 64 (t+l.length-1):=by rw [hB,one,zgo (by omega) (by omega)]
   refine ⟨t,l,c,D,fun _ _ _=>rfl,Dv.refl _ _,Nat.le_refl _,.inl ⟨K.out,⟨k,K.base,K.size,K.out,⟨by dsimp only;omega,by dsimp only;omega⟩,fun e=>by dsimp only at e;omega,fun _=>hc',fun _=>hB,fun e=>by dsimp only at e;omega,fun e=>by dsimp only at e;omega,fun _=>K.t3 (.inl p3),fun _=>e3,fun _ e=> ?_,fun e=>by dsimp only at e;omega⟩,?_⟩⟩
   ·have e:d.T.toNat=t:=e
    rw [e3,eB,u0 (by omega)] at e
    have h1:l.length=1:=by omega
    have:=D.cell 0 (by omega)
    dsimp only
    rw [eB,zf2 h hw K.base K.size (by omega),show t+l.length-1=t+0 by omega,this]
    match l,h1 with
    | [a],_=>rfl
   ·rw [vi (.inl (by dsimp only;omega)) (by dsimp only;omega),vi (.inr e3) (by omega)]
  ·rw [if_neg e3]
   obtain ⟨a1,a2,a3,a4⟩:=K.n3 p3 e3
   refine ⟨t,l,c,D,fun _ _ _=>rfl,Dv.refl _ _,Nat.le_refl _,.inr (.inl ⟨rfl,a1,?_⟩)⟩
   unfold Y0
   rw [if_pos ⟨p3,e3⟩]
 rw [if_neg p3]
 by_cases p4:d.PC=4
 ·rw [if_pos p4]
  have hB:=K.b (.inr (.inr (.inl (by omega))))
  have hc':=K.c1 (.inr (by omega))
  have e3:=K.t4 p4
  have ht:=K.t3 (.inr p4)
  have eB:d.B-1#64=BitVec.ofNat 64 (t+l.length-1):=by rw [hB,one,zgo (by omega) (by omega)]
  have eT:d.T.toNat=t+l.length-1:=by rw [e3,eB,u0 (by omega)]
  rw [vi (d:=d) (.inl (by omega)) (by omega),List.append_nil]
  by_cases hs:ld m d.Base=d.T
  ·have hsw:sw m d.Base d.T (d.T+1#64)=(st m d.Base (d.T+1#64),true):=by unfold sw;rw [if_pos ⟨by rw [K.base];omega,by rw [K.base];omega,hs⟩]
   have et:d.T.toNat=t:=by rw [←hs,K.base,D.top,u0 (by omega)]
   have el:=K.x4 p4 et
   rw [hsw]
   have eT':d.T=BitVec.ofNat 64 t:=by rw [←hs,K.base,D.top]
   have hl1:l.length=1:=by rw [el];rfl
   refine ⟨t+1,[],1,⟨?_,?_,by omega,by omega,by simp,by simp;omega,fun i hi=>by simp at hi⟩,fun a h1 _=> ?_,⟨by omega,fun e=>by omega⟩,by simp;omega,.inl ⟨K.out,⟨k,K.base,K.size,K.out,⟨by dsimp only;simp,by dsimp only;simp⟩,fun e=>by simp at e,fun _=>rfl,fun _=> ?_,fun e=>by simp at e,fun e=>by simp at e,fun e=>by simp at e,fun e=>by simp at e,fun e=>by simp at e,fun _=>rfl⟩,?_⟩⟩
   ·dsimp only
    rw [K.base,Xd,if_pos ⟨rfl,by omega,by omega⟩,eT']
    exact zjF (by omega)
   ·dsimp only
    rw [K.base,yq (by omega),D.bot,hc',hl1];rfl
   ·dsimp only
    rw [K.base,yq (fun e=>h1 e.symm)]
   ·dsimp only;rw [hB,hl1];rfl
   ·unfold Y0
    rw [if_neg (fun e=>by simp at e),if_pos (by simp)]
    rw [el];exact List.Perm.refl _
  ·have hsw:sw m d.Base d.T (d.T+1#64)=(m,false):=by unfold sw;rw [if_neg (fun e=>hs e.2.2)]
   rw [hsw]
   have hne:d.T.toNat≠t:=fun e=>hs (by rw [K.base,D.top];apply BitVec.eq_of_toNat_eq;rw [u0 (by omega)];exact e.symm)
   have el:l=[]:=by cases l with | nil=>rfl | cons a l=>rw [List.length_cons] at eT;omega
   refine ⟨t,l,c,D,fun _ _ _=>rfl,Dv.refl _ _,Nat.le_refl _,.inl ⟨K.out,⟨k,K.base,K.size,K.out,⟨by dsimp only;simp,by dsimp only;simp⟩,fun e=>by simp at e,fun _=>hc',fun _=>hB,fun e=>by simp at e,fun e=>by simp at e,fun e=>by simp at e,fun e=>by simp at e,fun e=>by simp at e,fun _=>el⟩,?_⟩⟩
   rw [vi (.inl (by simp)) (by simp),List.append_nil]
 rw [if_neg p4]
 have hB:=K.b (.inr (.inr (.inl (by omega))))
 have el:=K.e5 (by omega)
 obtain ⟨D',hm⟩:=stb 0 d.B (by omega) (by rw [hB];rfl)
 by_cases p5:d.PC=5
 ·rw [if_pos p5]
  exact ⟨t,l,0,D',hm,Dv.refl _ _,Nat.le_refl _,.inr (.inr ⟨rfl,rfl,el,el,vi (.inl (by omega)) (by omega)⟩)⟩
 ·rw [if_neg p5]
  refine ⟨t,l,0,D',hm,Dv.refl _ _,Nat.le_refl _,.inr (.inl ⟨rfl,rfl,?_⟩)⟩
  unfold Y0
  rw [if_neg (fun e=>p3 e.1),if_pos (show d.PC=6 by omega)]
theorem PK.stolen {p:zb} {m m':List (BitVec 64)} (h:zE p) {w:Int} (hw:1≤w∧w≤p.Workers) {t c:Nat} {x:Int} {l:List Int} {d:zg} (K:PK p m w t (x::l) c d):PK p m' w (t+1) l c d:=by
 have e:t+(x::l).length=t+1+l.length:=by rw [List.length_cons];omega
 refine ⟨K.kind,K.base,K.size,K.out,K.pc,K.c0,K.c1,fun q=>by rw [←e];exact K.b q,K.c3,fun a b=> ?_,fun a=>Nat.le_succ_of_le (K.t3 a),K.t4,fun a b=> ?_,fun a=> ?_⟩
 ·have:=K.n3 a b
  rw [e] at this
  rw [List.length_cons] at this
  exact ⟨this.1,this.2.1,this.2.2.1,by omega⟩
 ·have:=K.t3 (.inr a);omega
 ·have:=K.e5 a;cases this
theorem DK.stolen {p:zb} {m m':List (BitVec 64)} {w:Int} {t c:Nat} {x:Int} {l:List Int} {d:zg} (K:DK p m w t (x::l) c d) (hm: ∀a,a≠zS p w→ld m' a=ld m a) (h:zE p):DK p m' w (t+1) l c d:=by
 have e:t+(x::l).length=t+1+l.length:=by rw [List.length_cons];omega
 refine ⟨K.kind,K.base,K.size,K.out,K.c0,K.pc,fun q=>by rw [←e];exact K.b q,fun q=>by have:=K.r q;rw [List.length_cons] at this;omega,fun q=> ?_⟩
 rw [←e,hm _ (by unfold Zb;omega)]
 exact K.x q
theorem PK.keep {p:zb} {m m':List (BitVec 64)} {w:Int} {t c:Nat} {l:List Int} {d:zg} (K:PK p m w t l c d):PK p m' w t l c d :=
 ⟨K.kind,K.base,K.size,K.out,K.pc,K.c0,K.c1,K.b,K.c3,K.n3,K.t3,K.t4,K.x4,K.e5⟩
theorem DK.keep {p:zb} (h:zE p) {m m':List (BitVec 64)} {w:Int} {t c:Nat} {l:List Int} {d:zg} (K:DK p m w t l c d) (hm: ∀a,zS p w+1<a→a<zS p w+p.Cap+2→ld m' a=ld m a):DK p m' w t l c d:=by
 have hc:=h.cap
 have:=Nat.mod_lt (t+l.length) (show 0<p.Cap.toNat by omega)
 exact ⟨K.kind,K.base,K.size,K.out,K.c0,K.pc,K.b,K.r,fun q=>by rw [hm _ (by unfold Zb;omega) (by unfold Zb;omega)];exact K.x q⟩
theorem zo7 {p:zb} (h:zE p) {m:List (BitVec 64)} {w:Int} {t c:Nat} {l:List Int} {d:zg} (hw:1≤w∧w≤p.Workers) (hlen:zZ p≤m.length) (D:DQ p m w t l c) (K:DK p m w t l c d) (hs:t+l.length+1<4294967296) (hX: -9223372036854775808≤d.X∧d.X<9223372036854775808) :
  (∀a,(a<zS p w∨zS p w+p.Cap+2≤a)→ld (yG m d).1 a=ld m a)∧(yG m d).2.X=d.X ∧
  (((yG m d).2.Out=0∧DQ p (yG m d).1 w t l 0∧DK p (yG m d).1 w t l 0 (yG m d).2) ∨
   ((yG m d).2.Out=3∧DQ p (yG m d).1 w t l 0) ∨
   ((yG m d).2.Out=1∧DQ p (yG m d).1 w t (l++[d.X]) 0)):=by
 have hc:=h.cap
 have hd:=Z1 h hw.1 hw.2
 have hf:=uI h
 have hmod: ∀i,zS p w+2≤Zb p w i∧Zb p w i<zS p w+p.Cap+2:=fun i=>by
  have:=Nat.mod_lt i (show 0<p.Cap.toNat by omega)
  unfold Zb;omega
 have hpc:=K.pc
 have c00:=K.c0
 subst c00
 have ht1:=D.t1
 have hsm:=D.small
 have eb:wc (d.Base+1)=zS p w+1:=by rw [K.base,xm (by omega) (by omega)]
 unfold yG
 rw [if_neg (by have:=K.out;omega),eb]
 by_cases c0:d.PC=0
 ·rw [if_pos c0]
  exact ⟨fun _ _=>rfl,rfl,.inl ⟨K.out,D,⟨K.kind,K.base,K.size,K.out,rfl,⟨by dsimp only;omega,by dsimp only;omega⟩,fun _=>D.bot,fun e=>by dsimp only at e;omega,fun e=>by dsimp only at e;omega⟩⟩⟩
 rw [if_neg c0]
 by_cases c1:d.PC=1
 ·rw [if_pos c1]
  refine ⟨fun _ _=>rfl,by dsimp only;split<;>rfl,?_⟩
  have hB:=K.b (by omega)
  have es:(Wg d).toNat=p.Cap.toNat:=by
   unfold Wg
   rw [K.size,if_neg (by omega),BitVec.toNat_ofInt]
   omega
  have ed:(d.B-ld m d.Base).toNat=l.length:=by
   rw [hB,K.base,D.top,BitVec.toNat_sub,u0 (by omega),u0 (by omega)]
   omega
  split
  ·right;left
   exact ⟨rfl,D⟩
  ·rename_i hlt
   left
   have hr:l.length<p.Cap.toNat:=by
    have: ¬(Wg d).toNat≤(d.B-ld m d.Base).toNat:=fun e=>hlt (BitVec.le_def.2 e)
    omega
   exact ⟨K.out,D,⟨K.kind,K.base,K.size,K.out,rfl,⟨by dsimp only;omega,by dsimp only;omega⟩,fun _=>hB,fun _=>hr,fun e=>by dsimp only at e;omega⟩⟩
 rw [if_neg c1]
 have hB:=K.b (by omega)
 have hr:=K.r (by omega)
 by_cases c2:d.PC=2
 ·rw [if_pos c2]
  have ep:WB d d.B=Zb p w (t+l.length):=by rw [hB];exact zf2 h hw K.base K.size (by omega)
  rw [ep]
  have hm:=hmod (t+l.length)
  refine ⟨fun a ha=>yq (by omega),rfl,.inl ⟨K.out,⟨?_,?_,D.c1,ht1,D.cap,D.small,fun i hi=> ?_⟩,⟨K.kind,K.base,K.size,K.out,rfl,⟨by dsimp only;omega,by dsimp only;omega⟩,fun _=>hB,fun _=>hr,fun _=> ?_⟩⟩⟩
  ·dsimp only;rw [yq (by omega)];exact D.top
  ·dsimp only;rw [yq (by omega)];exact D.bot
  ·dsimp only
   rw [yq (fun e=>zv9 (t:=t) (i:=t+i) (n:=t+l.length) (c:=p.Cap.toNat) (by omega) (by omega) (by omega) (by unfold Zb at e;omega))]
   exact D.cell i hi
  ·dsimp only
   rw [Xd,if_pos ⟨rfl,by omega,by omega⟩,BitVec.toInt_ofInt,Int.bmod_def]
   omega
 ·rw [if_neg c2]
  have hx:=K.x (by omega)
  refine ⟨fun a ha=>yq (by omega),rfl,.inr (.inr ⟨rfl,⟨?_,?_,by omega,ht1,?_,?_,fun i hi=> ?_⟩⟩)⟩
  ·dsimp only;rw [yq (by omega)];exact D.top
  ·dsimp only
   rw [Xd,if_pos ⟨rfl,by omega,by omega⟩,hB,List.length_append]
   exact zjF (by omega)
  ·rw [List.length_append];show l.length+1≤_;omega
  ·rw [List.length_append];show t+(l.length+1)<_;omega
  ·dsimp only
   have hi':i<l.length+1:=by rw [List.length_append] at hi;exact hi
   have hm:=hmod (t+i)
   rw [yq (by omega)]
   rcases Nat.lt_or_ge i l.length with g | g
   ·rw [List.getElem_append_left g];exact D.cell i g
   ·have:i=l.length:=by omega
    subst this
    rw [List.getElem_append_right (by omega)]
    simp only [Nat.sub_self,List.getElem_cons_zero]
    exact hx
end
end Go.Pe.G
namespace Go.Pe.G
open Go.Pe
noncomputable section
def xd (h:BitVec 64):Nat:=h.toNat/4294967296
theorem zm2 (v:BitVec 64) {n:Int} (h:0≤n) (h2:n<4294967296):(yV v n).toNat=(v.toNat%4294967296)*4294967296+n.toNat:=by
 unfold yV
 have e3:(BitVec.ofInt 64 n).toNat&&&(4294967295#64).toNat=n.toNat:=by
  have:(BitVec.ofInt 64 n).toNat=n.toNat:=by rw [BitVec.toNat_ofInt];omega
  rw [this]
  exact (Nat.and_two_pow_sub_one_eq_mod n.toNat 32).trans (Nat.mod_eq_of_lt (by omega))
 rw [BitVec.toNat_or,BitVec.toNat_and,e3,BitVec.toNat_shiftLeft]
 have h2':v.toNat <<< 32%2 ^ 64=(v.toNat%4294967296) <<< 32:=by rw [Nat.shiftLeft_eq,Nat.shiftLeft_eq];omega
 rw [h2',←Nat.shiftLeft_add_eq_or_of_lt (show n.toNat<2 ^ 32 by omega),Nat.shiftLeft_eq]
theorem zqE (h:BitVec 64) {n:Int} (h1:0≤n) (h2:n<4294967296) (hv:xd h+1<4294967296):xd (yV ((h >>> 32)+1#64) n)=xd h+1:=by
 have e:((h >>> 32)+1#64).toNat=xd h+1:=by
  rw [BitVec.toNat_add,BitVec.toNat_ushiftRight,Nat.shiftRight_eq_div_pow]
  show (h.toNat/4294967296+1)%2 ^ 64=_
  unfold xd at hv ⊢
  omega
 unfold xd
 rw [zm2 _ h1 h2,e]
 unfold xd at hv ⊢
 omega
def Chn (m:List (BitVec 64)) (N:Int) (nb:Nat):Int→List Int→Prop
 | h,[]=>h=0
 | h,x::l=>h=x∧1≤x∧x<nb∧Chn m N nb (ld m (N+x)).toInt l
theorem Chn.mem {m:List (BitVec 64)} {N:Int} {nb:Nat}: ∀ {l:List Int} {h:Int},Chn m N nb h l→∀x∈l,1≤x∧x<nb
 | y::l,h,c,x,hx=>by
  rcases List.mem_cons.1 hx with rfl | hx
  ·exact ⟨c.2.1,c.2.2.1⟩
  ·exact Chn.mem c.2.2.2 x hx
theorem Chn.st {m:List (BitVec 64)} {N:Int} {nb:Nat} {a:Int} {v:BitVec 64}: ∀ {l:List Int} {h:Int},Chn m N nb h l→(∀x∈l,a≠N+x)→Chn (st m a v) N nb h l
 | [],h,c,_=>c
 | y::l,h,c,hn=>⟨c.1,c.2.1,c.2.2.1,by
  rw [yq (hn y (by simp))]
  exact Chn.st c.2.2.2 (fun x hx=>hn x (List.mem_cons_of_mem _ hx))⟩
theorem Chn.head {m:List (BitVec 64)} {N:Int} {nb:Nat} {l:List Int} {h:Int} (c:Chn m N nb h l) (hh:h≠0): ∃t,l=h::t∧1≤h∧h<nb∧Chn m N nb (ld m (N+h)).toInt t:=by
 cases l with
 | nil=>exact absurd c hh
 | cons x t =>
  obtain ⟨rfl,h1,h2,h3⟩:=c
  exact ⟨t,rfl,h1,h2,h3⟩
theorem Chn.empty {m:List (BitVec 64)} {N:Int} {nb:Nat} {l:List Int} (c:Chn m N nb 0 l):l=[]:=by
 cases l with
 | nil=>rfl
 | cons x t=>have:=c.1;have:=c.2.1;omega
def ziB (nb:Nat):List Int:=(List.range (nb-1)).map (fun (i:Nat)=>(i:Int)+1)
theorem zkU (nb:Nat):(ziB nb).Nodup:=by
 unfold ziB
 rw [List.Nodup,List.pairwise_map]
 exact List.nodup_range.imp (fun h e=>h (by omega))
theorem zos {nb:Nat} {x:Int}:x∈ziB nb↔1≤x∧x<nb:=by
 unfold ziB
 rw [List.mem_map]
 constructor
 ·rintro ⟨i,hi,rfl⟩
  have:=List.mem_range.1 hi
  omega
 ·rintro ⟨h1,h2⟩
  exact ⟨(x-1).toNat,List.mem_range.2 (by omega),by omega⟩
structure LI (p:zb) (nb:Nat) (m:List (BitVec 64)) (h1 h2:Int) (F E own:List Int):Prop where
 hs:(h1=zZ p∧h2=zD p)∨(h1=zD p∧h2=zZ p)
 cF:Chn m (zD p) nb (yr (ld m h1)) F
 cE:Chn m (zD p) nb (yr (ld m h2)) E
 all:List.Perm (F++E++own) (ziB nb)
 len:zD p+nb≤m.length
theorem LI.nodup {p:zb} {nb:Nat} {m:List (BitVec 64)} {h1 h2:Int} {F E own:List Int} (h:LI p nb m h1 h2 F E own):(F++E++own).Nodup:=h.all.nodup_iff.2 (zkU nb)
theorem LI.notF {p:zb} {nb:Nat} {m:List (BitVec 64)} {h1 h2:Int} {F E own:List Int} (h:LI p nb m h1 h2 F E own) {x:Int} (hx:x∈own):x∉F∧x∉E:=by
 have:=List.nodup_append.1 h.nodup
 exact ⟨fun e=>this.2.2 x (List.mem_append_left _ e) x hx rfl,fun e=>this.2.2 x (List.mem_append_right _ e) x hx rfl⟩
theorem LI.own_in {p:zb} {nb:Nat} {m:List (BitVec 64)} {h1 h2:Int} {F E own:List Int} (h:LI p nb m h1 h2 F E own) {x:Int} (hx:x∈own):1≤x∧x<nb:=zos.1 (h.all.subset (List.mem_append_right _ hx))
structure CK (p:zb) (m:List (BitVec 64)) (c:zw):Prop where
 v:1≤c.PC→xd c.H≤xd (ld m c.Head)
 y:c.PC=2→c.Kind=2→ld m c.Head=c.H→c.Y=(ld m (zD p+yr c.H)).toInt
 l:c.PC=2→c.Kind=1→ld m (zD p+c.X)=BitVec.ofInt 64 (yr c.H)
structure Mv (p:zb) (nb:Nat) (X:List Int) (m m':List (BitVec 64)):Prop where
 hd: ∀h,h=zZ p∨h=zD p→xd (ld m h)≤xd (ld m' h)∧(ld m' h=ld m h∨xd (ld m h)<xd (ld m' h))
 nx: ∀x:Int,1≤x→x<nb→x∉X→ld m' (zD p+x)=ld m (zD p+x)
theorem Mv.refl (p:zb) (nb:Nat) (X:List Int) (m:List (BitVec 64)):Mv p nb X m m:=⟨fun h _=>⟨Nat.le_refl _,.inl rfl⟩,fun _ _ _ _=>rfl⟩
theorem CK.mv {p:zb} {nb:Nat} {m m':List (BitVec 64)} {h1 h2:Int} {F E own X:List Int} {c:zw} (k:CK p m c) (L:LI p nb m h1 h2 F E own) (M:Mv p nb X m m') (hX: ∀x∈X,x∈own)
  (hh:c.Head=h1∨c.Head=h2) (hn:1≤c.PC→c.Kind=2→1≤yr c.H∧yr c.H<nb) (hx:c.Kind=1→1≤c.X∧c.X<nb∧c.X∉X):CK p m' c:=by
 obtain ⟨m1,m2⟩:=M.hd c.Head (by rcases L.hs with g | g<;>rcases hh with hh | hh<;>rw [hh]<;>simp [g])
 refine ⟨fun h=>Nat.le_trans (k.v h) m1,fun h2 hk e=> ?_,fun h2 hk=> ?_⟩
 ·have hv:=k.v (by omega)
  have e':ld m c.Head=c.H:=by
   rcases m2 with m2 | m2
   ·rw [←m2];exact e
   ·rw [e] at m2;omega
  obtain ⟨n1,n2⟩:=hn (by omega) hk
  rw [M.nx _ n1 n2 (fun hmem=> ?_)]
  ·exact k.y h2 hk e'
  ·obtain ⟨f1,f2⟩:=L.notF (hX _ hmem)
   rcases hh with hh | hh
   ·obtain ⟨t,ht,_⟩:=L.cF.head (by rw [←hh,e'];omega)
    rw [←hh,e'] at ht
    exact f1 (by rw [ht];simp)
   ·obtain ⟨t,ht,_⟩:=L.cE.head (by rw [←hh,e'];omega)
    rw [←hh,e'] at ht
    exact f2 (by rw [ht];simp)
 ·obtain ⟨x1,x2,x3⟩:=hx hk
  rw [M.nx _ x1 x2 x3]
  exact k.l h2 hk
theorem LI.swap {p:zb} {nb:Nat} {m:List (BitVec 64)} {h1 h2:Int} {F E own:List Int} (h:LI p nb m h1 h2 F E own):LI p nb m h2 h1 E F own :=
 ⟨h.hs.elim (fun g=> .inr ⟨g.2,g.1⟩) (fun g=> .inl ⟨g.2,g.1⟩),h.cE,h.cF,(List.perm_append_comm.append_right own).trans h.all,h.len⟩
theorem zjl {p:zb} (hp:zE p) {m:List (BitVec 64)} {a x:Int} {v:BitVec 64} (ha:a=zZ p∨a=zD p) (hx:1≤x):ld (st m a v) (zD p+x)=ld m (zD p+x):=by
 have:=xW hp
 exact yq (by omega)
theorem Chn.st_head {p:zb} (hp:zE p) {m:List (BitVec 64)} {nb:Nat} {a h:Int} {l:List Int} {v:BitVec 64} (ha:a=zZ p∨a=zD p) (c:Chn m (zD p) nb h l):Chn (Go.Pe.G.st m a v) (zD p) nb h l:=by
 have:=xW hp
 exact c.st (fun x hx=>by have:=(c.mem x hx).1;omega)
theorem Mv.head {p:zb} (hp:zE p) {nb:Nat} {X:List Int} {m:List (BitVec 64)} {a:Int} {v:BitVec 64} (ha:a=zZ p∨a=zD p) (hv:xd (ld m a)<xd v):Mv p nb X m (st m a v):=by
 refine ⟨fun h hh=> ?_,fun x hx _ _=>zjl hp ha hx⟩
 by_cases e:a=h
 ·subst e
  rw [Xd]
  split
  ·exact ⟨by omega,.inr hv⟩
  ·exact ⟨Nat.le_refl _,.inl rfl⟩
 ·rw [yq e];exact ⟨Nat.le_refl _,.inl rfl⟩
theorem zqV {p:zb} (hp:zE p) {nb:Nat} (hnb:nb<1000) {m:List (BitVec 64)} {h1 h2:Int} {F E own:List Int} (L:LI p nb m h1 h2 F E own) {c:zw}
  (hk:c.Kind=2) (hh:c.Head=h1) (hN:c.Next=zD p) (ho:c.Out=0) (hpc:0≤c.PC∧c.PC≤2) (K:CK p m c) (hn:1≤c.PC→1≤yr c.H∧yr c.H<nb) (hv:xd (ld m h1)+1<4294967296) :
  ((zk m c).1=m∧(zk m c).2.Out≠1∧((zk m c).2.Out=2→F=[])∧CK p m (zk m c).2) ∨
  (∃x F',F=x::F'∧(zk m c).2.Out=1∧(zk m c).2.X=x∧LI p nb (zk m c).1 h1 h2 F' E (x::own)∧Mv p nb [] m (zk m c).1∧xd (ld (zk m c).1 h1)=xd (ld m h1)+1∧ld (zk m c).1 h2=ld m h2):=by
 have hE:=xW hp
 have hF:=uI hp
 have hd:h1=zZ p∨h1=zD p:=by rcases L.hs with g | g<;>simp [g]
 unfold zk
 rw [if_neg (by omega)]
 by_cases c0:c.PC=0
 ·rw [if_pos c0]
  left
  split
  ·rename_i e
   refine ⟨rfl,(by show (2:Int)≠1;decide),fun _=> ?_,⟨fun _=>by rw [hh];exact Nat.le_refl _,fun e2=>(by cases e2),fun e2=>(by cases e2)⟩⟩
   have:=L.cF
   rw [hh] at e
   rw [e.2] at this
   exact this.empty
  ·refine ⟨rfl,by dsimp only;omega,fun e=>by dsimp only at e;omega,⟨fun _=>by rw [hh];exact Nat.le_refl _,fun e2=>(by cases e2),fun e2=>(by cases e2)⟩⟩
 ·rw [if_neg c0]
  by_cases c1:c.PC=1
  ·rw [if_pos c1,if_pos hk]
   left
   refine ⟨rfl,by dsimp only;omega,fun e=>by dsimp only at e;omega,⟨fun _=>K.v (by omega),fun _ _ _=> ?_,fun _ e=>by dsimp only at e;omega⟩⟩
   have:=hn (by omega)
   dsimp only
   rw [hN,xm (by omega) (by omega)]
  ·rw [if_neg c1]
   have c2:c.PC=2:=by omega
   simp only [if_pos hk]
   by_cases hs:0≤c.Head∧c.Head<m.length∧ld m c.Head=c.H
   ·right
    have n:=hn (by omega)
    have hsw:sw m c.Head c.H (yV (c.H >>> 32+1#64) c.Y)=(st m c.Head (yV (c.H >>> 32+1#64) c.Y),true):=by unfold sw;rw [if_pos hs]
    rw [hsw]
    have hc:=L.cF
    rw [←hh,hs.2.2] at hc
    obtain ⟨t,ht,_,_,hct⟩:=hc.head (by omega)
    have hy:=K.y c2 hk hs.2.2
    have hct':=hct
    rw [←hy] at hct'
    have y0:0≤c.Y∧c.Y<nb:=by
     cases t with
     | nil=>have e:c.Y=0:=hct';omega
     | cons z t=>have:=hct'.1;have:=hct'.2.1;have:=hct'.2.2.1;omega
    have vp:xd (yV (c.H >>> 32+1#64) c.Y)=xd c.H+1:=zqE c.H y0.1 (by omega) (by rw [←hs.2.2,hh];exact hv)
    have hcH:xd c.H=xd (ld m h1):=by rw [←hs.2.2,hh]
    have ld1:ld (st m h1 (yV (c.H >>> 32+1#64) c.Y)) h1=yV (c.H >>> 32+1#64) c.Y:=by rw [Xd,if_pos ⟨rfl,by rw [←hh];exact hs.1,by rw [←hh];exact hs.2.1⟩]
    have h12:h1≠h2:=by rcases L.hs with g | g<;>omega
    refine ⟨yr c.H,t,ht,rfl,rfl,?_,?_,?_,?_⟩
    ·rw [hh]
     refine ⟨L.hs,?_,?_,?_,by rw [u6];exact L.len⟩
     ·rw [ld1,zaI _ y0.1 (by omega)]
      exact hct'.st_head hp hd
     ·rw [yq h12]
      exact L.cE.st_head hp hd
     ·refine List.Perm.trans ?_ L.all
      rw [ht]
      show List.Perm (t++E++yr c.H::own) (yr c.H::(t++E++own))
      exact List.perm_middle
    ·rw [hh]
     exact Mv.head hp hd (by rw [vp,hcH];omega)
    ·rw [hh,ld1,vp,hcH]
    ·rw [hh,yq h12]
   ·left
    have hsw:sw m c.Head c.H (yV (c.H >>> 32+1#64) c.Y)=(m,false):=by unfold sw;rw [if_neg hs]
    rw [hsw]
    refine ⟨rfl,by dsimp only;simp;omega,fun e=>by simp at e;omega,⟨fun e=>by simp at e,fun e=>by simp at e,fun e=>by simp at e⟩⟩
theorem zq5 {n:Int} (h:0≤n) (h2:n<4294967296):(BitVec.ofInt 64 n).toInt=n:=toInt_ofInt h h2
theorem zhN {N a b:Int} (h:N+a=N+b):b=a:=by omega
theorem zoo {p:zb} (hp:zE p) {nb:Nat} (hnb:nb<1000) {m:List (BitVec 64)} {h1 h2 b:Int} {F E o1 o2:List Int} (L:LI p nb m h1 h2 F E (o1++b::o2)) {c:zw}
  (hk:c.Kind=1) (hh:c.Head=h1) (hN:c.Next=zD p) (hX:c.X=b) (ho:c.Out=0) (hpc:0≤c.PC∧c.PC≤2) (K:CK p m c) (hn:1≤c.PC→yr c.H<nb) (hv:xd (ld m h1)+1<4294967296) :
  ((zk m c).2.Out=0∧LI p nb (zk m c).1 h1 h2 F E (o1++b::o2)∧Mv p nb [b] m (zk m c).1∧CK p (zk m c).1 (zk m c).2∧(∀a,a≤zD p→ld (zk m c).1 a=ld m a)) ∨
  ((zk m c).2.Out=1∧LI p nb (zk m c).1 h1 h2 (b::F) E (o1++o2)∧Mv p nb [] m (zk m c).1∧xd (ld (zk m c).1 h1)=xd (ld m h1)+1∧(∀a,a≤zD p→a≠h1→ld (zk m c).1 a=ld m a)):=by
 have hE:=xW hp
 have hF:=uI hp
 have hd:h1=zZ p∨h1=zD p:=by rcases L.hs with g | g<;>simp [g]
 have hd2:h2=zZ p∨h2=zD p:=by rcases L.hs with g | g<;>simp [g]
 have hb:1≤b∧b<nb:=L.own_in (List.mem_append_right _ (by simp))
 have hbn:=L.notF (x:=b) (List.mem_append_right _ (by simp))
 have hlen:=L.len
 have hk2: ¬c.Kind=2:=by omega
 unfold zk
 rw [if_neg (by omega)]
 by_cases c0:c.PC=0
 ·rw [if_pos c0,if_neg (fun e=>hk2 e.1)]
  left
  exact ⟨ho,L,Mv.refl _ _ _ _,⟨fun _=>by rw [hh];exact Nat.le_refl _,fun e2=>(by cases e2),fun e2=>(by cases e2)⟩,fun _ _=>rfl⟩
 ·rw [if_neg c0]
  by_cases c1:c.PC=1
  ·rw [if_pos c1,if_neg hk2]
   left
   have nn:=zga c.H
   have ea:wc (c.Next+c.X)=zD p+b:=by rw [hN,hX,xm (by omega) (by omega)]
   rw [ea]
   have hne: ∀h,h=zZ p∨h=zD p→ld (st m (zD p+b) (BitVec.ofInt 64 (yr c.H))) h=ld m h:=fun h hh=>yq (by omega)
   refine ⟨ho,⟨L.hs,?_,?_,L.all,by dsimp only;rw [u6];exact hlen⟩,⟨fun h hh=> ?_,fun x x1 x2 x3=> ?_⟩,⟨fun _=> ?_,fun _ e=>absurd e hk2,fun _ _=> ?_⟩,fun a ha=> ?_⟩
   ·dsimp only
    rw [hne _ hd]
    exact L.cF.st (fun x hx e=>hbn.1 (zhN e▸hx))
   ·dsimp only
    rw [hne _ hd2]
    exact L.cE.st (fun x hx e=>hbn.2 (zhN e▸hx))
   ·dsimp only
    rw [hne _ hh];exact ⟨Nat.le_refl _,.inl rfl⟩
   ·dsimp only
    exact yq (fun e=>x3 (List.mem_singleton.2 (zhN e)))
   ·dsimp only
    rw [hh,hne _ hd,←hh];exact K.v (by omega)
   ·dsimp only
    rw [hX,Xd,if_pos ⟨rfl,by omega,by omega⟩]
   ·dsimp only
    exact yq (by omega)
  ·rw [if_neg c1]
   have c2:c.PC=2:=by omega
   simp only [if_neg hk2]
   by_cases hs:0≤c.Head∧c.Head<m.length∧ld m c.Head=c.H
   ·right
    have n:=hn (by omega)
    have nn:=zga c.H
    have hsw:sw m c.Head c.H (yV (c.H >>> 32+1#64) c.X)=(st m c.Head (yV (c.H >>> 32+1#64) c.X),true):=by unfold sw;rw [if_pos hs]
    rw [hsw]
    have hl:=K.l c2 hk
    rw [hX] at hl
    have vp:xd (yV (c.H >>> 32+1#64) c.X)=xd c.H+1:=zqE c.H (by omega) (by omega) (by rw [←hs.2.2,hh];exact hv)
    have hcH:xd c.H=xd (ld m h1):=by rw [←hs.2.2,hh]
    have ld1:ld (st m h1 (yV (c.H >>> 32+1#64) c.X)) h1=yV (c.H >>> 32+1#64) c.X:=by rw [Xd,if_pos ⟨rfl,by rw [←hh];exact hs.1,by rw [←hh];exact hs.2.1⟩]
    have h12:h1≠h2:=by rcases L.hs with g | g<;>omega
    refine ⟨rfl,?_,?_,?_,fun a ha hne=> ?_⟩
    ·rw [hh]
     refine ⟨L.hs,?_,?_,?_,by dsimp only;rw [u6];exact hlen⟩
     ·dsimp only
      rw [ld1,zaI _ (by omega) (by omega),hX]
      refine ⟨rfl,hb.1,hb.2,?_⟩
      rw [zjl hp hd hb.1,hl,zq5 nn.1 nn.2]
      have:=L.cF
      rw [←hh,hs.2.2] at this
      rw [←hX,←hh] at *
      exact this.st_head hp hd
     ·dsimp only
      rw [yq h12]
      exact L.cE.st_head hp hd
     ·refine List.Perm.trans ?_ L.all
      show List.Perm (b::(F++E++(o1++o2))) (F++E++(o1++b::o2))
      rw [←List.append_assoc (F++E) o1 o2,←List.append_assoc (F++E) o1 (b::o2)]
      exact List.perm_middle.symm
    ·rw [hh]
     exact Mv.head hp hd (by rw [vp,hcH];omega)
    ·rw [hh]
     dsimp only
     rw [ld1,vp,hcH]
    ·rw [hh]
     exact yq (fun e=>hne e.symm)
   ·left
    have hsw:sw m c.Head c.H (yV (c.H >>> 32+1#64) c.X)=(m,false):=by unfold sw;rw [if_neg hs]
    rw [hsw]
    exact ⟨ho,L,Mv.refl _ _ _ _,⟨fun e=>(by simp at e),fun e=>(by simp at e),fun e=>(by simp at e)⟩,fun _ _=>rfl⟩
end
end Go.Pe.G
namespace Go.Pe.G
open Go.Pe
noncomputable section
structure Gh where
 F:List Int
 E:List Int
 D:Int→List Int
 t:Int→Nat
 c:Int→Nat
def xj (s:za) (b:Int):List Int:=(s.Bins[b.toNat]?).getD []
def yt (p:zb) (s:za) (g:Gh):List Int:=g.F.flatMap (xj s)++(List.range p.Workers.toNat).flatMap (fun i:Nat=>g.D ((i:Int)+1))
structure SX (p:zb) (nb:Nat) (s:za) (g:Gh) (own:List Int) (k:Nat):Prop where
 S:SOk p nb s
 L:LI p nb s.M (zZ p) (zD p) g.F g.E own
 D: ∀w,1≤w→w≤p.Workers→DQ p s.M w (g.t w) (g.D w) (g.c w)
 v:xd (ld s.M (zZ p))≤k∧xd (ld s.M (zD p))≤k
 dk: ∀w,1≤w→w≤p.Workers→g.t w+(g.D w).length≤k+1000
inductive DFr (p:zb) (m m':List (BitVec 64)) (g g':Gh) (w:Int):Prop
 | same (e1:g'.t w=g.t w) (e2:g'.D w=g.D w) (e3:g'.c w=g.c w) (e4: ∀a,zS p w≤a→a<zS p w+p.Cap+2→ld m' a=ld m a):DFr p m m' g g' w
 | stolen (x:Int) (e1:g'.t w=g.t w+1) (e2:g.D w=x::g'.D w) (e3:g'.c w=g.c w) (e4: ∀a,zS p w<a→a<zS p w+p.Cap+2→ld m' a=ld m a):DFr p m m' g g' w
structure FX (p:zb) (nb:Nat) (X:List Int) (O:Int→Prop) (s s':za) (g g':Gh):Prop where
 mv:Mv p nb X s.M s'.M
 bn: ∀b,1≤b→b∉X→s'.Bins[b.toNat]? =s.Bins[b.toNat]?
 dq: ∀w,1≤w→w≤p.Workers→DFr p s.M s'.M g g' w∨(O w∧Dv (g.t w) (g.D w) (g'.t w) (g'.D w))
 fb: ∀y∈g'.F,y∈g.F∨xj s' y≠[]
theorem DFr.dv {p:zb} {m m':List (BitVec 64)} {g g':Gh} {w:Int} (h:DFr p m m' g g' w):Dv (g.t w) (g.D w) (g'.t w) (g'.D w):=by
 cases h with
 | same t l c m=>rw [t,l];exact Dv.refl _ _
 | stolen x t l c m=>exact ⟨by omega,fun e=>by omega⟩
theorem FX.dv {p:zb} {nb:Nat} {X:List Int} {O:Int→Prop} {s s':za} {g g':Gh} (h:FX p nb X O s s' g g') {w:Int} (h1:1≤w) (h2:w≤p.Workers):Dv (g.t w) (g.D w) (g'.t w) (g'.D w):=by
 rcases h.dq w h1 h2 with h | h
 ·exact h.dv
 ·exact h.2
theorem FX.tk {p:zb} {nb:Nat} {X:List Int} {O:Int→Prop} {s s':za} {g g':Gh} (h:FX p nb X O s s' g g') {w:Int} (h1:1≤w) (h2:w≤p.Workers) {d:zg} (K:TK p s.M w (g.t w) (g.D w) d):TK p s'.M w (g'.t w) (g'.D w) d:=K.dv (h.dv h1 h2)
theorem FX.pk {p:zb} (hp:zE p) {nb:Nat} {X:List Int} {O:Int→Prop} {s s':za} {g g':Gh} (h:FX p nb X O s s' g g') {w:Int} (h1:1≤w) (h2:w≤p.Workers) (ho: ¬O w) {d:zg} (K:PK p s.M w (g.t w) (g.D w) (g.c w) d):PK p s'.M w (g'.t w) (g'.D w) (g'.c w) d:=by
 rcases h.dq w h1 h2 with h | h
 ·cases h with
  | same t l c m=>rw [t,l,c];exact K.keep
  | stolen x t l c m=>rw [l] at K;rw [t,c];exact K.stolen hp ⟨h1,h2⟩
 ·exact absurd h.1 ho
theorem FX.dk {p:zb} (hp:zE p) {nb:Nat} {X:List Int} {O:Int→Prop} {s s':za} {g g':Gh} (h:FX p nb X O s s' g g') {w:Int} (h1:1≤w) (h2:w≤p.Workers) (ho: ¬O w) {d:zg} (K:DK p s.M w (g.t w) (g.D w) (g.c w) d):DK p s'.M w (g'.t w) (g'.D w) (g'.c w) d:=by
 have hc:=hp.cap
 rcases h.dq w h1 h2 with h | h
 ·cases h with
  | same t l c m=>rw [t,l,c];exact K.keep hp (fun a h1 h2=>m a (by omega) h2)
  | stolen x t l c m =>
   rw [l] at K
   have K':DK p s'.M w (g.t w) (x::g'.D w) (g.c w) d:=K.keep hp (fun a h1 h2=>m a (by omega) h2)
   rw [t,c]
   exact K'.stolen (m':=s'.M) (fun _ _=>rfl) hp
 ·exact absurd h.1 ho
def xB (g:zy):List Int:=if g.Out=0∧(g.PC=6∨g.PC=7) then [g.Bin] else []
def yH (g:zy):List Int:=if g.Out=0∧3≤g.PC∧g.PC≤7 then [g.Obj] else []
structure GX (p:zb) (s:za) (gh:Gh) (g:zy):Prop where
 o:g.Out=0∨g.Out=1
 pc:0≤g.PC∧g.PC≤7
 md:1≤g.Mode∧g.Mode≤3
 ob:1≤g.Obj∧g.Obj≤64
 c0:g.Mode=1→g.Out=0→gh.c g.Who=0
 c5:g.PC=5→g.Out=0→g.C.Out=0∧(0≤g.C.PC∧g.C.PC≤2)∧CK p s.M g.C
 c7:g.PC=7→g.Out=0→g.C.Out=0∧(0≤g.C.PC∧g.C.PC≤2)∧g.C.X=g.Bin∧CK p s.M g.C∧s.Bins[g.Bin.toNat]? =some [g.Obj]
 d3:g.PC=3→g.Out=0→g.Mode=1∧g.D.X=g.Obj∧DK p s.M g.Who (gh.t g.Who) (gh.D g.Who) (gh.c g.Who) g.D
theorem GX.other {p:zb} (hp:zE p) {nb k:Nat} {s s':za} {gh gh':Gh} {X R:List Int} {O:Int→Prop} {o:zy} (Y:SX p nb s gh (X++R) k) (Fx:FX p nb X O s s' gh gh') (G:GX p s gh o) (M:MOk p nb o)
  (hR: ∀x∈xB o,x∈R) (apart:o.Mode=1→¬O o.Who):GX p s' gh' o:=by
 have hsub: ∀x∈X,x∈X++R:=fun x hx=>List.mem_append_left _ hx
 have hnd:=(List.nodup_append.1 Y.L.nodup).2.1
 have hnot: ∀x,x∈xB o→x∉X:=fun x hx hg=>(List.nodup_append.1 hnd).2.2 x hg x (hR x hx) rfl
 refine ⟨G.o,G.pc,G.md,G.ob,fun h1 h0=> ?_,fun h5 h0=> ?_,fun h7 h0=> ?_,fun h3 h0=> ?_⟩
 ·have hw:=M.who h1
  rcases Fx.dq o.Who hw.1 hw.2 with h | h
  ·cases h with
   | same t l c m=>rw [c];exact G.c0 h1 h0
   | stolen x t l c m=>rw [c];exact G.c0 h1 h0
  ·exact absurd h.1 (apart h1)
 ·obtain ⟨a,b,c⟩:=G.c5 h5 h0
  obtain ⟨m1,m2,m3,m4,m5⟩:=M.c5 h5
  exact ⟨a,b,c.mv Y.L Fx.mv hsub (.inr m2) (fun h _=>m4 h) (fun e=>by omega)⟩
 ·obtain ⟨a,b,c,d,e⟩:=G.c7 h7 h0
  obtain ⟨m1,m2,m3,m4,m5⟩:=M.c7 h7
  have hown:o.Bin∈xB o:=by unfold xB;rw [if_pos ⟨h0,.inr h7⟩];simp
  have hno:=hnot _ hown
  exact ⟨a,b,c,d.mv Y.L Fx.mv hsub (.inl m2) (fun _ e=>by omega) (fun _=>⟨m4.1,m4.2,by rw [c];exact hno⟩),by rw [Fx.bn o.Bin (by rw [←c];exact m4.1) hno];exact e⟩
 ·obtain ⟨a,b,c⟩:=G.d3 h3 h0
  have hw:=M.who a
  exact ⟨a,b,Fx.dk hp hw.1 hw.2 (apart a) c⟩
theorem XE (m:List (BitVec 64)) {c:zw} (h:c.Out=0) (hpc:0≤c.PC∧c.PC≤2) (hk:c.Kind=1∨c.Kind=2) :
  ((zk m c).2.Out=0∧0≤(zk m c).2.PC∧(zk m c).2.PC≤2)∨(zk m c).2.Out=1∨((zk m c).2.Out=2∧c.Kind=2):=by
 unfold zk
 rw [if_neg (by omega)]
 split
 ·dsimp only
  split
  ·rename_i e;exact .inr (.inr ⟨rfl,e.1⟩)
  ·exact .inl ⟨h,by show (0:Int)≤1;decide,by show (1:Int)≤2;decide⟩
 split
 ·split<;>exact .inl ⟨h,by show (0:Int)≤2;decide,by show (2:Int)≤2;decide⟩
 ·dsimp only
  generalize sw m c.Head c.H _=r
  split
  ·split<;>exact .inr (.inl rfl)
  ·exact .inl ⟨h,by show (0:Int)≤0;decide,by show (0:Int)≤2;decide⟩
theorem zgy (m:List (BitVec 64)) (c:zw):(zk m c).2.Kind=c.Kind∧(zk m c).2.Head=c.Head∧(zk m c).2.Next=c.Next∧(c.Kind=1→(zk m c).2.X=c.X):=by
 unfold zk
 split
 ·exact ⟨rfl,rfl,rfl,fun _=>rfl⟩
 split
 ·dsimp only;split<;>exact ⟨rfl,rfl,rfl,fun _=>rfl⟩
 split
 ·split<;>exact ⟨rfl,rfl,rfl,fun _=>rfl⟩
 ·dsimp only
  generalize sw m c.Head c.H _=r
  split
  ·split
   ·rename_i e;exact ⟨rfl,rfl,rfl,fun e2=>by omega⟩
   ·exact ⟨rfl,rfl,rfl,fun _=>rfl⟩
  ·exact ⟨rfl,rfl,rfl,fun _=>rfl⟩
theorem SX.quiet {p:zb} {nb k:Nat} {s s':za} {g:Gh} {own:List Int} (X:SX p nb s g own k) (S':SOk p nb s') (hm:s'.M=s.M):SX p nb s' g own (k+1) :=
 ⟨S',by rw [hm];exact X.L,by rw [hm];exact X.D,by rw [hm];exact ⟨Nat.le_succ_of_le X.v.1,Nat.le_succ_of_le X.v.2⟩,fun w h1 h2=>by have:=X.dk w h1 h2;omega⟩
theorem FX.quiet {p:zb} {nb:Nat} {X:List Int} {O:Int→Prop} {s s':za} {g:Gh} (hm:s'.M=s.M) (hb: ∀b,1≤b→b∉X→s'.Bins[b.toNat]? =s.Bins[b.toNat]?):FX p nb X O s s' g g :=
 ⟨by rw [hm];exact Mv.refl _ _ _ _,hb,fun _ _ _=> .inl (.same rfl rfl rfl (fun _ _ _=>by rw [hm])),fun _ h=> .inl h⟩
theorem Zm {p:zb} {s s':za} {g:Gh} (hb:s'.Bins=s.Bins):yt p s' g=yt p s g:=by
 unfold yt xj;rw [hb]
theorem wG {g:zy} (h:g.Out≠0∨(g.PC≠6∧g.PC≠7)):xB g=[]:=by unfold xB;rw [if_neg (by omega)]
theorem ze8 {g:zy} (h:g.Out=0) (h2:g.PC=6∨g.PC=7):xB g=[g.Bin]:=by unfold xB;rw [if_pos ⟨h,h2⟩]
theorem uD {g:zy} (h:g.Out≠0∨g.PC<3∨7<g.PC):yH g=[]:=by unfold yH;rw [if_neg (by omega)]
theorem vk {g:zy} (h:g.Out=0) (h2:3≤g.PC) (h3:g.PC≤7):yH g=[g.Obj]:=by unfold yH;rw [if_pos ⟨h,h2,h3⟩]
theorem GX.ask {p:zb} {s:za} {gh:Gh} {g:zy} (o:g.Out=0) (md:1≤g.Mode∧g.Mode≤3) (ob:1≤g.Obj∧g.Obj≤64) (c0:g.Mode=1→gh.c g.Who=0) (q:zb):GX p s gh (zeD q g) :=
 ⟨.inl o,⟨by show (0:Int)≤5;decide,by show (5:Int)≤7;decide⟩,md,ob,fun h _=>c0 h,
  fun _ _=>⟨rfl,⟨by show (0:Int)≤0;decide,by show (0:Int)≤2;decide⟩,⟨fun e=>absurd e (by show ¬(1:Int)≤0;decide),fun e=>absurd e (by show ¬(0:Int)=2;decide),fun e=>absurd e (by show ¬(0:Int)=2;decide)⟩⟩,
  fun e=>absurd e (by show ¬(5:Int)=7;decide),fun e=>absurd e (by show ¬(5:Int)=3;decide)⟩
theorem GX.plain {p:zb} {s:za} {gh:Gh} {g:zy} (o:g.Out=0∨g.Out=1) (pc:0≤g.PC∧g.PC≤7) (md:1≤g.Mode∧g.Mode≤3) (ob:1≤g.Obj∧g.Obj≤64) (c0:g.Mode=1→g.Out=0→gh.c g.Who=0) (h:g.Out≠0∨(g.PC≠3∧g.PC≠5∧g.PC≠7)):GX p s gh g :=
 ⟨o,pc,md,ob,c0,fun e e2=>by omega,fun e e2=>by omega,fun e e2=>by omega⟩
def zps (g:zy) (w:Int):Prop:=g.Mode=1∧w=g.Who
def zkj (p:zb) (nb k:Nat) (R:List Int) (gh:Gh) (s:za) (g:zy) (s':za) (g':zy):Prop :=
 ∃gh',SX p nb s' gh' (xB g'++R) (k+1)∧GX p s' gh' g'∧FX p nb (xB g) (zps g) s s' gh gh'∧(g.Mode=1→g.Out=0→gh'.c g.Who=0)∧(∀b∈gh'.F,b∈gh.F∨xj s' b≠[]) ∧
  ∃N,List.Perm (yt p s' gh'++yH g') (N++(yt p s gh++yH g)) ∧
   ((N=[]∧s'.T=s.T)∨(N=[g.Obj]∧¬(s.T.Marks|||bit g.Obj=s.T.Marks)∧s'.T={s.T with Marks:=s.T.Marks|||bit g.Obj}))
theorem zkj.quiet {p:zb} {nb k:Nat} {R:List Int} {gh:Gh} {s s':za} {g g':zy} (X:SX p nb s gh (xB g++R) k) (S':SOk p nb s') (hm:s'.M=s.M) (hb:s'.Bins=s.Bins) (hT:s'.T=s.T)
  (ho:xB g'=xB g) (hh:yH g'=yH g) (c0:g.Mode=1→g.Out=0→gh.c g.Who=0) (G':GX p s' gh g'):zkj p nb k R gh s g s' g' :=
 ⟨gh,by rw [ho];exact X.quiet S' hm,G',FX.quiet hm (fun _ _ _=>by rw [hb]),c0,fun _ h=> .inl h,[],by rw [Zm hb,hh];exact List.Perm.refl _,.inl ⟨rfl,hT⟩⟩
theorem zj3 (m:List (BitVec 64)) {c:zw} (hk:c.Kind=2) {a:Int} (ha:a≠c.Head):ld (zk m c).1 a=ld m a:=by
 unfold zk
 split
 ·rfl
 split
 ·rfl
 split
 ·rfl
 ·dsimp only
  unfold sw
  split
  ·exact yq (fun e=>ha e.symm)
  ·rfl
theorem Chn.congr {m m':List (BitVec 64)} {N:Int} {nb:Nat} (hm: ∀x:Int,1≤x→ld m' (N+x)=ld m (N+x)): ∀ {l:List Int} {h:Int},Chn m N nb h l→Chn m' N nb h l
 | [],h,c=>c
 | y::l,h,c=>⟨c.1,c.2.1,c.2.2.1,by rw [hm y c.2.1];exact Chn.congr hm c.2.2.2⟩
theorem LI.low {p:zb} (hp:zE p) {nb:Nat} {m m':List (BitVec 64)} {h1 h2:Int} {F E own:List Int} (L:LI p nb m h1 h2 F E own) (hl:m'.length=m.length) (hm: ∀a,zZ p≤a→ld m' a=ld m a):LI p nb m' h1 h2 F E own:=by
 have hE:=xW hp
 have h:h1=zZ p∨h1=zD p:=by rcases L.hs with g | g<;>simp [g]
 have h':h2=zZ p∨h2=zD p:=by rcases L.hs with g | g<;>simp [g]
 exact ⟨L.hs,by rw [hm h1 (by omega)];exact L.cF.congr (fun x hx=>hm _ (by omega)),by rw [hm h2 (by omega)];exact L.cE.congr (fun x hx=>hm _ (by omega)),L.all,by rw [hl];exact L.len⟩
theorem Mv.low {p:zb} (hp:zE p) {nb:Nat} {X:List Int} {m m':List (BitVec 64)} (hm: ∀a,zZ p≤a→ld m' a=ld m a):Mv p nb X m m':=by
 have hE:=xW hp
 exact ⟨fun h hh=>by rw [hm h (by omega)];exact ⟨Nat.le_refl _,.inl rfl⟩,fun x hx _ _=>hm _ (by omega)⟩
theorem zrB {p:zb} (hp:zE p) {v w:Int} (hv:1≤v∧v≤p.Workers) (hw:1≤w∧w≤p.Workers) (h:v≠w):zS p v+p.Cap+2≤zS p w∨zS p w+p.Cap+2≤zS p v:=by
 have hk:=hp.wk
 have hc:=hp.cap
 have h1:=(Z1 hp hv.1 hv.2).1
 have h2:=(Z1 hp hw.1 hw.2).1
 have hx:v=1∨v=2∨v=3:=by omega
 have hy:w=1∨w=2∨w=3:=by omega
 rw [h1,h2]
 rcases hx with rfl | rfl | rfl<;>rcases hy with rfl | rfl | rfl<;>omega
theorem znO {p:zb} (hp:zE p) {w:Int} (hw:1≤w∧w≤p.Workers) {m m':List (BitVec 64)} (hm: ∀a,(a<zS p w∨zS p w+p.Cap+2≤a)→ld m' a=ld m a):(∀a,zZ p≤a→ld m' a=ld m a) ∧
  ∀v,1≤v→v≤p.Workers→v≠w→∀a,zS p v≤a→a<zS p v+p.Cap+2→ld m' a=ld m a:=by
 have hd:=Z1 hp hw.1 hw.2
 refine ⟨fun a ha=>hm a (by omega),fun v h1 h2 hne a h3 h4=>hm a ?_⟩
 have:=zrB hp ⟨h1,h2⟩ hw hne
 omega
def Xo (g:Gh) (w:Int) (t:Nat) (l:List Int) (c:Nat):Gh:={g with D:=fun v=>if v=w then l else g.D v,t:=fun v=>if v=w then t else g.t v,c:=fun v=>if v=w then c else g.c v}
theorem ZQ {g:Gh} {w v:Int} {t c:Nat} {l:List Int} (h:v≠w):(Xo g w t l c).D v=g.D v∧(Xo g w t l c).t v=g.t v∧(Xo g w t l c).c v=g.c v:=by
 unfold Xo;dsimp only;rw [if_neg h,if_neg h,if_neg h];exact ⟨rfl,rfl,rfl⟩
theorem wm {g:Gh} {w:Int} {t c:Nat} {l:List Int}:(Xo g w t l c).D w=l∧(Xo g w t l c).t w=t∧(Xo g w t l c).c w=c:=by
 unfold Xo;dsimp only;rw [if_pos rfl,if_pos rfl,if_pos rfl];exact ⟨rfl,rfl,rfl⟩
theorem SX.dq {p:zb} (hp:zE p) {nb k:Nat} {s s':za} {g:Gh} {own:List Int} (X:SX p nb s g own k) (S':SOk p nb s') (hl:s'.M.length=s.M.length) {w:Int} (hw:1≤w∧w≤p.Workers)
  (hm: ∀a,(a<zS p w∨zS p w+p.Cap+2≤a)→ld s'.M a=ld s.M a) {t c:Nat} {l:List Int} (D:DQ p s'.M w t l c) (hk:t+l.length≤k+1+1000):SX p nb s' (Xo g w t l c) own (k+1):=by
 obtain ⟨h1,h2⟩:=znO hp hw hm
 have hE:=xW hp
 refine ⟨S',X.L.low hp hl h1,fun v a b=> ?_,?_,fun v a b=> ?_⟩
 ·by_cases e:v=w
  ·subst e
   rw [wm.1,wm.2.1,wm.2.2];exact D
  ·rw [(ZQ e).1,(ZQ e).2.1,(ZQ e).2.2]
   exact (X.D v a b).keep hp (h2 v a b e)
 ·rw [h1 _ (by omega),h1 _ (by omega)]
  exact ⟨Nat.le_succ_of_le X.v.1,Nat.le_succ_of_le X.v.2⟩
 ·by_cases e:v=w
  ·subst e
   rw [wm.1,wm.2.1];exact hk
  ·rw [(ZQ e).1,(ZQ e).2.1]
   have:=X.dk v a b;omega
theorem FX.own {p:zb} (hp:zE p) {nb:Nat} {Y:List Int} {O:Int→Prop} {s s':za} {g:Gh} {w:Int} (hw:1≤w∧w≤p.Workers)
  (hm: ∀a,(a<zS p w∨zS p w+p.Cap+2≤a)→ld s'.M a=ld s.M a) (hb:s'.Bins=s.Bins) {t c:Nat} {l:List Int} (hO:O w) (V:Dv (g.t w) (g.D w) t l):FX p nb Y O s s' g (Xo g w t l c):=by
 obtain ⟨h1,h2⟩:=znO hp hw hm
 refine ⟨Mv.low hp h1,fun b _ _=>by rw [hb],fun v a b=> ?_,fun _ h=> .inl h⟩
 by_cases e:v=w
 ·subst e
  right
  rw [wm.1,wm.2.1];exact ⟨hO,V⟩
 ·exact .inl (.same (ZQ e).2.1 (ZQ e).1 (ZQ e).2.2 (h2 v a b e))
theorem wW {α β:Type} {f g:α→List β}: ∀ {l:List α},(∀x∈l,f x=g x)→l.flatMap f=l.flatMap g
 | [],_=>rfl
 | a::l,h=>by rw [List.flatMap_cons,List.flatMap_cons,h a (by simp),wW (fun x hx=>h x (List.mem_cons_of_mem _ hx))]
theorem zrd {n:Nat} {i:Nat} (h:i<n): ∃a b,List.range n=a++i::b∧i∉a∧i∉b:=by
 refine ⟨List.range i,(List.range (n-i-1)).map (fun j=>i+1+j),?_,by simp,by simp;omega⟩
 have:n=i+(1+(n-i-1)):=by omega
 rw [this,List.range_add,List.range_add]
 simp [List.range_succ,Nat.add_assoc,Function.comp_def]
theorem zjp {p:zb} {s s':za} {g:Gh} (hb:s'.Bins=s.Bins) {w:Int} (hw:1≤w∧w≤p.Workers) {t c:Nat} {l:List Int}: ∃a b,yt p s g=a++g.D w++b∧yt p s' (Xo g w t l c)=a++l++b:=by
 obtain ⟨a,b,e,ha,hb'⟩:=zrd (n:=p.Workers.toNat) (i:=(w-1).toNat) (by omega)
 have ew:(((w-1).toNat:Nat):Int)+1=w:=by omega
 have ne: ∀j:Nat,j≠(w-1).toNat→(j:Int)+1≠w:=fun j hj e=>hj (by omega)
 refine ⟨g.F.flatMap (xj s)++a.flatMap (fun i:Nat=>g.D ((i:Int)+1)),b.flatMap (fun i:Nat=>g.D ((i:Int)+1)),?_,?_⟩
 ·unfold yt
  rw [e,List.flatMap_append,List.flatMap_cons,ew]
  simp [List.append_assoc]
 ·unfold yt xj
  rw [hb,e,List.flatMap_append,List.flatMap_cons,ew,wm.1]
  have h1:a.flatMap (fun i:Nat=>(Xo g w t l c).D ((i:Int)+1))=a.flatMap (fun i:Nat=>g.D ((i:Int)+1)):=by
   refine wW (fun j hj=> ?_);exact (ZQ (ne j (fun e=>ha (e▸hj)))).1
  have h2:b.flatMap (fun i:Nat=>(Xo g w t l c).D ((i:Int)+1))=b.flatMap (fun i:Nat=>g.D ((i:Int)+1)):=by
   refine wW (fun j hj=> ?_);exact (ZQ (ne j (fun e=>hb' (e▸hj)))).1
  rw [h1,h2]
  have hF:(Xo g w t l c).F=g.F:=rfl
  rw [hF]
  simp [List.append_assoc]
theorem Mv.weak {p:zb} {nb:Nat} {m m':List (BitVec 64)} (M:Mv p nb [] m m') (Y:List Int):Mv p nb Y m m':=⟨M.hd,fun x a b _=>M.nx x a b (by simp)⟩
theorem Mv.grow {p:zb} {nb:Nat} {X Y:List Int} {m m':List (BitVec 64)} (M:Mv p nb X m m') (h: ∀x∈X,x∈Y):Mv p nb Y m m':=⟨M.hd,fun x a b c=>M.nx x a b (fun e=>c (h x e))⟩
theorem SX.chain {p:zb} (hp:zE p) {nb k:Nat} {s s':za} {g:Gh} {own own' F E:List Int} (X:SX p nb s g own k) (S':SOk p nb s') (hlow: ∀a,a<zZ p→ld s'.M a=ld s.M a) (L':LI p nb s'.M (zZ p) (zD p) F E own')
  (hv:xd (ld s'.M (zZ p))≤k+1∧xd (ld s'.M (zD p))≤k+1):SX p nb s' {g with F:=F,E:=E} own' (k+1) :=
 ⟨S',L',fun w h1 h2=>(X.D w h1 h2).keep hp (fun a h3 h4=>hlow a (by have:=Z1 hp h1 h2;omega)),hv,fun w h1 h2=>by have:=X.dk w h1 h2;show g.t w+(g.D w).length≤_;omega⟩
theorem FX.chain {p:zb} (hp:zE p) {nb:Nat} {Y:List Int} {O:Int→Prop} {s s':za} {g:Gh} {F E:List Int} (M:Mv p nb Y s.M s'.M) (hb:s'.Bins=s.Bins) (hlow: ∀a,a<zZ p→ld s'.M a=ld s.M a) (hF: ∀y∈F,y∈g.F∨xj s' y≠[]):FX p nb Y O s s' g {g with F:=F,E:=E} :=
 ⟨M,fun _ _ _=>by rw [hb],fun w h1 h2=> .inl (.same rfl rfl rfl (fun a h3 h4=>hlow a (by have:=Z1 hp h1 h2;omega))),hF⟩
theorem SX.popE {p:zb} (hp:zE p) {nb k:Nat} {s:za} {g:Gh} {own:List Int} (X:SX p nb s g own k) (hk:k<4294960000) {c:zw} (kd:c.Kind=2) (hh:c.Head=zD p) (hN:c.Next=zD p) (ho:c.Out=0) (hpc:0≤c.PC∧c.PC≤2) (K:CK p s.M c)
  (hn:1≤c.PC→1≤yr c.H∧yr c.H<nb) (S':SOk p nb {s with M:=(zk s.M c).1}) :
  ((zk s.M c).1=s.M∧(zk s.M c).2.Out≠1∧CK p s.M (zk s.M c).2∧((zk s.M c).2.Out=2→g.E=[])) ∨
  (∃x l,g.E=x::l∧(zk s.M c).2.Out=1∧(zk s.M c).2.X=x∧SX p nb {s with M:=(zk s.M c).1} {g with E:=l} (x::own) (k+1)∧∀Y O,FX p nb Y O s {s with M:=(zk s.M c).1} g {g with E:=l}):=by
 have hE:=xW hp
 have hnb:=X.S.nbk
 have hv:=X.v
 have hcells:=fun a (ha:a≠c.Head)=>zj3 s.M kd ha
 rcases zqV hp hnb.2 (L:=X.L.swap) kd hh hN ho hpc K hn (by omega) with ⟨a,b,e,d⟩ | ⟨x,l,a,b,e,d,f,v1,v2⟩
 ·exact .inl ⟨a,b,d,e⟩
 ·refine .inr ⟨x,l,a,b,e,X.chain hp S' (fun a ha=>hcells a (by omega)) d.swap ?_,fun Y O=>FX.chain hp (f.weak Y) rfl (fun a ha=>hcells a (by omega)) (fun _ h=> .inl h)⟩
  rw [v2,v1];omega
theorem SX.popF {p:zb} (hp:zE p) {nb k:Nat} {s:za} {g:Gh} {own:List Int} (X:SX p nb s g own k) (hk:k<4294960000) {c:zw} (kd:c.Kind=2) (hh:c.Head=zZ p) (hN:c.Next=zD p) (ho:c.Out=0) (hpc:0≤c.PC∧c.PC≤2) (K:CK p s.M c)
  (hn:1≤c.PC→1≤yr c.H∧yr c.H<nb) (S':SOk p nb {s with M:=(zk s.M c).1}) :
  ((zk s.M c).1=s.M∧(zk s.M c).2.Out≠1∧CK p s.M (zk s.M c).2∧((zk s.M c).2.Out=2→g.F=[])) ∨
  (∃x l,g.F=x::l∧(zk s.M c).2.Out=1∧(zk s.M c).2.X=x∧SX p nb {s with M:=(zk s.M c).1} {g with F:=l} (x::own) (k+1)∧∀Y O,FX p nb Y O s {s with M:=(zk s.M c).1} g {g with F:=l}):=by
 have hE:=xW hp
 have hnb:=X.S.nbk
 have hv:=X.v
 have hcells:=fun a (ha:a≠c.Head)=>zj3 s.M kd ha
 rcases zqV hp hnb.2 (L:=X.L) kd hh hN ho hpc K hn (by omega) with ⟨a,b,e,d⟩ | ⟨x,l,a,b,e,d,f,v1,v2⟩
 ·exact .inl ⟨a,b,d,e⟩
 ·refine .inr ⟨x,l,a,b,e,X.chain hp S' (fun a ha=>hcells a (by omega)) d ?_,fun Y O=>FX.chain hp (f.weak Y) rfl (fun a ha=>hcells a (by omega)) (fun y hy=> .inl (by rw [a];exact List.mem_cons_of_mem _ hy))⟩
  rw [v2,v1];omega
theorem SX.pushF {p:zb} (hp:zE p) {nb k:Nat} {s:za} {g:Gh} {o1 o2:List Int} {b:Int} (X:SX p nb s g (o1++b::o2) k) (hk:k<4294960000) {c:zw} (kd:c.Kind=1) (hh:c.Head=zZ p) (hN:c.Next=zD p) (hX:c.X=b) (ho:c.Out=0) (hpc:0≤c.PC∧c.PC≤2) (K:CK p s.M c)
  (hn:1≤c.PC→yr c.H<nb) (S':SOk p nb {s with M:=(zk s.M c).1}) :
  ((zk s.M c).2.Out=0∧SX p nb {s with M:=(zk s.M c).1} g (o1++b::o2) (k+1)∧CK p (zk s.M c).1 (zk s.M c).2∧(∀Y O,b∈Y→FX p nb Y O s {s with M:=(zk s.M c).1} g g)) ∨
  ((zk s.M c).2.Out=1∧SX p nb {s with M:=(zk s.M c).1} {g with F:=b::g.F} (o1++o2) (k+1)∧(∀Y O,xj s b≠[]→FX p nb Y O s {s with M:=(zk s.M c).1} g {g with F:=b::g.F})):=by
 have hE:=xW hp
 have hnb:=X.S.nbk
 have hv:=X.v
 rcases zoo hp hnb.2 (L:=X.L) kd hh hN hX ho hpc K hn (by omega) with ⟨a,l,d,e,f⟩ | ⟨a,l,d,e,f⟩
 ·refine .inl ⟨a,X.chain hp S' (fun a ha=>f a (by omega)) l ?_,e,fun Y O hb=>FX.chain hp (d.grow (fun x hx=>by rw [List.mem_singleton.1 hx];exact hb)) rfl (fun a ha=>f a (by omega)) (fun _ h=> .inl h)⟩
  show xd (ld (zk s.M c).1 (zZ p))≤_∧xd (ld (zk s.M c).1 (zD p))≤_
  rw [f _ (by omega),f _ (by omega)];omega
 ·refine .inr ⟨a,X.chain hp S' (fun a ha=>f a (by omega) (by omega)) l ?_,fun Y O hb=>FX.chain hp (d.weak Y) rfl (fun a ha=>f a (by omega) (by omega)) (fun y hy=>(List.mem_cons.1 hy).elim (fun e=> .inr (by rw [e];exact hb)) .inl)⟩
  show xd (ld (zk s.M c).1 (zZ p))≤_∧xd (ld (zk s.M c).1 (zD p))≤_
  have f':=f (zD p) (by omega) (by omega)
  rw [f'];omega
theorem SX.pushE {p:zb} (hp:zE p) {nb k:Nat} {s:za} {g:Gh} {o1 o2:List Int} {b:Int} (X:SX p nb s g (o1++b::o2) k) (hk:k<4294960000) {c:zw} (kd:c.Kind=1) (hh:c.Head=zD p) (hN:c.Next=zD p) (hX:c.X=b) (ho:c.Out=0) (hpc:0≤c.PC∧c.PC≤2) (K:CK p s.M c)
  (hn:1≤c.PC→yr c.H<nb) (S':SOk p nb {s with M:=(zk s.M c).1}) :
  ((zk s.M c).2.Out=0∧SX p nb {s with M:=(zk s.M c).1} g (o1++b::o2) (k+1)∧CK p (zk s.M c).1 (zk s.M c).2∧(∀Y O,b∈Y→FX p nb Y O s {s with M:=(zk s.M c).1} g g)) ∨
  ((zk s.M c).2.Out=1∧SX p nb {s with M:=(zk s.M c).1} {g with E:=b::g.E} (o1++o2) (k+1)∧(∀Y O,FX p nb Y O s {s with M:=(zk s.M c).1} g {g with E:=b::g.E})):=by
 have hE:=xW hp
 have hnb:=X.S.nbk
 have hv:=X.v
 rcases zoo hp hnb.2 (L:=X.L.swap) kd hh hN hX ho hpc K hn (by omega) with ⟨a,l,d,e,f⟩ | ⟨a,l,d,e,f⟩
 ·refine .inl ⟨a,X.chain hp S' (fun a ha=>f a (by omega)) l.swap ?_,e,fun Y O hb=>FX.chain hp (d.grow (fun x hx=>by rw [List.mem_singleton.1 hx];exact hb)) rfl (fun a ha=>f a (by omega)) (fun _ h=> .inl h)⟩
  show xd (ld (zk s.M c).1 (zZ p))≤_∧xd (ld (zk s.M c).1 (zD p))≤_
  rw [f _ (by omega),f _ (by omega)];omega
 ·refine .inr ⟨a,X.chain hp S' (fun a ha=>f a (by omega) (by omega)) l.swap ?_,fun Y O=>FX.chain hp (d.weak Y) rfl (fun a ha=>f a (by omega) (by omega)) (fun _ h=> .inl h)⟩
  show xd (ld (zk s.M c).1 (zZ p))≤_∧xd (ld (zk s.M c).1 (zD p))≤_
  have f':=f (zZ p) (by omega) (by omega)
  rw [f'];omega
end
end Go.Pe.G
namespace Go.Pe.G
open Go.Pe
noncomputable section
theorem zxb {p:zb} {s:za} {g:Gh} {b:Int}:yt p s {g with F:=b::g.F}=xj s b++yt p s g:=by
 unfold yt;simp [List.append_assoc]
theorem zxc {p:zb} {s:za} {g:Gh} {l:List Int}:yt p s {g with E:=l}=yt p s g:=rfl
theorem zus {l:List Int} {t:Nat} {x:Int}:Dv t l t (l++[x]):=⟨Nat.le_refl _,fun _ h=>⟨by simp,by cases l with | nil=>exact absurd rfl h | cons a l=>rfl⟩⟩
theorem zr9 {p:zb} (hp:zE p) {nb k:Nat} {R:List Int} {gh:Gh} {s:za} {g:zy} (hk:k<4294960000) (X:SX p nb s gh (xB g++R) k) (M:MOk p nb g) (h5o:g.PC=5→g.C.Out≠1) (G:GX p s gh g) :
  zkj p nb k R gh s g (zp s g).1 (zp s g).2:=by
 have S':=(zkc hp X.S M h5o).1
 have hP:=X.S.P
 have hpc:=G.pc
 have hmd:=G.md
 have hob:=G.ob
 revert S'
 unfold zp
 by_cases h0:g.Out=0
 rotate_left
 ·rw [if_pos (.inl h0)]
  intro S'
  exact .quiet X S' rfl rfl rfl rfl rfl G.c0 G
 rw [if_neg (by omega)]
 have hc0:g.Mode=1→gh.c g.Who=0:=fun h=>G.c0 h h0
 by_cases p7:g.PC=7
 ·rw [if_pos p7]
  obtain ⟨c1,c2,c3,c4,c5⟩:=G.c7 p7 h0
  obtain ⟨m1,m2,m3,m4,m5⟩:=M.c7 p7
  have eo:xB g=[g.Bin]:=ze8 h0 (.inr p7)
  have eh:yH g=[g.Obj]:=vk h0 (by omega) (by omega)
  rw [eo] at X
  intro S'
  have S':SOk p nb {s with M:=(zk s.M g.C).1}:=S'
  unfold zak
  dsimp only
  rcases SX.pushF hp (o1:=[]) (o2:=R) (b:=g.Bin) X hk m1 m2 m3 c3 c1 c2 c4 m5 S' with ⟨a,b,c,d⟩ | ⟨a,b,d⟩
  ·rw [a]
   rw [if_neg (by decide)]
   have hout:=XE s.M c1 c2 (.inl m1)
   have hsame:=zgy s.M g.C
   have hpc':0≤(zk s.M g.C).2.PC∧(zk s.M g.C).2.PC≤2:=by omega
   refine ⟨gh,by rw [show xB {g with C:=(zk s.M g.C).2}=[g.Bin] from ze8 h0 (.inr p7)];exact b,?_,by rw [eo];exact d _ _ (by simp),fun h _=>hc0 h,fun _ h=> .inl h,[],?_,.inl ⟨rfl,rfl⟩⟩
   ·exact ⟨.inl h0,hpc,hmd,hob,fun h _=>hc0 h,fun e=>by have e:g.PC=5:=e;omega,fun _ _=>⟨a,hpc',(hsame.2.2.2 m1).trans c3,c,c5⟩,fun e=>by have e:g.PC=3:=e;omega⟩
   ·rw [Zm rfl,show yH {g with C:=(zk s.M g.C).2}=[g.Obj] from vk h0 (by show (3:Int)≤g.PC;omega) (by show g.PC≤7;omega),eh]
    exact List.Perm.refl _
  ·rw [a,if_pos rfl]
   have e1:xB {g with C:=(zk s.M g.C).2,Out:=1}=[]:=wG (.inl (by show (1:Int)≠0;decide))
   have e2:yH {g with C:=(zk s.M g.C).2,Out:=1}=[]:=uD (.inl (by show (1:Int)≠0;decide))
   refine ⟨{gh with F:=g.Bin::gh.F},by rw [e1];exact b,?_,by rw [eo];exact d _ _ (by unfold xj;rw [c5];exact List.cons_ne_nil _ _),fun h _=>hc0 h,fun y hy=>(List.mem_cons.1 hy).elim (fun e=> .inr (by rw [e];unfold xj;rw [show ({s with M:=(zk s.M g.C).1}:za).Bins=s.Bins from rfl,c5];exact List.cons_ne_nil _ _)) .inl,[],?_,.inl ⟨rfl,rfl⟩⟩
   ·exact GX.plain (.inr rfl) hpc hmd hob (fun _ e=>by cases e) (.inl (by show (1:Int)≠0;decide))
   ·rw [e2,eh,zxb,Zm rfl,List.append_nil]
    have:xj {s with M:=(zk s.M g.C).1} g.Bin=[g.Obj]:=by unfold xj;rw [show ({s with M:=(zk s.M g.C).1}:za).Bins=s.Bins from rfl,c5];rfl
    rw [this]
    exact List.perm_append_comm
 rw [if_neg p7]
 by_cases p6:g.PC=6
 ·rw [if_pos p6]
  have eo:xB g=[g.Bin]:=ze8 h0 (.inl p6)
  have eh:yH g=[g.Obj]:=vk h0 (by omega) (by omega)
  have hb:=M.b6 p6
  have hbl:=X.S.bins
  intro S'
  unfold zmx
  unfold zmx at S'
  have e1:xB {g with PC:=7,C:=⟨1,0,zZ s.P,zD s.P,0#64,g.Bin,0,0⟩}=[g.Bin]:=ze8 h0 (.inr rfl)
  have hget: ∀b,1≤b→b∉xB g→(s.Bins.set g.Bin.toNat [g.Obj])[b.toNat]? =s.Bins[b.toNat]? :=fun b b1 b2=>by
   rw [List.getElem?_set_ne]
   intro e
   rw [eo] at b2
   exact b2 (by rw [show b=g.Bin by omega];simp)
  refine ⟨gh,by rw [e1,←eo];exact X.quiet S' rfl,?_,FX.quiet rfl hget,fun h _=>hc0 h,fun _ h=> .inl h,[],?_,.inl ⟨rfl,rfl⟩⟩
  ·refine ⟨.inl h0,⟨by show (0:Int)≤7;decide,by show (7:Int)≤7;decide⟩,hmd,hob,fun h _=>hc0 h,fun e=>absurd e (by show ¬(7:Int)=5;decide),fun _ _=>⟨rfl,⟨by show (0:Int)≤0;decide,by show (0:Int)≤2;decide⟩,rfl,⟨fun e=>absurd e (by show ¬(1:Int)≤0;decide),fun e=>absurd e (by show ¬(0:Int)=2;decide),fun e=>absurd e (by show ¬(0:Int)=2;decide)⟩,?_⟩,fun e=>absurd e (by show ¬(7:Int)=3;decide)⟩
   show (s.Bins.set g.Bin.toNat [g.Obj])[g.Bin.toNat]? =_
   rw [List.getElem?_set_self (by omega)]
  ·rw [show yH {g with PC:=7,C:=⟨1,0,zZ s.P,zD s.P,0#64,g.Bin,0,0⟩}=[g.Obj] from vk h0 (by show (3:Int)≤7;decide) (by show (7:Int)≤7;decide),eh]
   have:yt p {s with Bins:=s.Bins.set g.Bin.toNat [g.Obj]} gh=yt p s gh:=by
    unfold yt
    congr 1
    refine wW (fun b hb=> ?_)
    have hm:=X.L.cF.mem b hb
    have hno:=(X.L.notF (x:=g.Bin) (by rw [eo];simp)).1
    unfold xj
    rw [show ({s with Bins:=s.Bins.set g.Bin.toNat [g.Obj]}:za).Bins=s.Bins.set g.Bin.toNat [g.Obj] from rfl,hget b hm.1 (by rw [eo];intro e;rw [List.mem_singleton.1 e] at hb;exact hno hb)]
   rw [this];exact List.Perm.refl _
 rw [if_neg p6]
 have eo:xB g=[]:=wG (.inr ⟨p6,p7⟩)
 by_cases p5:g.PC=5
 ·rw [if_pos p5]
  obtain ⟨c1,c2,c3⟩:=G.c5 p5 h0
  obtain ⟨m1,m2,m3,m4,m5⟩:=M.c5 p5
  have eh:yH g=[g.Obj]:=vk h0 (by omega) (by omega)
  intro S'
  have S':SOk p nb {s with M:=(zk s.M g.C).1}:=S'
  unfold zgb
  dsimp only
  rcases SX.popE hp X hk m1 m2 m3 c1 c2 c3 m4 S' with ⟨a,b,c,d⟩ | ⟨x,l,a,b,c,d,e⟩
  ·rw [if_neg b]
   have hout:=XE s.M c1 c2 (.inr m1)
   by_cases o2:(zk s.M g.C).2.Out=2
   ·rw [if_pos o2]
    refine .quiet X S' a rfl rfl ?_ ?_ G.c0 (GX.ask h0 hmd hob hc0 _)
    ·rw [eo];exact wG (.inr ⟨by show (5:Int)≠6;decide,by show (5:Int)≠7;decide⟩)
    ·rw [eh];exact vk h0 (by show (3:Int)≤5;decide) (by show (5:Int)≤7;decide)
   ·rw [if_neg o2]
    have hpc':(zk s.M g.C).2.Out=0∧0≤(zk s.M g.C).2.PC∧(zk s.M g.C).2.PC≤2:=by omega
    refine .quiet X S' a rfl rfl ?_ ?_ G.c0 ⟨.inl h0,hpc,hmd,hob,G.c0,fun _ _=>⟨hpc'.1,hpc'.2,by rw [show ({s with M:=(zk s.M g.C).1}:za).M=s.M from a];exact c⟩,fun e=>by have e:g.PC=7:=e;omega,fun e=>by have e:g.PC=3:=e;omega⟩
    ·rw [eo];exact wG (.inr ⟨p6,p7⟩)
    ·rw [eh];exact vk h0 (by show (3:Int)≤g.PC;omega) (by show g.PC≤7;omega)
  ·rw [if_pos b]
   have e1:xB {g with PC:=6,C:=(zk s.M g.C).2,Bin:=(zk s.M g.C).2.X}=[x]:=by rw [←c];exact ze8 (g:={g with PC:=6,C:=(zk s.M g.C).2,Bin:=(zk s.M g.C).2.X}) h0 (.inl rfl)
   refine ⟨{gh with E:=l},by rw [e1];rw [eo] at d;exact d,?_,e _ _,fun h _=>hc0 h,fun _ h=> .inl h,[],?_,.inl ⟨rfl,rfl⟩⟩
   ·exact GX.plain (.inl h0) ⟨by show (0:Int)≤6;decide,by show (6:Int)≤7;decide⟩ hmd hob (fun h _=>hc0 h) (.inr ⟨by show (6:Int)≠3;decide,by show (6:Int)≠5;decide,by show (6:Int)≠7;decide⟩)
   ·rw [zxc,Zm rfl,eh,show yH {g with PC:=6,C:=(zk s.M g.C).2,Bin:=(zk s.M g.C).2.X}=[g.Obj] from vk h0 (by show (3:Int)≤6;decide) (by show (6:Int)≤7;decide)]
    exact List.Perm.refl _
 rw [if_neg p5]
 by_cases p4:g.PC=4
 ·rw [if_pos p4]
  intro S'
  refine .quiet X S' rfl rfl rfl ?_ ?_ G.c0 (GX.ask h0 hmd hob hc0 _)
  ·rw [eo];exact wG (.inr ⟨by show (5:Int)≠6;decide,by show (5:Int)≠7;decide⟩)
  ·rw [vk h0 (by omega) (by omega)];exact vk h0 (by show (3:Int)≤5;decide) (by show (5:Int)≤7;decide)
 rw [if_neg p4]
 by_cases p3:g.PC=3
 ·rw [if_pos p3]
  obtain ⟨c1,c2,c3⟩:=G.d3 p3 h0
  have hw:=M.who c1
  have eh:yH g=[g.Obj]:=vk h0 (by omega) (by omega)
  have hdk:=X.dk g.Who hw.1 hw.2
  have hlen:=X.L.len
  have hE:=xW hp
  have hc00:=c3.c0
  have c3':=c3
  rw [hc00] at c3'
  have D0:=X.D g.Who hw.1 hw.2
  rw [hc00] at D0
  obtain ⟨a,b,r⟩:=zo7 hp hw (by omega) D0 c3' (by omega) (by rw [c2];omega)
  intro S'
  have S':SOk p nb {s with M:=(yG s.M g.D).1}:=S'
  unfold zf4
  dsimp only
  rcases r with ⟨r1,r2,r3⟩ | ⟨r1,r2⟩ | ⟨r1,r2⟩
  ·rw [r1,if_neg (by decide),if_neg (by decide)]
   have e1:xB {g with D:=(yG s.M g.D).2}=[]:=wG (.inr ⟨p6,p7⟩)
   refine ⟨Xo gh g.Who (gh.t g.Who) (gh.D g.Who) 0,?_,?_,FX.own (O:=zps g) (s:=s) (s':={s with M:=(yG s.M g.D).1}) (g:=gh) hp hw a rfl ⟨c1,rfl⟩ (Dv.refl _ _),fun _ _=>wm.2.2,fun _ h=> .inl h,[],?_,.inl ⟨rfl,rfl⟩⟩
   ·rw [e1];rw [eo] at X;exact X.dq hp S' (zem _ _) hw a r2 (by omega)
   ·refine ⟨.inl h0,hpc,hmd,hob,fun _ _=>wm.2.2,fun e=>by have e:g.PC=5:=e;omega,fun e=>by have e:g.PC=7:=e;omega,fun _ _=>⟨c1,b.trans c2,?_⟩⟩
    show DK p (yG s.M g.D).1 g.Who ((Xo gh g.Who (gh.t g.Who) (gh.D g.Who) 0).t g.Who) _ _ _
    rw [wm.1,wm.2.1,wm.2.2];exact r3
   ·obtain ⟨u,v,f1,f2⟩:=zjp (p:=p) (s:=s) (s':={s with M:=(yG s.M g.D).1}) (g:=gh) rfl hw (t:=gh.t g.Who) (c:=0) (l:=gh.D g.Who)
    rw [f1,f2,eh,show yH {g with D:=(yG s.M g.D).2}=[g.Obj] from vk h0 (by show (3:Int)≤g.PC;omega) (by show g.PC≤7;omega)]
    exact List.Perm.refl _
  ·rw [r1,if_neg (by decide),if_pos rfl]
   have e1:xB (zeD s.P {g with D:=(yG s.M g.D).2})=[]:=wG (.inr ⟨by show (5:Int)≠6;decide,by show (5:Int)≠7;decide⟩)
   refine ⟨Xo gh g.Who (gh.t g.Who) (gh.D g.Who) 0,?_,?_,FX.own (O:=zps g) (s:=s) (s':={s with M:=(yG s.M g.D).1}) (g:=gh) hp hw a rfl ⟨c1,rfl⟩ (Dv.refl _ _),fun _ _=>wm.2.2,fun _ h=> .inl h,[],?_,.inl ⟨rfl,rfl⟩⟩
   ·rw [e1];rw [eo] at X;exact X.dq hp S' (zem _ _) hw a r2 (by omega)
   ·exact GX.ask (g:={g with D:=(yG s.M g.D).2}) h0 hmd hob (fun _=>wm.2.2) _
   ·obtain ⟨u,v,f1,f2⟩:=zjp (p:=p) (s:=s) (s':={s with M:=(yG s.M g.D).1}) (g:=gh) rfl hw (t:=gh.t g.Who) (c:=0) (l:=gh.D g.Who)
    rw [f1,f2,eh,show yH (zeD s.P {g with D:=(yG s.M g.D).2})=[g.Obj] from vk h0 (by show (3:Int)≤5;decide) (by show (5:Int)≤7;decide)]
    exact List.Perm.refl _
  ·rw [r1,if_pos rfl]
   have e1:xB {g with D:=(yG s.M g.D).2,Out:=1}=[]:=wG (.inl (by show (1:Int)≠0;decide))
   refine ⟨Xo gh g.Who (gh.t g.Who) (gh.D g.Who++[g.D.X]) 0,?_,?_,FX.own (O:=zps g) (s:=s) (s':={s with M:=(yG s.M g.D).1}) (g:=gh) hp hw a rfl ⟨c1,rfl⟩ zus,fun _ _=>wm.2.2,fun _ h=> .inl h,[],?_,.inl ⟨rfl,rfl⟩⟩
   ·rw [e1];rw [eo] at X;exact X.dq hp S' (zem _ _) hw a r2 (by rw [List.length_append,List.length_singleton];omega)
   ·exact GX.plain (.inr rfl) hpc hmd hob (fun _ e=>by cases e) (.inl (by show (1:Int)≠0;decide))
   ·obtain ⟨u,v,f1,f2⟩:=zjp (p:=p) (s:=s) (s':={s with M:=(yG s.M g.D).1}) (g:=gh) rfl hw (t:=gh.t g.Who) (c:=0) (l:=gh.D g.Who++[g.D.X])
    rw [f1,f2,eh,show yH {g with D:=(yG s.M g.D).2,Out:=1}=[] from uD (.inl (by show (1:Int)≠0;decide)),c2,List.append_nil,List.nil_append]
    simp only [List.append_assoc]
    refine List.Perm.append_left _ (List.Perm.append_left _ ?_)
    exact List.perm_append_comm
 rw [if_neg p3]
 by_cases p2:g.PC=2
 ·rw [if_pos p2]
  intro S'
  refine .quiet X S' rfl rfl rfl ?_ ?_ G.c0 (GX.plain (.inr rfl) hpc hmd hob (fun _ e=>by cases e) (.inl (by show (1:Int)≠0;decide)))
  ·rw [eo];exact wG (.inl (by show (1:Int)≠0;decide))
  ·rw [uD (g:=g) (.inr (.inl (by omega)))];exact uD (.inl (by show (1:Int)≠0;decide))
 rw [if_neg p2]
 by_cases p1:g.PC=1
 ·rw [if_pos p1]
  have eh:yH g=[]:=uD (.inr (.inl (by omega)))
  intro S'
  unfold zf0
  unfold zf0 at S'
  dsimp only at S' ⊢
  by_cases hs:(ui s.T g.Obj).2=false
  ·have eT:(ui s.T g.Obj).1=s.T:=by
    unfold ui at hs ⊢
    split at hs
    ·rename_i h1;rw [if_pos h1]
    ·rename_i h1
     split at hs
     ·cases hs
     ·rename_i h2;rw [if_neg h1,if_neg h2]
   rw [if_pos hs]
   refine .quiet X S' rfl rfl eT ?_ ?_ G.c0 (GX.plain (.inl h0) ⟨by show (0:Int)≤2;decide,by show (2:Int)≤7;decide⟩ hmd hob G.c0 (.inr ⟨by show (2:Int)≠3;decide,by show (2:Int)≠5;decide,by show (2:Int)≠7;decide⟩))
   ·rw [eo];exact wG (.inr ⟨by show (2:Int)≠6;decide,by show (2:Int)≠7;decide⟩)
   ·rw [eh];exact uD (.inr (.inl (by show (2:Int)<3;decide)))
  ·have eT: ¬(s.T.Marks|||bit g.Obj=s.T.Marks)∧(ui s.T g.Obj).1={s.T with Marks:=s.T.Marks|||bit g.Obj}:=by
    unfold ui at hs ⊢
    split at hs
    ·exact absurd rfl hs
    ·rename_i h1
     split at hs
     ·rename_i h2;exact ⟨h1,by rw [if_neg h1,if_pos h2]⟩
     ·exact absurd rfl hs
   rw [if_neg hs]
   have fin: ∀g':zy,xB g'=[]→yH g'=[g.Obj]→GX p {s with T:=(ui s.T g.Obj).1} gh g'→zkj p nb k R gh s g {s with T:=(ui s.T g.Obj).1} g':=fun g' a b c =>
    ⟨gh,by rw [a,←eo];exact X.quiet S' rfl,c,FX.quiet rfl (fun _ _ _=>rfl),fun h _=>hc0 h,fun _ h=> .inl h,[g.Obj],by rw [Zm rfl,b,eh,List.append_nil];exact List.perm_append_comm,.inr ⟨rfl,eT.1,eT.2⟩⟩
   by_cases q1:g.Mode=1
   ·rw [if_pos q1]
    have hw:=M.who q1
    refine fin _ (wG (.inr ⟨by show (3:Int)≠6;decide,by show (3:Int)≠7;decide⟩)) (vk h0 (by show (3:Int)≤3;decide) (by show (3:Int)≤7;decide))
     ⟨.inl h0,⟨by show (0:Int)≤3;decide,by show (3:Int)≤7;decide⟩,hmd,hob,G.c0,fun e=>absurd e (by show ¬(3:Int)=5;decide),fun e=>absurd e (by show ¬(3:Int)=7;decide),fun _ _=>⟨q1,rfl,⟨rfl,by rw [hP],by rw [hP],rfl,hc0 q1,⟨by show (0:Int)≤0;decide,by show (0:Int)≤3;decide⟩,fun e=>absurd e (by show ¬(1:Int)≤0;decide),fun e=>absurd e (by show ¬(2:Int)≤0;decide),fun e=>absurd e (by show ¬(3:Int)≤0;decide)⟩⟩⟩
   rw [if_neg q1]
   by_cases q2:g.Mode=2
   ·rw [if_pos q2]
    exact fin _ (wG (.inr ⟨by show (4:Int)≠6;decide,by show (4:Int)≠7;decide⟩)) (vk h0 (by show (3:Int)≤4;decide) (by show (4:Int)≤7;decide))
     (GX.plain (.inl h0) ⟨by show (0:Int)≤4;decide,by show (4:Int)≤7;decide⟩ hmd hob G.c0 (.inr ⟨by show (4:Int)≠3;decide,by show (4:Int)≠5;decide,by show (4:Int)≠7;decide⟩))
   ·rw [if_neg q2]
    exact fin _ (wG (.inr ⟨by show (5:Int)≠6;decide,by show (5:Int)≠7;decide⟩)) (vk h0 (by show (3:Int)≤5;decide) (by show (5:Int)≤7;decide)) (GX.ask h0 hmd hob hc0 _)
 ·rw [if_neg p1]
  intro S'
  refine .quiet X S' rfl rfl rfl ?_ ?_ G.c0 (GX.plain (.inl h0) ⟨by show (0:Int)≤1;decide,by show (1:Int)≤7;decide⟩ hmd hob G.c0 (.inr ⟨by show (1:Int)≠3;decide,by show (1:Int)≠5;decide,by show (1:Int)≠7;decide⟩))
  ·rw [eo];exact wG (.inr ⟨by show (1:Int)≠6;decide,by show (1:Int)≠7;decide⟩)
  ·rw [uD (g:=g) (.inr (.inl (by omega)))];exact uD (.inr (.inl (by show (1:Int)<3;decide)))
end
end Go.Pe.G
namespace Go.Pe.G
open Go.Pe
noncomputable section
def xA (x:ze):List Int:=if x.PC=3∨x.PC=4 then [x.Bin] else if x.PC=6 then xB x.G else []
def Vy (s:za) (x:ze):List Int:=if x.PC=0 then Y0 s.M x.D else if x.PC=3 then xj s x.Bin else if x.PC=5∨x.PC=8 then [x.Obj] else if x.PC=6 then x.Obj::yH x.G else []
def zL (s:za) (x:ze):List Int:=x.Batch++Vy s x
structure WX (p:zb) (s:za) (gh:Gh) (w:Int) (x:ze):Prop where
 c0:x.PC≠0→gh.c w=0
 bt:x.PC≤3→x.Batch=[]
 p0:x.PC=0→PK p s.M w (gh.t w) (gh.D w) (gh.c w) x.D
 p1:x.PC=1→TK p s.M x.Victim (gh.t x.Victim) (gh.D x.Victim) x.D
 p2:x.PC=2→x.C.Out=0∧(0≤x.C.PC∧x.C.PC≤2)∧CK p s.M x.C
 p4:x.PC=4→x.C.Out=0∧(0≤x.C.PC∧x.C.PC≤2)∧x.C.X=x.Bin∧CK p s.M x.C
 p6:x.PC=6→GX p s gh x.G∧x.G.Mode=1∧x.G.Who=w∧x.G.Out=0
theorem WX.plain {p:zb} {s:za} {gh:Gh} {w:Int} {x:ze} (h:x.PC=5∨x.PC=7∨x.PC=8∨x.PC=9) (c:gh.c w=0):WX p s gh w x :=
 ⟨fun _=>c,fun e=>by omega,fun e=>by omega,fun e=>by omega,fun e=>by omega,fun e=>by omega,fun e=>by omega⟩
theorem CK.start {p:zb} {m:List (BitVec 64)} {k h x:Int}:CK p m ⟨k,0,h,zD p,0#64,x,0,0⟩ :=
 ⟨fun e=>absurd e (by show ¬(1:Int)≤0;decide),fun e=>absurd e (by show ¬(0:Int)=2;decide),fun e=>absurd e (by show ¬(0:Int)=2;decide)⟩
theorem WX.begin {p:zb} {s:za} {gh:Gh} {w:Int} {x:ze} (c:gh.c w=0) (hb:x.Batch=[]):WX p s gh w (V6 p w x):=by
 refine ⟨fun e=>absurd rfl e,fun _=>hb,fun _=>⟨rfl,rfl,rfl,rfl,⟨by show (0:Int)≤0;decide,by show (0:Int)≤6;decide⟩,fun _=>c,?_,?_,?_,?_,?_,?_,?_,?_⟩,fun e=>(by cases e),fun e=>(by cases e),fun e=>(by cases e),fun e=>(by cases e)⟩
 all_goals (intro e;first | (exact absurd e (by show ¬((0:Int)=2∨(4:Int)≤0);decide)) | (exact absurd e (by show ¬(0:Int)=3;decide)) | (exact absurd e (by show ¬(0:Int)=4;decide)) | (exact absurd e (by show ¬((0:Int)=3∨(0:Int)=4);decide)) | (exact absurd e (by show ¬(5:Int)≤0;decide)) | skip)
 rcases e with e | e | e | e
 ·exact absurd e (by show ¬(0:Int)=1;decide)
 ·exact absurd e (by show ¬(0:Int)=2;decide)
 ·exact absurd e (by show ¬(4:Int)≤0;decide)
 ·exact absurd e.1 (by show ¬(0:Int)=3;decide)
theorem ziJ {p:zb} {s:za} {w:Int} {x:ze}:Vy s (V6 p w x)=[]:=by
 unfold Vy
 rw [if_pos (show (V6 p w x).PC=0 from rfl)]
 exact vi (.inl (by show (0:Int)≠3;decide)) (by show (0:Int)≠6;decide)
theorem WX.look {p:zb} {s:za} {gh:Gh} {w:Int} {x:ze} (c:gh.c w=0) (hb:x.Batch=[]):WX p s gh w (Ze p w x)∧Vy s (Ze p w x)=[]∧xA (Ze p w x)=[]:=by
 unfold Ze
 split
 ·refine ⟨⟨fun _=>c,fun _=>hb,fun e=>(by cases e),fun e=>(by cases e),fun _=>⟨rfl,⟨by show (0:Int)≤0;decide,by show (0:Int)≤2;decide⟩,CK.start⟩,fun e=>(by cases e),fun e=>(by cases e)⟩,?_,?_⟩
  ·unfold Vy;rw [if_neg (by show ¬(2:Int)=0;decide),if_neg (by show ¬(2:Int)=3;decide),if_neg (by show ¬((2:Int)=5∨(2:Int)=8);decide),if_neg (by show ¬(2:Int)=6;decide)]
  ·unfold xA;rw [if_neg (by show ¬((2:Int)=3∨(2:Int)=4);decide),if_neg (by show ¬(2:Int)=6;decide)]
 ·refine ⟨⟨fun _=>c,fun _=>hb,fun e=>(by cases e),fun _=>⟨rfl,rfl,rfl,rfl,⟨by show (0:Int)≤0;decide,by show (0:Int)≤3;decide⟩,fun e=>absurd e (by show ¬(1:Int)≤0;decide),fun e=>absurd e (by show ¬(2:Int)≤0;decide),fun e=>absurd e (by show ¬(0:Int)=3;decide)⟩,fun e=>(by cases e),fun e=>(by cases e),fun e=>(by cases e)⟩,?_,?_⟩
  ·unfold Vy;rw [if_neg (by show ¬(1:Int)=0;decide),if_neg (by show ¬(1:Int)=3;decide),if_neg (by show ¬((1:Int)=5∨(1:Int)=8);decide),if_neg (by show ¬(1:Int)=6;decide)]
  ·unfold xA;rw [if_neg (by show ¬((1:Int)=3∨(1:Int)=4);decide),if_neg (by show ¬(1:Int)=6;decide)]
theorem WX.other {p:zb} (hp:zE p) {nb k:Nat} {s s':za} {gh gh':Gh} {X R:List Int} {O:Int→Prop} {w:Int} {x:ze} (hw:1≤w∧w≤p.Workers) (Y:SX p nb s gh (X++R) k) (Fx:FX p nb X O s s' gh gh') (K:WX p s gh w x) (W:WOk p nb w x)
  (hR: ∀b∈xA x,b∈R) (apart: ¬O w):WX p s' gh' w x∧zL s' x=zL s x:=by
 have hsub: ∀b∈X,b∈X++R:=fun b hb=>List.mem_append_left _ hb
 have hnd:=(List.nodup_append.1 Y.L.nodup).2.1
 have hnot: ∀b,b∈xA x→b∉X:=fun b hb hg=>(List.nodup_append.1 hnd).2.2 b hg b (hR b hb) rfl
 have hc:gh'.c w=gh.c w:=by
  rcases Fx.dq w hw.1 hw.2 with h | h
  ·cases h with
   | same e1 e2 e3 e4=>exact e3
   | stolen y e1 e2 e3 e4=>exact e3
  ·exact absurd h.1 apart
 have hcell: ∀a,zS p w<a→a<zS p w+p.Cap+2→ld s'.M a=ld s.M a:=by
  rcases Fx.dq w hw.1 hw.2 with h | h
  ·cases h with
   | same e1 e2 e3 e4=>exact fun a h1 h2=>e4 a (by omega) h2
   | stolen y e1 e2 e3 e4=>exact e4
  ·exact absurd h.1 apart
 refine ⟨⟨fun e=>hc.trans (K.c0 e),K.bt,fun e=>Fx.pk hp hw.1 hw.2 apart (K.p0 e),fun e=>Fx.tk W.vic.1 W.vic.2 (K.p1 e),fun e=> ?_,fun e=> ?_,fun e=> ?_⟩,?_⟩
 ·obtain ⟨a,b,c⟩:=K.p2 e
  have C:=W.c2 e
  exact ⟨a,b,c.mv Y.L Fx.mv hsub (.inl C.h) (fun h _=>C.v h) (fun e2=>by have:=C.k;omega)⟩
 ·obtain ⟨a,b,c,d⟩:=K.p4 e
  have C:=W.c4 e
  have hno:=hnot x.Bin (by unfold xA;rw [if_pos (.inr e)];simp)
  exact ⟨a,b,c,d.mv Y.L Fx.mv hsub (.inr C.h) (fun _ e2=>by have:=C.k;omega) (fun _=>⟨C.x.1,C.x.2,by rw [c];exact hno⟩)⟩
 ·obtain ⟨a,b,c,d⟩:=K.p6 e
  have M:=(W.g6 e).1
  refine ⟨a.other hp Y Fx M (fun y hy=>hR y ?_) (fun _=>by rw [c];exact apart),b,c,d⟩
  unfold xA;rw [if_neg (by omega),if_pos e];exact hy
 ·unfold zL Vy
  congr 1
  by_cases e0:x.PC=0
  ·rw [if_pos e0,if_pos e0]
   have P:=K.p0 e0
   unfold Y0
   have hpl:=(zlT hp hw.1 hw.2 P.base P.size (x.D.B-1#64)).2
   rw [hcell _ (by rw [P.base] at hpl;omega) (by rw [P.base] at hpl;omega)]
  ·rw [if_neg e0,if_neg e0]
   by_cases e3:x.PC=3
   ·rw [if_pos e3,if_pos e3]
    have hb:=W.b3 e3
    have hno:=hnot x.Bin (by unfold xA;rw [if_pos (.inl e3)];simp)
    unfold xj
    rw [Fx.bn x.Bin hb.1 hno]
   ·rw [if_neg e3,if_neg e3]
theorem zlG (s:za) (b:Int):XB s b=xj s b:=by unfold XB xj;rw [List.getD_eq_getElem?_getD]
theorem FX.mono {p:zb} {nb:Nat} {X:List Int} {O O':Int→Prop} {s s':za} {g g':Gh} (h:FX p nb X O s s' g g') (i: ∀v,O v→O' v):FX p nb X O' s s' g g' :=
 ⟨h.mv,h.bn,fun v a b=>(h.dq v a b).imp id (fun e=>⟨i v e.1,e.2⟩),h.fb⟩
theorem vz {x:ze} (h3:x.PC≠3) (h4:x.PC≠4) (h6:x.PC≠6):xA x=[]:=by unfold xA;rw [if_neg (by omega),if_neg h6]
theorem zew {x:ze} (h:x.PC=3∨x.PC=4):xA x=[x.Bin]:=by unfold xA;rw [if_pos h]
theorem zmy {x:ze} (h:x.PC=6):xA x=xB x.G:=by unfold xA;rw [if_neg (by omega),if_pos h]
theorem ztm {s:za} {x:ze} (h:x.PC=0):Vy s x=Y0 s.M x.D:=by unfold Vy;rw [if_pos h]
theorem zqO {s:za} {x:ze} (h:x.PC=3):Vy s x=xj s x.Bin:=by unfold Vy;rw [if_neg (by omega),if_pos h]
theorem XP {s:za} {x:ze} (h:x.PC=5∨x.PC=8):Vy s x=[x.Obj]:=by unfold Vy;rw [if_neg (by omega),if_neg (by omega),if_pos h]
theorem znb {s:za} {x:ze} (h:x.PC=6):Vy s x=x.Obj::yH x.G:=by unfold Vy;rw [if_neg (by omega),if_neg (by omega),if_neg (by omega),if_pos h]
theorem Zy {s:za} {x:ze} (h:x.PC=1∨x.PC=2∨x.PC=4∨x.PC=7∨x.PC=9):Vy s x=[]:=by unfold Vy;rw [if_neg (by omega),if_neg (by omega),if_neg (by omega),if_neg (by omega)]
def zeT (p:zb) (nb k:Nat) (R:List Int) (gh:Gh) (s:za) (w:Int) (x:ze) (s':za) (x':ze):Prop :=
 ∃gh',SX p nb s' gh' (xA x'++R) (k+1)∧WX p s' gh' w x'∧FX p nb (xA x) (fun v=>v=w) s s' gh gh' ∧
  ∃N B,List.Perm (yt p s' gh'++zL s' x'++B) (N++(yt p s gh++zL s x)) ∧
   ((N=[]∧B=[]∧s'.T=s.T)∨(N=[x.G.Obj]∧B=[]∧x.PC=6∧¬(s.T.Marks|||bit x.G.Obj=s.T.Marks)∧s'.T={s.T with Marks:=s.T.Marks|||bit x.G.Obj})∨(N=[]∧B=[x.Obj]∧x.PC=8∧s'.T=vq s.T x.Obj))
theorem zeT.quiet {p:zb} {nb k:Nat} {R:List Int} {gh:Gh} {s s':za} {w:Int} {x x':ze} (X:SX p nb s gh (xA x++R) k) (S':SOk p nb s') (hm:s'.M=s.M) (hb:s'.Bins=s.Bins) (hT:s'.T=s.T)
  (ho:xA x'=xA x) (hh:List.Perm (zL s' x') (zL s x)) (W':WX p s' gh w x'):zeT p nb k R gh s w x s' x' :=
 ⟨gh,by rw [ho];exact X.quiet S' hm,W',FX.quiet hm (fun _ _ _=>by rw [hb]),[],[],by rw [Zm hb,List.append_nil];exact List.Perm.append_left _ hh,.inl ⟨rfl,rfl,hT⟩⟩
theorem zvv {p:zb} (hp:zE p) {nb k:Nat} {R:List Int} {gh:Gh} {s:za} {w:Int} {x:ze} (hk:k<4294960000) (hw:1≤w∧w≤p.Workers) (X:SX p nb s gh (xA x++R) k) (W:WOk p nb w x) (K:WX p s gh w x)
  (hH: ∀o i,0≤zJ s.H o i∧zJ s.H o i≤64):zeT p nb k R gh s w x (zi s w x).1 (zi s w x).2:=by
 have S':=(zrH hp hw X.S W).1
 have hP:=X.S.P
 have eL: ∀y,Ze s.P w y=Ze p w y:=fun y=>by rw [hP]
 have eB: ∀y,V6 s.P w y=V6 p w y:=fun y=>by rw [hP]
 have eC:W5 s.P (zD s.P) x.Bin=W5 p (zD p) x.Bin:=by rw [hP]
 have hpc:=W.pc
 have hlen:=X.L.len
 have hE:=xW hp
 revert S'
 unfold zi
 by_cases p01:x.PC=0∨x.PC=1
 ·rw [if_pos p01]
  intro S'
  have S':SOk p nb {s with M:=(zM s.M x.D).1}:=S'
  have hl:=(zgM s.M x.D).1
  have eo:xA x=[]:=vz (by omega) (by omega) (by omega)
  have hbt:=K.bt (by omega)
  rw [eo] at X
  dsimp only
  by_cases p0:x.PC=0
  ·have K0:=K.p0 p0
   have D0:=X.D w hw.1 hw.2
   have hdk:=X.dk w hw.1 hw.2
   obtain ⟨t',l',c',D',hm,V,hle,r⟩:=zqZ hp hw (by omega) D0 K0
   have hc:=hp.cap
   have hm': ∀a,(a<zS p w∨zS p w+p.Cap+2≤a)→ld (zM s.M x.D).1 a=ld s.M a:=fun a ha=>hm a (by omega) (by omega)
   have X':=X.dq hp S' hl hw hm' D' (by omega)
   have Fx:FX p nb (xA x) (fun v=>v=w) s {s with M:=(zM s.M x.D).1} gh (Xo gh w t' l' c'):=FX.own (O:=fun v=>v=w) (s:=s) (s':={s with M:=(zM s.M x.D).1}) (g:=gh) hp hw hm' rfl rfl V
   obtain ⟨u,v,f1,f2⟩:=zjp (p:=p) (s:=s) (s':={s with M:=(zM s.M x.D).1}) (g:=gh) rfl hw (t:=t') (c:=c') (l:=l')
   have fin: ∀x':ze,xA x'=[]→WX p {s with M:=(zM s.M x.D).1} (Xo gh w t' l' c') w x'→List.Perm (l'++zL {s with M:=(zM s.M x.D).1} x') (gh.D w++zL s x)→zeT p nb k R gh s w x {s with M:=(zM s.M x.D).1} x':=by
    intro x' a b c
    refine ⟨_,by rw [a];exact X',b,Fx,[],[],?_,.inl ⟨rfl,rfl,rfl⟩⟩
    rw [f1,f2,List.append_nil,List.nil_append]
    simp only [List.append_assoc]
    refine List.Perm.append_left _ ?_
    refine (List.perm_append_comm_assoc l' v _).trans (List.Perm.trans ?_ (List.perm_append_comm_assoc v (gh.D w) _))
    exact List.Perm.append_left _ c
   have hh:zL s x=Y0 s.M x.D:=by unfold zL;rw [hbt,ztm p0,List.nil_append]
   rw [hh] at fin
   rcases r with ⟨r1,r2,r3⟩ | ⟨r1,r2,r3⟩ | ⟨r1,r2,r3,r4,r5⟩
   ·rw [r1,if_neg (by decide),if_neg (by decide)]
    refine fin _ (vz (by show x.PC≠3;omega) (by show x.PC≠4;omega) (by show x.PC≠6;omega)) ⟨fun e=>absurd p0 e,fun _=>hbt,fun _=> ?_,fun e=>by have e:x.PC=1:=e;omega,fun e=>by have e:x.PC=2:=e;omega,fun e=>by have e:x.PC=4:=e;omega,fun e=>by have e:x.PC=6:=e;omega⟩ ?_
    ·rw [wm.1,wm.2.1,wm.2.2];exact r2
    ·unfold zL
     rw [ztm (x:={x with D:=(zM s.M x.D).2}) p0]
     show List.Perm (l'++(x.Batch++Y0 (zM s.M x.D).1 (zM s.M x.D).2)) _
     rw [hbt,List.nil_append];exact r3
   ·rw [r1,if_pos rfl]
    refine fin _ (vz (by show (5:Int)≠3;decide) (by show (5:Int)≠4;decide) (by show (5:Int)≠6;decide)) (WX.plain (.inl rfl) (by rw [wm.2.2];exact r2)) ?_
    unfold zL
    rw [XP (.inl rfl)]
    show List.Perm (l'++(x.Batch++[(zM s.M x.D).2.X])) _
    rw [hbt,List.nil_append];exact r3
   ·rw [r1,if_neg (by decide),if_pos (.inl rfl),eL]
    obtain ⟨a,b,c⟩:=WX.look (p:=p) (s:={s with M:=(zM s.M x.D).1}) (gh:=Xo gh w t' l' c') (w:=w) (x:={x with D:=(zM s.M x.D).2}) (by rw [wm.2.2];exact r2) hbt
    refine fin _ c a ?_
    unfold zL
    rw [b,r3,r4,r5,show (Ze p w {x with D:=(zM s.M x.D).2}).Batch=x.Batch by unfold Ze;split<;>rfl,hbt]
    exact List.Perm.refl _
  ·have p1:x.PC=1:=by omega
   have K1:=K.p1 p1
   have hv:=W.vic
   have hc0:=K.c0 p0
   have D0:=X.D x.Victim hv.1 hv.2
   have hdk:=X.dk x.Victim hv.1 hv.2
   have hh:zL s x=[]:=by unfold zL;rw [hbt,Zy (.inl p1)];rfl
   rcases zsZ hp hv (by omega) D0 K1 with ⟨hm,r⟩ | ⟨y,l',e1,e2,e3,e4,e5⟩
   ·have S2:=S'
    have q: ∀x':ze,xA x'=[]→zL {s with M:=(zM s.M x.D).1} x'=[]→WX p {s with M:=(zM s.M x.D).1} gh w x'→zeT p nb k R gh s w x {s with M:=(zM s.M x.D).1} x' :=
     fun x' a b c=> .quiet (by rw [eo];exact X) S' hm rfl rfl (by rw [a,eo]) (by rw [b,hh]) c
    rcases r with ⟨r1,r2⟩ | r
    ·rw [r1,if_neg (by decide),if_neg (by decide)]
     refine q _ (vz (by show x.PC≠3;omega) (by show x.PC≠4;omega) (by show x.PC≠6;omega)) ?_ ⟨fun _=>hc0,fun _=>hbt,fun e=>absurd e p0,fun _=> ?_,fun e=>by have e:x.PC=2:=e;omega,fun e=>by have e:x.PC=4:=e;omega,fun e=>by have e:x.PC=6:=e;omega⟩
     ·unfold zL
      rw [Zy (x:={x with D:=(zM s.M x.D).2}) (.inl p1)]
      show x.Batch++[]=[]
      rw [hbt];rfl
     ·show TK p (zM s.M x.D).1 _ _ _ _
      rw [hm];exact r2
    ·rw [if_neg (by omega),if_pos r,eL]
     obtain ⟨a,b,c⟩:=WX.look (p:=p) (s:={s with M:=(zM s.M x.D).1}) (gh:=gh) (w:=w) (x:={x with D:=(zM s.M x.D).2}) hc0 hbt
     refine q _ c ?_ a
     unfold zL
     rw [b,show (Ze p w {x with D:=(zM s.M x.D).2}).Batch=x.Batch by unfold Ze;split<;>rfl,hbt];rfl
   ·have hc:=hp.cap
    have hm': ∀a,(a<zS p x.Victim∨zS p x.Victim+p.Cap+2≤a)→ld (zM s.M x.D).1 a=ld s.M a:=fun a ha=>e5 a (by omega)
    have X':=X.dq hp S' hl hv hm' e4 (by rw [e1] at hdk;simp at hdk;omega)
    obtain ⟨h1,h2⟩:=znO hp hv hm'
    obtain ⟨u,v,f1,f2⟩:=zjp (p:=p) (s:=s) (s':={s with M:=(zM s.M x.D).1}) (g:=gh) rfl hv (t:=gh.t x.Victim+1) (c:=gh.c x.Victim) (l:=l')
    rw [e2,if_pos rfl]
    refine ⟨Xo gh x.Victim (gh.t x.Victim+1) l' (gh.c x.Victim),by rw [vz (by show (5:Int)≠3;decide) (by show (5:Int)≠4;decide) (by show (5:Int)≠6;decide)];exact X',WX.plain (.inl rfl) ?_,⟨Mv.low hp h1,fun _ _ _=>rfl,fun v' a b=> .inl ?_,fun _ h=> .inl h⟩,[],[],?_,.inl ⟨rfl,rfl,rfl⟩⟩
    ·by_cases e:w=x.Victim
     ·rw [e,wm.2.2,←e];exact hc0
     ·rw [(ZQ e).2.2];exact hc0
    ·by_cases e:v'=x.Victim
     ·subst e
      exact .stolen y wm.2.1 (by rw [wm.1];exact e1) wm.2.2 (fun a h1 _=>e5 a (by omega))
     ·exact .same (ZQ e).2.1 (ZQ e).1 (ZQ e).2.2 (h2 v' a b e)
    ·rw [f1,f2,hh,List.append_nil,List.append_nil,List.nil_append,e1]
     unfold zL
     rw [XP (.inl rfl)]
     show List.Perm (u++l'++v++(x.Batch++[(zM s.M x.D).2.X])) _
     rw [hbt,List.nil_append,e3]
     simp only [List.append_assoc]
     refine List.Perm.append_left _ ?_
     show List.Perm (l'++(v++[y])) (y::(l'++v))
     rw [←List.append_assoc]
     exact List.perm_append_comm
 rw [if_neg p01]
 have hc0:=K.c0 (by omega)
 by_cases p2:x.PC=2
 ·rw [if_pos p2]
  intro S'
  have S':SOk p nb {s with M:=(zk s.M x.C).1}:=S'
  have C:=W.c2 p2
  obtain ⟨c1,c2,c3⟩:=K.p2 p2
  have hbt:=K.bt (by omega)
  have eo:xA x=[]:=vz (by omega) (by omega) (by omega)
  have hh:zL s x=[]:=by unfold zL;rw [hbt,Zy (.inr (.inl p2))];rfl
  dsimp only
  rcases SX.popF hp X hk C.k C.h C.n c1 c2 c3 C.v S' with ⟨a,b,c,d⟩ | ⟨y,l,a,b,c,d,e⟩
  ·rw [if_neg b]
   have hout:=XE s.M c1 c2 (.inr C.k)
   by_cases o2:(zk s.M x.C).2.Out=2
   ·rw [if_pos o2,eB]
    refine .quiet X S' a rfl rfl ?_ ?_ (WX.begin hc0 hbt)
    ·rw [eo];exact vz (by show (0:Int)≠3;decide) (by show (0:Int)≠4;decide) (by show (0:Int)≠6;decide)
    ·unfold zL
     rw [ziJ,show (V6 p w {x with C:=(zk s.M x.C).2}).Batch=x.Batch from rfl]
     rw [hbt,Zy (.inr (.inl p2))]
   ·rw [if_neg o2]
    have hpc':(zk s.M x.C).2.Out=0∧0≤(zk s.M x.C).2.PC∧(zk s.M x.C).2.PC≤2:=by omega
    refine .quiet X S' a rfl rfl ?_ ?_ ⟨fun _=>hc0,fun _=>hbt,fun e=>by have e:x.PC=0:=e;omega,fun e=>by have e:x.PC=1:=e;omega,fun _=>⟨hpc'.1,hpc'.2,?_⟩,fun e=>by have e:x.PC=4:=e;omega,fun e=>by have e:x.PC=6:=e;omega⟩
    ·rw [eo];exact vz (by show x.PC≠3;omega) (by show x.PC≠4;omega) (by show x.PC≠6;omega)
    ·unfold zL
     rw [Zy (x:={x with C:=(zk s.M x.C).2}) (.inr (.inl p2)),Zy (.inr (.inl p2))]
    ·rw [show ({s with M:=(zk s.M x.C).1}:za).M=s.M from a];exact c
  ·rw [if_pos b]
   have e1:xA {x with C:=(zk s.M x.C).2,Bin:=(zk s.M x.C).2.X,PC:=3}=[y]:=by rw [←c];exact zew (x:={x with C:=(zk s.M x.C).2,Bin:=(zk s.M x.C).2.X,PC:=3}) (.inl rfl)
   refine ⟨{gh with F:=l},by rw [e1];rw [eo] at d;exact d,⟨fun _=>hc0,fun _=>hbt,fun e=>(by cases e),fun e=>(by cases e),fun e=>(by cases e),fun e=>(by cases e),fun e=>(by cases e)⟩,e _ _,[],[],?_,.inl ⟨rfl,rfl,rfl⟩⟩
   rw [hh,List.append_nil,List.append_nil,List.nil_append]
   unfold zL
   rw [zqO (x:={x with C:=(zk s.M x.C).2,Bin:=(zk s.M x.C).2.X,PC:=3}) rfl]
   show List.Perm (yt p s {gh with F:=l}++(x.Batch++xj s (zk s.M x.C).2.X)) _
   rw [hbt,List.nil_append,c]
   have:yt p s gh=xj s y++yt p s {gh with F:=l}:=by unfold yt;rw [a];simp [List.append_assoc]
   rw [this]
   exact List.perm_append_comm
 rw [if_neg p2]
 by_cases p3:x.PC=3
 ·rw [if_pos p3]
  intro S'
  have hb:=W.b3 p3
  have hbt:=K.bt (by omega)
  have eo:xA x=[x.Bin]:=zew (.inl p3)
  rw [eC]
  have e1:xA {x with Batch:=XB s x.Bin,PC:=4,C:=W5 p (zD p) x.Bin}=[x.Bin]:=zew (x:={x with Batch:=XB s x.Bin,PC:=4,C:=W5 p (zD p) x.Bin}) (.inr rfl)
  have hget: ∀b,1≤b→b∉xA x→(s.Bins.set x.Bin.toNat [])[b.toNat]? =s.Bins[b.toNat]? :=fun b b1 b2=>by
   rw [List.getElem?_set_ne]
   intro e
   rw [eo] at b2
   exact b2 (by rw [show b=x.Bin by omega];simp)
  refine ⟨gh,by rw [e1,←eo];exact X.quiet S' rfl,⟨fun _=>hc0,fun e=>absurd e (by show ¬(4:Int)≤3;decide),fun e=>(by cases e),fun e=>(by cases e),fun e=>(by cases e),fun _=>⟨rfl,⟨by show (0:Int)≤0;decide,by show (0:Int)≤2;decide⟩,rfl,CK.start⟩,fun e=>(by cases e)⟩,FX.quiet rfl hget,[],[],?_,.inl ⟨rfl,rfl,rfl⟩⟩
  have hbag:yt p {s with Bins:=s.Bins.set x.Bin.toNat []} gh=yt p s gh:=by
   unfold yt
   congr 1
   refine wW (fun b hb=> ?_)
   have hm:=X.L.cF.mem b hb
   have hno:=(X.L.notF (x:=x.Bin) (by rw [eo];simp)).1
   unfold xj
   rw [show ({s with Bins:=s.Bins.set x.Bin.toNat []}:za).Bins=s.Bins.set x.Bin.toNat [] from rfl,hget b hm.1 (by rw [eo];intro e;rw [List.mem_singleton.1 e] at hb;exact hno hb)]
  rw [hbag,List.append_nil,List.nil_append]
  unfold zL
  rw [zqO p3,Zy (x:={x with Batch:=XB s x.Bin,PC:=4,C:=W5 p (zD p) x.Bin}) (.inr (.inr (.inl rfl)))]
  show List.Perm (yt p s gh++(XB s x.Bin++[])) _
  rw [hbt,List.append_nil,List.nil_append,zlG]
 rw [if_neg p3]
 by_cases p4:x.PC=4
 ·rw [if_pos p4]
  intro S'
  have S':SOk p nb {s with M:=(zk s.M x.C).1}:=S'
  have C:=W.c4 p4
  obtain ⟨c1,c2,c3,c4⟩:=K.p4 p4
  have eo:xA x=[x.Bin]:=zew (.inr p4)
  have hh:zL s x=x.Batch:=by unfold zL;rw [Zy (.inr (.inr (.inl p4))),List.append_nil]
  rw [eo] at X
  dsimp only
  rcases SX.pushE hp (o1:=[]) (o2:=R) (b:=x.Bin) X hk C.k C.h C.n c3 c1 c2 c4 C.v S' with ⟨a,b,c,d⟩ | ⟨a,b,d⟩
  ·rw [a,if_neg (by decide)]
   have hout:=XE s.M c1 c2 (.inl C.k)
   have hsame:=zgy s.M x.C
   have hpc':0≤(zk s.M x.C).2.PC∧(zk s.M x.C).2.PC≤2:=by omega
   have e1:xA {x with C:=(zk s.M x.C).2}=[x.Bin]:=zew (x:={x with C:=(zk s.M x.C).2}) (.inr p4)
   refine ⟨gh,by rw [e1];exact b,⟨fun _=>hc0,fun e=>by have e:x.PC≤3:=e;omega,fun e=>by have e:x.PC=0:=e;omega,fun e=>by have e:x.PC=1:=e;omega,fun e=>by have e:x.PC=2:=e;omega,fun _=>⟨a,hpc',(hsame.2.2.2 C.k).trans c3,c⟩,fun e=>by have e:x.PC=6:=e;omega⟩,by rw [eo];exact d _ _ (by simp),[],[],?_,.inl ⟨rfl,rfl,rfl⟩⟩
   rw [Zm rfl,hh,List.append_nil]
   unfold zL
   rw [Zy (x:={x with C:=(zk s.M x.C).2}) (.inr (.inr (.inl p4))),List.append_nil]
   exact List.Perm.refl _
  ·rw [a,if_pos rfl]
   refine ⟨{gh with E:=x.Bin::gh.E},by rw [vz (by show (7:Int)≠3;decide) (by show (7:Int)≠4;decide) (by show (7:Int)≠6;decide)];exact b,WX.plain (.inr (.inl rfl)) hc0,by rw [eo];exact d _ _,[],[],?_,.inl ⟨rfl,rfl,rfl⟩⟩
   rw [hh,List.append_nil]
   unfold zL
   rw [Zy (.inr (.inr (.inr (.inl rfl)))),List.append_nil]
   exact List.Perm.refl _
 rw [if_neg p4]
 by_cases p5:x.PC=5
 ·rw [if_pos p5]
  intro S'
  have eo:xA x=[]:=vz (by omega) (by omega) (by omega)
  have hv:=hH x.Obj x.Slot
  dsimp only
  split
  ·rcases zjJ s (wc (x.Slot+1)) with e | e<;>rw [e]
   ·refine .quiet X S' rfl rfl rfl (by rw [eo];exact vz (by show (5:Int)≠3;decide) (by show (5:Int)≠4;decide) (by show (5:Int)≠6;decide)) ?_ (WX.plain (.inl rfl) hc0)
    unfold zL
    rw [XP (.inl p5),XP (.inl rfl)]
   ·refine .quiet X S' rfl rfl rfl (by rw [eo];exact vz (by show (8:Int)≠3;decide) (by show (8:Int)≠4;decide) (by show (8:Int)≠6;decide)) ?_ (WX.plain (.inr (.inr (.inl rfl))) hc0)
    unfold zL
    rw [XP (.inl p5),XP (.inr rfl)]
  ·rename_i hne
   have e0:(Yk 1 (zJ s.H x.Obj x.Slot) w).PC=0:=rfl
   refine .quiet X S' rfl rfl rfl ?_ ?_ ⟨fun _=>hc0,fun e=>absurd e (by show ¬(6:Int)≤3;decide),fun e=>(by cases e),fun e=>(by cases e),fun e=>(by cases e),fun e=>(by cases e),fun _=>⟨GX.plain (.inl rfl) ⟨by show (0:Int)≤0;decide,by show (0:Int)≤7;decide⟩ ⟨by show (1:Int)≤1;decide,by show (1:Int)≤3;decide⟩ ⟨by show 1≤zJ s.H x.Obj x.Slot;omega,hv.2⟩ (fun _ _=>hc0) (.inr ⟨by show (0:Int)≠3;decide,by show (0:Int)≠5;decide,by show (0:Int)≠7;decide⟩),rfl,rfl,rfl⟩⟩
   ·rw [eo,zmy (x:={x with Slot:=wc (x.Slot+1),PC:=6,G:=Yk 1 (zJ s.H x.Obj x.Slot) w}) rfl]
    exact wG (.inr ⟨by show (0:Int)≠6;decide,by show (0:Int)≠7;decide⟩)
   ·unfold zL
    rw [XP (.inl p5),znb (x:={x with Slot:=wc (x.Slot+1),PC:=6,G:=Yk 1 (zJ s.H x.Obj x.Slot) w}) rfl]
    rw [uD (g:=Yk 1 (zJ s.H x.Obj x.Slot) w) (.inr (.inl (by show (0:Int)<3;decide)))]
 rw [if_neg p5]
 by_cases p6:x.PC=6
 ·rw [if_pos p6]
  intro S'
  obtain ⟨G,gm,gw,g0⟩:=K.p6 p6
  obtain ⟨M,h5o,_,hn4⟩:=W.g6 p6
  have eo:xA x=xB x.G:=zmy p6
  have hh:zL s x=x.Batch++x.Obj::yH x.G:=by unfold zL;rw [znb p6]
  rw [eo] at X
  obtain ⟨gh',X',G',Fx,hc',hFb,N,hN,hT⟩:=zr9 hp hk X M h5o G
  have so:=WV s x.G
  have Fx':FX p nb (xA x) (fun v=>v=w) s (zp s x.G).1 gh gh':=by
   rw [eo]
   exact Fx.mono (fun v e=>e.2.trans gw)
  have hcw:gh'.c w=0:=by have:=hc' gm g0;rwa [gw] at this
  dsimp only
  have hT':(N=[]∧([]:List Int)=[]∧(zp s x.G).1.T=s.T)∨(N=[x.G.Obj]∧([]:List Int)=[]∧x.PC=6∧¬(s.T.Marks|||bit x.G.Obj=s.T.Marks)∧(zp s x.G).1.T={s.T with Marks:=s.T.Marks|||bit x.G.Obj})∨(N=[]∧([]:List Int)=[x.Obj]∧x.PC=8∧(zp s x.G).1.T=vq s.T x.Obj):=by
   rcases hT with ⟨a,b⟩ | ⟨a,b,c⟩
   ·exact .inl ⟨a,rfl,b⟩
   ·exact .inr (.inl ⟨a,rfl,p6,b,c⟩)
  have perm: ∀H':List Int,H'=x.Batch++x.Obj::yH (zp s x.G).2→List.Perm (yt p (zp s x.G).1 gh'++H'++[]) (N++(yt p s gh++zL s x)):=by
   intro H' e
   rw [e,hh,List.append_nil]
   have a1:List.Perm (yt p (zp s x.G).1 gh'++(x.Batch++x.Obj::yH (zp s x.G).2)) ((x.Batch++[x.Obj])++(yt p (zp s x.G).1 gh'++yH (zp s x.G).2)):=by
    rw [show x.Batch++x.Obj::yH (zp s x.G).2=(x.Batch++[x.Obj])++yH (zp s x.G).2 by simp]
    exact List.perm_append_comm_assoc _ _ _
   have a2:List.Perm (N++(yt p s gh++(x.Batch++x.Obj::yH x.G))) ((x.Batch++[x.Obj])++(N++(yt p s gh++yH x.G))):=by
    rw [show x.Batch++x.Obj::yH x.G=(x.Batch++[x.Obj])++yH x.G by simp]
    exact (List.Perm.append_left N (List.perm_append_comm_assoc _ _ _)).trans (List.perm_append_comm_assoc _ _ _)
   exact a1.trans ((List.Perm.append_left _ hN).trans a2.symm)
  split
  ·rename_i o1
   have n1:xB (zp s x.G).2=[]:=wG (.inl (by omega))
   have n2:yH (zp s x.G).2=[]:=uD (.inl (by omega))
   rw [n1] at X'
   rcases zjJ s x.Slot with e | e<;>rw [e]
   ·refine ⟨gh',by rw [vz (by show (5:Int)≠3;decide) (by show (5:Int)≠4;decide) (by show (5:Int)≠6;decide)];exact X',WX.plain (.inl rfl) hcw,Fx',N,[],perm _ ?_,hT'⟩
    unfold zL;rw [XP (.inl rfl),n2]
   ·refine ⟨gh',by rw [vz (by show (8:Int)≠3;decide) (by show (8:Int)≠4;decide) (by show (8:Int)≠6;decide)];exact X',WX.plain (.inr (.inr (.inl rfl))) hcw,Fx',N,[],perm _ ?_,hT'⟩
    unfold zL;rw [XP (.inr rfl),n2]
  ·rename_i o1
   have o0:(zp s x.G).2.Out=0:=by have:=G'.o;omega
   refine ⟨gh',by rw [zmy (x:={x with G:=(zp s x.G).2}) p6];exact X',⟨fun _=>hcw,fun e=>by have e:x.PC≤3:=e;omega,fun e=>by have e:x.PC=0:=e;omega,fun e=>by have e:x.PC=1:=e;omega,fun e=>by have e:x.PC=2:=e;omega,fun e=>by have e:x.PC=4:=e;omega,fun _=>⟨G',so.2.2.trans gm,so.2.1.trans gw,o0⟩⟩,Fx',N,[],perm _ ?_,hT'⟩
   unfold zL;rw [znb (x:={x with G:=(zp s x.G).2}) p6]
 rw [if_neg p6]
 have eo:xA x=[]:=vz (by omega) (by omega) (by omega)
 by_cases p7:x.PC=7
 ·rw [if_pos p7]
  intro S'
  dsimp only
  split
  ·rename_i hb
   rw [eB]
   refine .quiet X S' rfl rfl rfl (by rw [eo];exact vz (by show (0:Int)≠3;decide) (by show (0:Int)≠4;decide) (by show (0:Int)≠6;decide)) ?_ (WX.begin hc0 hb)
   unfold zL
   rw [ziJ,Zy (.inr (.inr (.inr (.inl p7))))]
   exact List.Perm.refl _
  ·rename_i o l hb
   refine .quiet X S' rfl rfl rfl (by rw [eo];exact vz (by show (5:Int)≠3;decide) (by show (5:Int)≠4;decide) (by show (5:Int)≠6;decide)) ?_ (WX.plain (.inl rfl) hc0)
   unfold zL
   rw [XP (.inl rfl),Zy (.inr (.inr (.inr (.inl p7)))),hb,List.append_nil]
   exact List.perm_append_comm
 rw [if_neg p7]
 by_cases p8:x.PC=8
 ·rw [if_pos p8]
  intro S'
  refine ⟨gh,by rw [vz (by show (9:Int)≠3;decide) (by show (9:Int)≠4;decide) (by show (9:Int)≠6;decide)];rw [eo] at X;exact X.quiet S' rfl,WX.plain (.inr (.inr (.inr rfl))) hc0,FX.quiet rfl (fun _ _ _=>rfl),[],[x.Obj],?_,.inr (.inr ⟨rfl,rfl,p8,rfl⟩)⟩
  rw [Zm rfl,List.nil_append]
  unfold zL
  rw [XP (.inr p8),Zy (.inr (.inr (.inr (.inr rfl)))),List.append_nil,List.append_assoc]
  exact List.Perm.refl _
 rw [if_neg p8]
 have p9:x.PC=9:=by omega
 rw [if_pos p9]
 intro S'
 refine .quiet X S' rfl rfl rfl (by rw [eo];exact vz (by show (7:Int)≠3;decide) (by show (7:Int)≠4;decide) (by show (7:Int)≠6;decide)) ?_ (WX.plain (.inr (.inl rfl)) hc0)
 unfold zL
 rw [Zy (.inr (.inr (.inr (.inr p9)))),Zy (.inr (.inr (.inr (.inl rfl))))]
theorem zvh (s:za) (w:Int) (x:ze) (h:(zi s w x).2.PC=6):(x.PC=6∧(zi s w x).2.G.Obj=x.G.Obj)∨(x.PC=5∧(zi s w x).2.G.Obj=zJ s.H x.Obj x.Slot):=by
 revert h
 have hon: ∀i,onW s i≠6:=fun i e=>by rcases zjJ s i with h | h<;>omega
 have hlk: ∀y:ze,(Ze s.P w y).PC≠6:=fun y e=>by unfold Ze at e;split at e<;>cases e
 unfold zi
 split
 ·rename_i h0
  dsimp only
  split
  ·exact fun e=>by cases e
  split
  ·exact fun e=>absurd e (hlk _)
  ·exact fun e=>by have e:x.PC=6:=e;omega
 split
 ·dsimp only
  split
  ·exact fun e=>by cases e
  split
  ·exact fun e=>by cases e
  ·exact fun e=>by have e:x.PC=6:=e;omega
 split
 ·exact fun e=>by cases e
 split
 ·dsimp only
  split
  ·exact fun e=>by cases e
  ·exact fun e=>by have e:x.PC=6:=e;omega
 split
 ·rename_i h5
  dsimp only
  split
  ·exact fun e=>absurd e (hon _)
  ·exact fun _=> .inr ⟨h5,rfl⟩
 split
 ·rename_i h6
  dsimp only
  split
  ·exact fun e=>absurd e (hon _)
  ·exact fun _=> .inl ⟨h6,(WV s x.G).1⟩
 split
 ·dsimp only
  split
  ·exact fun e=>by cases e
  ·exact fun e=>by cases e
 split
 ·exact fun e=>by cases e
 split
 ·exact fun e=>by cases e
 ·exact fun e=> .inl ⟨e,rfl⟩
end
end Go.Pe.G
