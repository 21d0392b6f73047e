/- Own work of this seat: PA, PB, PMk, PMade17, PRight, PNew, PInv, PNewOk, PSmall, PSame, PGo, PDq, PWork, PMut, PEng, PLowEq, PMutEq, PDetEq, PWorkEq, PFrame, PDq2, PChain, PStrong, PGstep. -/
import Derived.Test.YthmdgkhilfpgfaaGreatDoorDDGb
set_option linter.unusedVariables false
set_option linter.unusedSimpArgs false
set_option linter.unnecessarySimpa false
set_option linter.unusedSectionVars false
set_option linter.deprecated false
set_option maxRecDepth 20000
namespace Go.Pe.G
open Go.Pe
noncomputable section
theorem Zi {A B D:Type} {f:A→Option (xr A B D)} (Inv:A→Prop) (ms:A→Nat) (Q:xr Unit B D→Prop)
  (h: ∀a,Inv a→∃o,f a=some o∧match o with
   | .again a'=>Inv a'∧ms a'<ms a
   | .brk b=>Q (.brk b)
   | .ret c=>Q (.ret c)): ∀a,Inv a→ms a<YC→∃o,yH f a=some o∧Q o:=by
 have key: ∀(n:Nat) a,Inv a→ms a<n→∃o,wJ f n a=some o∧Q o:=by
  intro n
  induction n with
  | zero=>intro a _ h;omega
  | succ n ih =>
   intro a ha hm
   obtain ⟨o,ho,hq⟩:=h a ha
   simp only [wJ,ho,Option.bind_some]
   cases o with
   | again a'=>exact ih a' hq.1 (by have:=hq.2;omega)
   | brk b=>exact ⟨_,rfl,hq⟩
   | ret c=>exact ⟨_,rfl,hq⟩
 intro a ha hm
 rw [UP]
 exact key YC a ha hm
theorem vC {n:Nat} (h:n<18446744073709551616):n<YC:=h
theorem z9 {a:Int} (h: -9223372036854775808≤a) (h2:a<9223372036854775808):w64 a=a:=by
 rw [zpm];omega
def wc (n:Int):Int:=(n+9223372036854775808)%18446744073709551616-9223372036854775808
theorem xu:w64=wc:=funext zpm
theorem xg {a:Int} (h: -9223372036854775808≤a) (h2:a<9223372036854775808):wc a=a:=by unfold wc;omega
theorem zw {α:Type} (p:Prop) [Decidable p] (a b:α):(bif decide p then a else b)=if p then a else b:=by
 by_cases h:p<;>simp [h]
theorem yw {α:Type} (p:Prop) [Decidable p] (a b:α):(bif !(decide p) then a else b)=if p then b else a:=by
 by_cases h:p<;>simp [h]
theorem wT {α:Type} {l:List α} (h:l.length<4294967296):wO l=some l:=by
 rw [zu1];simp [h]
theorem vn {α:Type} {l:List α} {i:Int} (h:0≤i):idx l i=l[i.toNat]? :=by
 unfold idx;simp [h]
theorem uA {α:Type} {l:List α} {i:Int} (h:0≤i) (h2:i<l.length):xM l i=some i.toNat:=by
 unfold xM;simp [h,h2]
def bit (o:Int):BitVec 64:=if 1≤o∧o≤64 then 1#64 <<< (o-1).toNat else 0#64
theorem zxq (a:Int):zkJ a=some (bit a,()):=by
 rw [zvm]
 simp only [zw]
 unfold bit
 by_cases h1:a<1
 ·rw [if_pos h1,if_neg (by omega)]
 ·rw [if_neg h1]
  by_cases h2:64<a
  ·rw [if_pos h2,if_neg (by omega)]
  ·rw [if_neg h2,z9 (a:=a-1) (by omega) (by omega),if_neg (show ¬a-1<0 by omega),if_pos (show 1≤a∧a≤64 by omega),Nat.min_eq_left (by omega)]
theorem zpg (s:BitVec 64) (o:Int):zdd s o=some (!(decide (s&&&bit o=0#64)),()):=by
 rw [zvz,zxq];rfl
theorem zmc (s:BitVec 64) (o:Int):za4 s o=some (s|||bit o,()):=by
 rw [zvY,zxq];rfl
def vk (t:zt) (o:Int):zt×Bool :=
 if t.Marks|||bit o=t.Marks then (t,false) else if t.Black&&&bit o=0#64 then ({t with Marks:=t.Marks|||bit o},true) else (t,false)
theorem zrk (t:zt) (o:Int):zdV t o=some ((vk t o).1,(vk t o).2,()):=by
 rw [zsg,zmc,Option.bind_some,zw]
 unfold vk
 by_cases h1:t.Marks|||bit o=t.Marks
 ·rw [if_pos h1,if_pos h1]
 ·rw [if_neg h1,if_neg h1,zpg,Option.bind_some,yw]
  by_cases h2:t.Black&&&bit o=0#64
  ·rw [if_pos h2,if_pos h2]
  ·rw [if_neg h2,if_neg h2]
theorem ztK {m:List (BitVec 64)} (h:m.length<4294967296):xI m=some (m,()):=by
 rw [zcR,List.nil_append,wT h,Option.bind_some]
 cases m with
 | nil=>simp [zgo]
 | cons a l=>simp
theorem zh0 {m:List (List Int)} (h:m.length<4294967296):wS m=some (m,()):=by
 rw [zeY,List.nil_append,wT h,Option.bind_some]
 cases m with
 | nil=>simp [zgo]
 | cons a l=>simp
def ld (m:List (BitVec 64)) (a:Int):BitVec 64:=if 0≤a then m.getD a.toNat 0#64 else 0#64
def st (m:List (BitVec 64)) (a:Int) (v:BitVec 64):List (BitVec 64):=if 0≤a then m.set a.toNat v else m
def sw (m:List (BitVec 64)) (at_:Int) (a b:BitVec 64):List (BitVec 64)×Bool :=
 if 0≤at_∧at_<m.length∧ld m at_=a then (st m at_ b,true) else (m,false)
theorem zuX {m:List (BitVec 64)} {a:Int} (h:0≤a) (h2:a<m.length):m[a.toNat]? =some (ld m a):=by
 unfold ld
 rw [if_pos h,List.getD_eq_getElem?_getD,List.getElem?_eq_getElem (by omega)];rfl
theorem zxw {m:List (BitVec 64)} {a:Int}:st m a (ld m a)=m:=by
 unfold st ld
 by_cases h:0≤a
 ·rw [if_pos h,if_pos h]
  by_cases h2:a.toNat<m.length
  ·rw [List.getD_eq_getElem?_getD,List.getElem?_eq_getElem h2];simp
  ·rw [List.set_eq_of_length_le (by omega)]
 ·rw [if_neg h]
theorem zzO {m:List (BitVec 64)} {a:Int} (h:a<0∨m.length≤a):ld m a=0#64:=by
 unfold ld
 rcases h with h | h
 ·rw [if_neg (by omega)]
 ·split
  ·rw [List.getD_eq_getElem?_getD,List.getElem?_eq_none (by omega)];rfl
  ·rfl
theorem zze {m:List (BitVec 64)} {a:Int} {v:BitVec 64} (h:a<0∨m.length≤a):st m a v=m:=by
 unfold st
 rcases h with h | h
 ·rw [if_neg (by omega)]
 ·split
  ·rw [List.set_eq_of_length_le (by omega)]
  ·rfl
theorem zxj (m:List (BitVec 64)) (a:Int) (x y:BitVec 64): ∃b,Wi m ⟨1,a,x,y⟩=some (m,ld m a,b,()):=by
 rw [zk2]
 simp only [zw,if_true]
 by_cases h1:a<0
 ·rw [if_pos h1,zzO (.inl h1)];exact ⟨_,rfl⟩
 ·rw [if_neg h1]
  by_cases h2:(m.length:Int)≤a
  ·rw [if_pos h2,zzO (.inr h2)];exact ⟨_,rfl⟩
  ·rw [if_neg h2,vn (by omega),zuX (by omega) (by omega),Option.bind_some,zut,Option.bind_some]
   simp
theorem zuZ {m:List (BitVec 64)} (hm:m.length<4294967296) (a:Int) (x y:BitVec 64): ∃v b,Wi m ⟨2,a,x,y⟩=some (st m a x,v,b,()):=by
 rw [zk2]
 simp only [zw,if_true,if_neg (show ¬(2:Int)=1 by omega)]
 by_cases h1:a<0
 ·rw [if_pos h1,zze (.inl h1)];exact ⟨_,_,rfl⟩
 ·rw [if_neg h1]
  by_cases h2:(m.length:Int)≤a
  ·rw [if_pos h2,zze (.inr h2)];exact ⟨_,_,rfl⟩
  ·rw [if_neg h2,vn (by omega),zuX (by omega) (by omega),Option.bind_some,zuB,Option.bind_some,cond_true,yw]
   by_cases h3:ld m a=x
   ·rw [if_pos h3]
    subst h3
    rw [zxw];exact ⟨_,_,rfl⟩
   ·rw [if_neg h3,ztK hm,Option.bind_some,uA (l:=m) (by omega) (by omega),Option.bind_some]
    unfold st
    rw [if_pos (by omega)]
    exact ⟨_,_,rfl⟩
theorem ztB {m:List (BitVec 64)} (hm:m.length<4294967296) (a:Int) (x y:BitVec 64): ∃v,Wi m ⟨3,a,x,y⟩=some ((sw m a x y).1,v,(sw m a x y).2,()):=by
 rw [zk2]
 simp only [zw,if_true,if_neg (show ¬(3:Int)=1 by omega),if_neg (show ¬(3:Int)=2 by omega)]
 by_cases h1:a<0
 ·rw [if_pos h1]
  have:sw m a x y=(m,false):=by unfold sw;rw [if_neg (by omega)]
  rw [this];exact ⟨_,rfl⟩
 ·rw [if_neg h1]
  by_cases h2:(m.length:Int)≤a
  ·rw [if_pos h2]
   have:sw m a x y=(m,false):=by unfold sw;rw [if_neg (by omega)]
   rw [this];exact ⟨_,rfl⟩
  ·rw [if_neg h2,vn (by omega),zuX (by omega) (by omega),Option.bind_some,zul,Option.bind_some]
   simp only [zw]
   by_cases h3:ld m a=x
   ·have:sw m a x y=(st m a y,true):=by unfold sw;rw [if_pos ⟨by omega,by omega,h3⟩]
    rw [if_pos h3,this,yw]
    by_cases h4:ld m a=y
    ·rw [if_pos h4]
     have:st m a y=m:=by rw [←h4,zxw]
     rw [this]
     simp [h3]
    ·rw [if_neg h4,ztK hm,Option.bind_some,uA (l:=m) (by omega) (by omega),Option.bind_some]
     unfold st
     rw [if_pos (by omega)]
     simp [h3]
   ·have:sw m a x y=(m,false):=by unfold sw;rw [if_neg (by rintro ⟨_,_,h⟩;exact h3 h)]
    rw [if_neg h3,this]
    simp [h3]
theorem zsc (m:List (BitVec 64)) (a:Int):zd4 m a=some (ld m a,()):=by
 obtain ⟨b,h⟩:=zxj m a 0#64 0#64
 rw [zrO,h];rfl
theorem zca {m:List (BitVec 64)} (hm:m.length<4294967296) (a:Int) (x:BitVec 64):Y8 m a x=some (st m a x,()):=by
 obtain ⟨v,b,h⟩:=zuZ hm a x 0#64
 rw [zqI,h];rfl
theorem W9 (m:List (BitVec 64)) (a:Int):ZM m a=some (ld m a,()):=by
 obtain ⟨b,h⟩:=zxj m a 0#64 0#64
 rw [zsy,h];rfl
theorem zcg {m:List (BitVec 64)} (hm:m.length<4294967296) (a:Int) (x:BitVec 64):Xh m a x=some (st m a x,()):=by
 obtain ⟨v,b,h⟩:=zuZ hm a x 0#64
 rw [zqG,h];rfl
def yx (h:BitVec 64):Int:=(h&&&4294967295#64).toInt
def xj (v:BitVec 64) (n:Int):BitVec 64:=(v <<< 32)|||(BitVec.ofInt 64 n&&&4294967295#64)
theorem zh6 (h:BitVec 64):Wv h=some (yx h,()):=zsm h
theorem zil (v:BitVec 64) (n:Int):V9 v n=some (xj v n,()):=zrC v n
def zm (m:List (BitVec 64)) (c:zH):List (BitVec 64)×zH :=
 if c.Out≠0∨(c.Kind≠1∧c.Kind≠2)∨c.PC<0∨3≤c.PC then (m,c)
 else if c.PC=0 then
  (m,if c.Kind=2∧yx (ld m c.Head)=0 then {c with H:=ld m c.Head,Out:=2,PC:=1} else {c with H:=ld m c.Head,PC:=1})
 else if c.PC=1 then
  if c.Kind=2 then (m,{c with Y:=(ld m (wc (c.Next+yx c.H))).toInt,PC:=2})
  else (st m (wc (c.Next+c.X)) (BitVec.ofInt 64 (yx c.H)),{c with PC:=2})
 else
  let r:=sw m c.Head c.H (xj ((c.H >>> 32)+1#64) (if c.Kind=2 then c.Y else c.X))
  (r.1,if r.2 then (if c.Kind=2 then {c with X:=yx c.H,Out:=1,PC:=3} else {c with Out:=1,PC:=3}) else {c with PC:=0})
theorem zdW {m:List (BitVec 64)} (hm:m.length<4294967296) (c:zH):Wa m c=some ((zm m c).1,(zm m c).2,()):=by
 have hsee:vV m c=some (m,(if c.Kind=2∧yx (ld m c.Head)=0 then {c with H:=ld m c.Head,Out:=2} else {c with H:=ld m c.Head}),()):=by
  rw [zhR,zsc,Option.bind_some,zh6,Option.bind_some,zw,zw]
  by_cases h1:c.Kind=2
  ·by_cases h2:yx (ld m c.Head)=0
   ·rw [if_pos h1,if_pos h2,if_pos ⟨h1,h2⟩]
   ·rw [if_pos h1,if_neg h2,if_neg (fun h=>h2 h.2)]
  ·rw [if_neg h1,if_neg (fun h=>h1 h.1)]
 have hlink:XE m c=some (st m (wc (c.Next+c.X)) (BitVec.ofInt 64 (yx c.H)),()):=by
  rw [zkl,xu,zh6,Option.bind_some,zca hm];rfl
 have hbeh:Zz m c=some (m,{c with Y:=(ld m (wc (c.Next+yx c.H))).toInt},()):=by
  rw [zfp,xu,zh6,Option.bind_some,zsc];rfl
 have hswap:vv m c=some ((sw m c.Head c.H (xj ((c.H >>> 32)+1#64) (if c.Kind=2 then c.Y else c.X))).1,
   (if (sw m c.Head c.H (xj ((c.H >>> 32)+1#64) (if c.Kind=2 then c.Y else c.X))).2 then (if c.Kind=2 then {c with X:=yx c.H,Out:=1} else {c with Out:=1}) else {c with PC:= -1}),()):=by
  rw [zgW,zw]
  by_cases h1:c.Kind=2
  ·rw [if_pos h1,zil,Option.bind_some]
   obtain ⟨v,hv⟩:=ztB hm c.Head c.H (xj ((c.H >>> 32)+1#64) c.Y)
   simp only [if_pos h1]
   rw [hv,Option.bind_some]
   cases hs:(sw m c.Head c.H (xj ((c.H >>> 32)+1#64) c.Y)).2 with
   | true=>simp [hs,h1,zh6]
   | false=>simp [hs]
  ·rw [if_neg h1,zil,Option.bind_some]
   obtain ⟨v,hv⟩:=ztB hm c.Head c.H (xj ((c.H >>> 32)+1#64) c.X)
   simp only [if_neg h1]
   rw [hv,Option.bind_some]
   cases hs:(sw m c.Head c.H (xj ((c.H >>> 32)+1#64) c.X)).2 with
   | true=>simp [hs,h1]
   | false=>simp [hs]
 rw [zrD,hsee,hlink,hbeh,hswap]
 simp only [zw,yw,Option.bind_some]
 unfold zm
 by_cases h0:c.Out=0
 ·by_cases hp0:c.PC<0
  ·have:(c.Out≠0∨(c.Kind≠1∧c.Kind≠2)∨c.PC<0∨3≤c.PC):= .inr (.inr (.inl hp0))
   rw [if_pos this]
   simp [h0,hp0]
  ·by_cases hp3:3≤c.PC
   ·have:(c.Out≠0∨(c.Kind≠1∧c.Kind≠2)∨c.PC<0∨3≤c.PC):= .inr (.inr (.inr hp3))
    rw [if_pos this]
    simp [h0,hp3]
   ·by_cases hk:c.Kind=1∨c.Kind=2
    ·have: ¬(c.Out≠0∨(c.Kind≠1∧c.Kind≠2)∨c.PC<0∨3≤c.PC):=by
      rintro (h | h | h | h)
      ·exact h h0
      ·omega
      ·exact hp0 h
      ·exact hp3 h
     rw [if_neg this]
     have hpc:c.PC=0∨c.PC=1∨c.PC=2:=by omega
     have w1:w64 1=1:=z9 (by omega) (by omega)
     have w2:w64 2=2:=z9 (by omega) (by omega)
     have w3:w64 3=3:=z9 (by omega) (by omega)
     have w4:w64 0=0:=z9 (by omega) (by omega)
     rcases hk with hk | hk<;>rcases hpc with hpc | hpc | hpc<;>simp [h0,hk,hpc,w1,w2,w3,w4]<;>(try split)<;>simp [hpc,w1,w3,w4]
    ·have:(c.Out≠0∨(c.Kind≠1∧c.Kind≠2)∨c.PC<0∨3≤c.PC):= .inr (.inl (by omega))
     rw [if_pos this]
     have k1: ¬c.Kind=1:=by omega
     have k2: ¬c.Kind=2:=by omega
     simp [h0,k1,k2]
 ·have:(c.Out≠0∨(c.Kind≠1∧c.Kind≠2)∨c.PC<0∨3≤c.PC):= .inl h0
  rw [if_pos this]
  simp [h0]
end
end Go.Pe.G
namespace Go.Pe.G
open Go.Pe
noncomputable section
def VW (d:zh):BitVec 64:=BitVec.ofInt 64 (if d.Cap<1 then 1 else d.Cap)
def VY (d:zh) (i:BitVec 64):Int:=wc (wc (d.Base+2)+(i%VW d).toInt)
def yW (m:List (BitVec 64)) (d:zh):List (BitVec 64)×zh :=
 if d.Out≠0∨d.PC<0∨4≤d.PC then (m,d)
 else if d.PC=0 then (m,{d with B:=ld m (wc (d.Base+1)),PC:=1})
 else if d.PC=1 then (m,if VW d≤d.B-ld m d.Base then {d with T:=ld m d.Base,Out:=3,PC:=2} else {d with T:=ld m d.Base,PC:=2})
 else if d.PC=2 then (st m (VY d d.B) (BitVec.ofInt 64 d.X),{d with PC:=3})
 else (st m (wc (d.Base+1)) (d.B+1#64),{d with Out:=1,PC:=4})
theorem zuW:w64 0=0∧w64 1=1∧w64 2=2∧w64 3=3∧w64 4=4:=by
 refine ⟨?_,?_,?_,?_,?_⟩<;>exact z9 (by omega) (by omega)
theorem zzn {d:zh} (h:d.Cap<1000):VW d≠0#64:=by
 unfold VW
 intro e
 have:=congrArg BitVec.toNat e
 rw [BitVec.toNat_ofInt] at this
 split at this<;>simp at this<;>omega
theorem zsr (d:zh):XJ d=some (VW d,()):=by
 rw [zjU];unfold VW;rw [zw]
theorem zlg {d:zh} (h:d.Cap<1000) (i:BitVec 64):Zm i d=some (VY d i,()):=by
 rw [zi5,xu,zsr,Option.bind_some,zw,if_neg (zzn h)];rfl
theorem zkE {m:List (BitVec 64)} (hm:m.length<4294967296) {d:zh} (hk:d.Kind=1) (hc:d.Cap<1000):zbk m d=some ((yW m d).1,(yW m d).2,()):=by
 obtain ⟨w0,w1,w2,w3,w4⟩:=zuW
 have h0:vd m d=some (m,{d with B:=ld m (wc (d.Base+1))},()):=by
  rw [WF,xP,xu,Option.bind_some,W9];rfl
 have h1:WQ m d=some (m,(if VW d≤d.B-ld m d.Base then {d with T:=ld m d.Base,Out:=3} else {d with T:=ld m d.Base}),()):=by
  rw [zgT,Yx,Option.bind_some,W9,Option.bind_some,zsr,Option.bind_some,zw]
  have e:VW {d with T:=ld m d.Base}=VW d:=rfl
  simp only [e]
  by_cases h:VW d≤d.B-ld m d.Base
  ·rw [if_pos h,if_pos h,wR]
   simp [hk]
  ·rw [if_neg h,if_neg h]
 have h2:zav m d=some (st m (VY d d.B) (BitVec.ofInt 64 d.X),()):=by
  rw [zlH,zlg hc,Option.bind_some,zcg hm];rfl
 have h3:Xg m d=some (st m (wc (d.Base+1)) (d.B+1#64),{d with Out:=1},()):=by
  rw [zey,wR]
  simp only [decide_true,Bool.not_true,cond_false,Option.bind_some,xP,xu]
  rw [zcg hm];rfl
 rw [zkO,h0,h1,h2,h3,zht]
 simp only [hk,decide_true,cond_true,Option.bind_some,yw,zw]
 have key: ∀(x:Option (List (BitVec 64)×zh×Unit)) (v:List (BitVec 64)×zh×Unit) (y:Option (List (BitVec 64)×zh×Unit)),x=some v→Option.or x y=some v:=by
  rintro _ v y rfl;rfl
 apply key
 unfold yW
 by_cases g0:d.Out=0
 ·by_cases g1:d.PC<0
  ·simp [g0,g1]
  ·by_cases g2:4≤d.PC
   ·simp [g0,g2]
   ·have hpc:d.PC=0∨d.PC=1∨d.PC=2∨d.PC=3:=by omega
    rcases hpc with h | h | h | h<;>simp [g0,h,hk,w1,w2,w3,w4]<;>(try split)<;>simp [h,hk,w2]
 ·simp [g0]
def yh (p:zb):Int:=wc (p.Workers*wc (p.Cap+2))
def zI (p:zb):Int:=wc (yh p+1)
def zW (p:zb) (w:Int):Int:=wc (wc (w-1)*wc (p.Cap+2))
theorem zdI (p:zb):Wb p=some (yh p,()):=by rw [zrj,xu];rfl
theorem zb8 (p:zb):Xi p=some (zI p,()):=by rw [zqM,xu,zdI];rfl
theorem zbC (p:zb):YB p=some (zI p,()):=by rw [zsa,zb8];rfl
theorem zf6 (p:zb) (w:Int):zaf p w=some (zW p w,()):=by rw [zq2,xu];rfl
def zdH (p:zb) (g:zC):zC:={g with PC:=5,C:=⟨2,0,zI p,zI p,0#64,0,0,0⟩}
theorem zmY (a:zJ):uf a=some (⟨zdH a.s.P a.Grey,a.s⟩,()):=by
 rw [ziZ,zb8,Option.bind_some,zbC,Option.bind_some,Wj];rfl
def zh1 (s:za) (g:zC):za×zC :=
 let t:=vk s.T g.Obj
 ({s with T:=t.1},
  if t.2=false then {g with PC:=2}
  else if g.Mode=1 then {g with PC:=3,D:=⟨1,0,zW s.P g.Who,s.P.Cap,0#64,0#64,g.Obj,0⟩}
  else if g.Mode=2 then {g with PC:=4}
  else zdH s.P g)
def zih (s:za) (g:zC):za×zC :=
 let r:=yW s.M g.D
 ({s with M:=r.1},if r.2.Out=1 then {g with D:=r.2,Out:=1} else if r.2.Out=3 then zdH s.P {g with D:=r.2} else {g with D:=r.2})
def zhV (s:za) (g:zC):za×zC :=
 let r:=zm s.M g.C
 ({s with M:=r.1},if r.2.Out=1 then {g with PC:=6,C:=r.2,Bin:=r.2.X} else if r.2.Out=2 then zdH s.P {g with C:=r.2} else {g with C:=r.2})
def zuK (s:za) (g:zC):za×zC :=
 ({s with Bins:=s.Bins.set g.Bin.toNat [g.Obj]},{g with PC:=7,C:=⟨1,0,yh s.P,zI s.P,0#64,g.Bin,0,0⟩})
def za9 (s:za) (g:zC):za×zC :=
 let r:=zm s.M g.C
 ({s with M:=r.1},if r.2.Out=1 then {g with C:=r.2,Out:=1} else {g with C:=r.2})
def zo (s:za) (g:zC):za×zC :=
 if g.Out≠0∨g.Mode<1∨3<g.Mode∨g.PC<0∨8≤g.PC then (s,g)
 else if g.PC=7 then za9 s g
 else if g.PC=6 then zuK s g
 else if g.PC=5 then zhV s g
 else if g.PC=4 then ({s with Flag:=true},zdH s.P g)
 else if g.PC=3 then zih s g
 else if g.PC=2 then ({s with Work:=wc (s.Work-1)},{g with Out:=1})
 else if g.PC=1 then zh1 s g
 else ({s with Work:=wc (s.Work+1)},{g with PC:=1})
structure GOk (s:za) (g:zC):Prop where
 mem:s.M.length<4294967296
 bins:s.Bins.length<4294967296
 bin:g.PC=6→0≤g.Bin∧g.Bin<s.Bins.length
 deq:g.PC=3→g.D.Kind=1∧g.D.Cap<1000
theorem zui {s:za} {g:zC} (ok:GOk s g):zcu s g=some ((zo s g).1,(zo s g).2,()):=by
 rw [zs4]
 simp only [zw,yw]
 unfold zo
 by_cases h0:g.Out=0
 rotate_left
 ·rw [if_neg h0,if_pos (.inl h0)]
 rw [if_pos h0]
 by_cases h1:g.Mode<1
 ·rw [if_pos h1,if_pos (.inr (.inl h1))]
 rw [if_neg h1]
 by_cases h2:3<g.Mode
 ·rw [if_pos h2,if_pos (.inr (.inr (.inl h2)))]
 rw [if_neg h2]
 by_cases h3:g.PC<0
 ·rw [if_pos h3,if_pos (.inr (.inr (.inr (.inl h3))))]
 rw [if_neg h3]
 by_cases h4:8≤g.PC
 ·rw [if_pos h4,if_pos (.inr (.inr (.inr (.inr h4))))]
 rw [if_neg h4,if_neg (show ¬(g.Out≠0∨g.Mode<1∨3<g.Mode∨g.PC<0∨8≤g.PC) by omega)]
 by_cases p7:g.PC=7
 ·rw [if_pos p7,if_pos p7,zfb]
  simp only [zdW ok.mem,Option.bind_some,zw]
  by_cases e:(zm s.M g.C).2.Out=1<;>simp [za9,e]
 rw [if_neg p7,if_neg p7]
 by_cases p6:g.PC=6
 ·rw [if_pos p6,if_pos p6,zh7]
  obtain ⟨b1,b2⟩:=ok.bin p6
  simp only [zh0 ok.bins,Option.bind_some,uA (l:=s.Bins) b1 b2,zdI,zbC,Wj]
  rfl
 rw [if_neg p6,if_neg p6]
 by_cases p5:g.PC=5
 ·rw [if_pos p5,if_pos p5,zid]
  simp only [zdW ok.mem,Option.bind_some,zw,zmY]
  by_cases e:(zm s.M g.C).2.Out=1
  ·simp [zhV,e]
  ·by_cases e2:(zm s.M g.C).2.Out=2<;>simp [zhV,e,e2]
 rw [if_neg p5,if_neg p5]
 by_cases p4:g.PC=4
 ·rw [if_pos p4,if_pos p4,zic,zmY];rfl
 rw [if_neg p4,if_neg p4]
 by_cases p3:g.PC=3
 ·rw [if_pos p3,if_pos p3,zim]
  obtain ⟨b1,b2⟩:=ok.deq p3
  simp only [zkE ok.mem b1 b2,Option.bind_some,zw,zmY]
  by_cases e:(yW s.M g.D).2.Out=1
  ·simp [zih,e]
  ·by_cases e2:(yW s.M g.D).2.Out=3<;>simp [zih,e,e2]
 rw [if_neg p3,if_neg p3]
 by_cases p2:g.PC=2
 ·rw [if_pos p2,if_pos p2,zhO,xu];rfl
 rw [if_neg p2,if_neg p2]
 by_cases p1:g.PC=1
 ·rw [if_pos p1,if_pos p1,zhH]
  simp only [zrk,Option.bind_some,zw,zmY,zf6,U5]
  unfold zh1
  cases hs:(vk s.T g.Obj).2 with
  | false=>simp [hs]
  | true =>
   by_cases m1:g.Mode=1
   ·simp [hs,m1]
   ·by_cases m2:g.Mode=2<;>simp [hs,m1,m2]
 rw [if_neg p1,if_neg p1,if_pos (show g.PC=0 by omega),zfu,xu];rfl
end
end Go.Pe.G
namespace Go.Pe.G
open Go.Pe
noncomputable section
theorem vX {b k:Int} (h:0≤b) (hk:0<k):0≤b.tmod k∧b.tmod k<k:=by
 rw [Int.tmod_eq_emod_of_nonneg h];exact ⟨Int.emod_nonneg _ (by omega),Int.emod_lt_of_pos _ hk⟩
def zja (o:zk) (regs slots:Int):Prop:=(0≤o.R∧o.R<regs) ∧
 ((o.Kind=1∨o.Kind=2)∧(0≤o.A∧o.A<regs)∧(0≤o.S∧o.S<slots)∨o.Kind=4∧(0≤o.A∧o.A<regs)∧o.S=0∨(o.Kind=3∨o.Kind=5)∧o.A=0∧o.S=0)
structure zA (p:zb):Prop where
 wk:1≤p.Workers∧p.Workers≤3
 mt:0≤p.Mutators∧p.Mutators≤2
 cap:1≤p.Cap∧p.Cap≤3
 buf:1≤p.Buf∧p.Buf≤2
 bin:1≤p.Bin∧p.Bin≤3
 price:0≤p.Price∧p.Price≤3
 limit:0≤p.Limit∧p.Limit≤3
 slots:1≤p.H.Slots∧p.H.Slots≤2
 n:1≤(p.H.Objs.length:Int)∧(p.H.Objs.length:Int)≤6
 objs: ∀o∈p.H.Objs,(o.length:Int)=p.H.Slots∧∀v∈o,0≤v∧v≤(p.H.Objs.length:Int)
 most:(p.H.Objs.length:Int)≤p.Most∧p.Most≤(p.H.Objs.length:Int)+3
 roots: ∃r,0≤r∧r≤(p.H.Objs.length:Int)∧p.Roots=bit r
 regs:(p.Regs.length:Int)=p.Mutators
 progs:(p.Progs.length:Int)=p.Mutators
 reg: ∀r∈p.Regs,(1≤(r.length:Int)∧(r.length:Int)≤3)∧∀v∈r,0≤v∧v≤(p.H.Objs.length:Int)
 prog: ∀(k:Nat) r ops,p.Regs[k]? =some r→p.Progs[k]? =some ops→(ops.length:Int)≤7∧∀o∈ops,zja o (r.length:Int) p.H.Slots
 picks:p.Picks=[]
end
end Go.Pe.G
namespace Go.Pe.G
open Go.Pe
noncomputable section
namespace B17
def WL (m:zL):Prop:=0≤m.At∧m.At≤m.L.length∧m.L.length≤90
theorem uC {m:zL} (h:WL m): ∃b m',zE m=some (b,m',())∧(0≤b∧b<256)∧WL m':=by
 obtain ⟨h1,h2,h3⟩:=h
 rw [zeB,zw]
 by_cases h:(m.L.length:Int)≤m.At
 ·rw [if_pos h];exact ⟨_,_,rfl,by omega,h1,h2,h3⟩
 ·rw [if_neg h,z9 (a:=m.At+1) (by omega) (by omega),z9 (by omega) (by omega),vn (by omega),List.getElem?_eq_getElem (by omega),Option.bind_some]
  exact ⟨_,_,rfl,by have:=(m.L[(m.At+1-1).toNat]'(by omega)).isLt;omega,show 0≤m.At+1 by omega,show m.At+1≤m.L.length by omega,h3⟩
theorem zC1 {m:zL} (h:WL m) {regs slots:Int} (hr:1≤regs) (hs:1≤slots): ∃o m',X2 regs slots m=some (o,m',())∧zja o regs slots∧WL m':=by
 obtain ⟨b1,m1,e1,r1,k1⟩:=uC h
 obtain ⟨b2,m2,e2,r2,k2⟩:=uC k1
 obtain ⟨b3,m3,e3,r3,k3⟩:=uC k2
 obtain ⟨b4,m4,e4,r4,k4⟩:=uC k3
 have t1:=vX r1.1 (show (0:Int)<8 by omega)
 have t2:=vX r2.1 (show (0:Int)<regs by omega)
 have t3:=vX r3.1 (show (0:Int)<regs by omega)
 have t4:=vX r4.1 (show (0:Int)<slots by omega)
 have t5:=vX r3.1 (show (0:Int)<slots by omega)
 have hn: ¬regs=0:=by omega
 have hn2: ¬slots=0:=by omega
 rw [zgd,e1,Option.bind_some,uA t1.1 (by simpa using t1.2),Option.bind_some]
 have hx:b1.tmod 8=0∨b1.tmod 8=1∨b1.tmod 8=2∨b1.tmod 8=3∨b1.tmod 8=4∨b1.tmod 8=5∨b1.tmod 8=6∨b1.tmod 8=7:=by omega
 rcases hx with hx | hx | hx | hx | hx | hx | hx | hx<;>simp [hx,e2,e3,e4,hn,hn2]<;>refine ⟨_,_,⟨rfl,rfl⟩,?_,by assumption⟩<;>(unfold zja;dsimp only;omega)
theorem zBd {s1:Int} {s2:Int} {s4:Int} {s5:Int} {s6:Int} {s7:Int} {s8:Int} {s9:Int} {s10:Int} {s11:Int} {s12:Int} {s13:BitVec 64} {s15:Int} {s16:Int} {s17:Int} {s18:Int} {s19:Int} {s20:Int} {s21:Int} {s22:Int} {s23:Int} {s24:BitVec 64} {s26:List (List Int)} {s27:List (List Int)} {s28:List (List zk)} {s29:List zp} {s30:List (List Int)} {s31:List (List Int)} {s32:List (List zk)} {s33:List zp} (hn:1≤s1∧s1≤6) (hs:1≤s23∧s23≤2) {mk:zL} (hm:WL mk) :
  ∃mk' l,yH YS (s1,s2,0,s4,s5,s6,s7,s8,s9,s10,s11,s12,s13,mk,s15,s16,s17,s18,s19,s20,s21,s22,s23,s24,[],s26,s27,s28,s29,s30,s31,s32,s33,())=some (.brk (s1,s2,s4,s5,s6,s7,s8,s9,s10,s11,s12,s13,mk',s15,s16,s17,s18,s19,s20,s21,s22,s23,s24,l,s26,s27,s28,s29,s30,s31,s32,s33,()))∧WL mk'∧(l.length:Int)=s23∧∀v∈l,0≤v∧v≤s1:=by
 refine (Zi (f:=YS)
  (fun a=>∃i mk l,a=(s1,s2,i,s4,s5,s6,s7,s8,s9,s10,s11,s12,s13,mk,s15,s16,s17,s18,s19,s20,s21,s22,s23,s24,l,s26,s27,s28,s29,s30,s31,s32,s33,())∧WL mk∧(0≤i∧i≤s23∧(l.length:Int)=i)∧∀v∈l,0≤v∧v≤s1)
  (fun a=>(s23-a.2.2.1).toNat)
  (fun o=>match o with | .brk b=>∃mk l,b=(s1,s2,s4,s5,s6,s7,s8,s9,s10,s11,s12,s13,mk,s15,s16,s17,s18,s19,s20,s21,s22,s23,s24,l,s26,s27,s28,s29,s30,s31,s32,s33,())∧WL mk∧(l.length:Int)=s23∧∀v∈l,0≤v∧v≤s1 | _=>False) ?_
  (s1,s2,0,s4,s5,s6,s7,s8,s9,s10,s11,s12,s13,mk,s15,s16,s17,s18,s19,s20,s21,s22,s23,s24,[],s26,s27,s28,s29,s30,s31,s32,s33,()) ⟨0,mk,[],rfl,hm,by simp;omega,by simp⟩ (vC (by simp;omega))).elim fun o h=> ?_
 rotate_left
 ·obtain ⟨ho,hq⟩:=h
  cases o with
  | again a=>exact hq.elim
  | ret a=>exact hq.elim
  | brk b =>
   obtain ⟨mk',l,rfl,h1,h2,h3⟩:=hq
   exact ⟨mk',l,ho,h1,h2,h3⟩
 ·rintro _ ⟨i,mk,l,rfl,h1,h2,h3⟩
  rw [ziV,zw]
  by_cases hi:i<s23
  ·rw [if_pos hi]
   obtain ⟨b,mk',e,r,k⟩:=uC h1
   have w1:w64 (s1+1)=s1+1:=z9 (by omega) (by omega)
   have t:=vX r.1 (show 0<s1+1 by omega)
   rw [e,Option.bind_some,w1,zw,if_neg (by omega),wT (by simp;omega),Option.bind_some,z9 (a:=i+1) (by omega) (by omega)]
   refine ⟨_,rfl,⟨i+1,mk',l++[b.tmod (s1+1)],rfl,k,by simp;omega,fun v hv=> ?_⟩,?_⟩
   ·rcases List.mem_append.1 hv with hv | hv
    ·exact h3 v hv
    ·simp at hv;omega
   ·show (s23-(i+1)).toNat<(s23-i).toNat
    omega
  ·rw [if_neg hi]
   exact ⟨_,rfl,mk,l,rfl,h1,by omega,h3⟩
theorem zBH {s1:Int} {s3:Int} {s4:Int} {s5:Int} {s6:Int} {s7:Int} {s8:Int} {s9:Int} {s10:Int} {s11:Int} {s12:BitVec 64} {s14:Int} {s15:Int} {s16:Int} {s17:Int} {s18:Int} {s19:Int} {s20:Int} {s21:Int} {s22:Int} {s23:BitVec 64} {s24:List (List Int)} {s25:List (List Int)} {s26:List (List zk)} {s27:List zp} {s29:List (List Int)} {s30:List (List zk)} {s31:List zp} (hn:1≤s1∧s1≤6) (hs:1≤s22∧s22≤2) {mk:zL} (hm:WL mk) :
  ∃mk' l,yH XI (s1,0,s3,s4,s5,s6,s7,s8,s9,s10,s11,s12,mk,s14,s15,s16,s17,s18,s19,s20,s21,s22,s23,s24,s25,s26,s27,[],s29,s30,s31,())=some (.brk (s1,s3,s4,s5,s6,s7,s8,s9,s10,s11,s12,mk',s14,s15,s16,s17,s18,s19,s20,s21,s22,s23,s24,s25,s26,s27,l,s29,s30,s31,()))∧WL mk'∧(l.length:Int)=s1∧∀o∈l,(o.length:Int)=s22∧∀v∈o,0≤v∧v≤s1:=by
 refine (Zi (f:=XI)
  (fun a=>∃i mk l,a=(s1,i,s3,s4,s5,s6,s7,s8,s9,s10,s11,s12,mk,s14,s15,s16,s17,s18,s19,s20,s21,s22,s23,s24,s25,s26,s27,l,s29,s30,s31,())∧WL mk∧(0≤i∧i≤s1∧(l.length:Int)=i)∧∀o∈l,(o.length:Int)=s22∧∀v∈o,0≤v∧v≤s1)
  (fun a=>(s1-a.2.1).toNat)
  (fun o=>match o with | .brk b=>∃mk l,b=(s1,s3,s4,s5,s6,s7,s8,s9,s10,s11,s12,mk,s14,s15,s16,s17,s18,s19,s20,s21,s22,s23,s24,s25,s26,s27,l,s29,s30,s31,())∧WL mk∧(l.length:Int)=s1∧∀o∈l,(o.length:Int)=s22∧∀v∈o,0≤v∧v≤s1 | _=>False) ?_
  (s1,0,s3,s4,s5,s6,s7,s8,s9,s10,s11,s12,mk,s14,s15,s16,s17,s18,s19,s20,s21,s22,s23,s24,s25,s26,s27,[],s29,s30,s31,()) ⟨0,mk,[],rfl,hm,by simp;omega,by simp⟩ (vC (by simp;omega))).elim fun o h=> ?_
 rotate_left
 ·obtain ⟨ho,hq⟩:=h
  cases o with
  | again a=>exact hq.elim
  | ret a=>exact hq.elim
  | brk b =>
   obtain ⟨mk',l,rfl,h1,h2,h3⟩:=hq
   exact ⟨mk',l,ho,h1,h2,h3⟩
 ·rintro _ ⟨i,mk,l,rfl,h1,h2,h3⟩
  rw [zj2,zw]
  by_cases hi:i<s1
  ·rw [if_pos hi]
   obtain ⟨mk',o,e,g1,g2,g3⟩:=zBd hn hs h1
   rw [e]
   simp only [Option.bind_some]
   rw [wT (by simp;omega),Option.bind_some,z9 (a:=i+1) (by omega) (by omega)]
   refine ⟨_,rfl,⟨i+1,mk',l++[o],rfl,g1,by simp;omega,fun v hv=> ?_⟩,?_⟩
   ·rcases List.mem_append.1 hv with hv | hv
    ·exact h3 v hv
    ·simp at hv;subst hv;exact ⟨g2,g3⟩
   ·show (s1-(i+1)).toNat<(s1-i).toNat
    omega
  ·rw [if_neg hi]
   exact ⟨_,rfl,mk,l,rfl,h1,by omega,h3⟩
theorem zAi {s1:Int} {s2:Int} {s4:Int} {s5:Int} {s6:Int} {s7:Int} {s8:Int} {s9:Int} {s10:Int} {s11:Int} {s12:Int} {s13:BitVec 64} {s15:Int} {s16:Int} {s17:Int} {s18:Int} {s19:Int} {s20:Int} {s21:Int} {s22:Int} {s23:Int} {s24:BitVec 64} {s26:List (List Int)} {s27:List (List Int)} {s28:List (List zk)} {s29:List zp} {s30:List (List Int)} {s31:List (List Int)} {s32:List (List zk)} {s33:List zp} (hn:1≤s1∧s1≤6) {mk:zL} (hm:WL mk) :
  ∃mk' l,yH YZ (s1,s2,0,s4,s5,s6,s7,s8,s9,s10,s11,s12,s13,mk,s15,s16,s17,s18,s19,s20,s21,s22,s23,s24,[],s26,s27,s28,s29,s30,s31,s32,s33,())=some (.brk (s1,s2,s4,s5,s6,s7,s8,s9,s10,s11,s12,s13,mk',s15,s16,s17,s18,s19,s20,s21,s22,s23,s24,l,s26,s27,s28,s29,s30,s31,s32,s33,()))∧WL mk'∧(1≤(l.length:Int)∧(l.length:Int)≤3)∧∀v∈l,0≤v∧v≤s1:=by
 refine (Zi (f:=YZ)
  (fun a=>∃i mk l,a=(s1,s2,i,s4,s5,s6,s7,s8,s9,s10,s11,s12,s13,mk,s15,s16,s17,s18,s19,s20,s21,s22,s23,s24,l,s26,s27,s28,s29,s30,s31,s32,s33,())∧WL mk∧(0≤i∧i≤3∧(l.length:Int)=i)∧∀v∈l,0≤v∧v≤s1)
  (fun a=>(3-a.2.2.1).toNat)
  (fun o=>match o with | .brk b=>∃mk l,b=(s1,s2,s4,s5,s6,s7,s8,s9,s10,s11,s12,s13,mk,s15,s16,s17,s18,s19,s20,s21,s22,s23,s24,l,s26,s27,s28,s29,s30,s31,s32,s33,())∧WL mk∧(1≤(l.length:Int)∧(l.length:Int)≤3)∧∀v∈l,0≤v∧v≤s1 | _=>False) ?_
  (s1,s2,0,s4,s5,s6,s7,s8,s9,s10,s11,s12,s13,mk,s15,s16,s17,s18,s19,s20,s21,s22,s23,s24,[],s26,s27,s28,s29,s30,s31,s32,s33,()) ⟨0,mk,[],rfl,hm,by simp,by simp⟩ (vC (by simp))).elim fun o h=> ?_
 rotate_left
 ·obtain ⟨ho,hq⟩:=h
  cases o with
  | again a=>exact hq.elim
  | ret a=>exact hq.elim
  | brk b =>
   obtain ⟨mk',l,rfl,h1,h2,h3⟩:=hq
   exact ⟨mk',l,ho,h1,h2,h3⟩
 ·rintro _ ⟨i,mk,l,rfl,h1,h2,h3⟩
  obtain ⟨b0,mk0,e0,r0,k0⟩:=uC h1
  have t0:=vX r0.1 (show (0:Int)<3 by omega)
  rw [zjJ,e0,Option.bind_some,zw,z9 (a:=1+b0.tmod 3) (by omega) (by omega)]
  by_cases hi:i<1+b0.tmod 3
  ·rw [if_pos hi]
   obtain ⟨b,mk',e,r,k⟩:=uC k0
   have w1:w64 (s1+1)=s1+1:=z9 (by omega) (by omega)
   have t:=vX r.1 (show 0<s1+1 by omega)
   rw [e,Option.bind_some,w1,zw,if_neg (by omega),wT (by simp;omega),Option.bind_some,z9 (a:=i+1) (by omega) (by omega)]
   refine ⟨_,rfl,⟨i+1,mk',l++[b.tmod (s1+1)],rfl,k,by simp;omega,fun v hv=> ?_⟩,?_⟩
   ·rcases List.mem_append.1 hv with hv | hv
    ·exact h3 v hv
    ·simp at hv;omega
   ·show (3-(i+1)).toNat<(3-i).toNat
    omega
  ·rw [if_neg hi]
   exact ⟨_,rfl,mk0,l,rfl,k0,by omega,h3⟩
theorem zAd {s1:Int} {s2:Int} {s4:Int} {s5:Int} {s6:Int} {s7:Int} {s8:Int} {s9:Int} {s10:Int} {s11:Int} {s12:Int} {s13:BitVec 64} {s15:Int} {s16:Int} {s17:Int} {s18:Int} {s19:Int} {s20:Int} {s21:Int} {s22:Int} {s23:Int} {s24:BitVec 64} {s25:List Int} {s27:List (List Int)} {s28:List (List Int)} {s29:List (List zk)} {s30:List zp} {s31:List (List Int)} {s32:List (List Int)} {s33:List (List zk)} {s34:List zp} (hr:1≤(s25.length:Int)) (hs:1≤s23∧s23≤2) {k0:Int} (hk:0≤k0∧k0<8) {mk:zL} (hm:WL mk) :
  ∃mk' l,yH Zk (s1,s2,k0,s4,s5,s6,s7,s8,s9,s10,s11,s12,s13,mk,s15,s16,s17,s18,s19,s20,s21,s22,s23,s24,s25,[],s27,s28,s29,s30,s31,s32,s33,s34,())=some (.brk (s1,s2,s4,s5,s6,s7,s8,s9,s10,s11,s12,s13,mk',s15,s16,s17,s18,s19,s20,s21,s22,s23,s24,s25,l,s27,s28,s29,s30,s31,s32,s33,s34,()))∧WL mk'∧(l.length:Int)≤7∧∀o∈l,zja o (s25.length:Int) s23:=by
 refine (Zi (f:=Zk)
  (fun a=>∃i mk l,a=(s1,s2,i,s4,s5,s6,s7,s8,s9,s10,s11,s12,s13,mk,s15,s16,s17,s18,s19,s20,s21,s22,s23,s24,s25,l,s27,s28,s29,s30,s31,s32,s33,s34,())∧WL mk∧(0≤i∧(l.length:Int)+i≤7)∧∀o∈l,zja o (s25.length:Int) s23)
  (fun a=>(a.2.2.1).toNat)
  (fun o=>match o with | .brk b=>∃mk l,b=(s1,s2,s4,s5,s6,s7,s8,s9,s10,s11,s12,s13,mk,s15,s16,s17,s18,s19,s20,s21,s22,s23,s24,s25,l,s27,s28,s29,s30,s31,s32,s33,s34,())∧WL mk∧(l.length:Int)≤7∧∀o∈l,zja o (s25.length:Int) s23 | _=>False) ?_
  (s1,s2,k0,s4,s5,s6,s7,s8,s9,s10,s11,s12,s13,mk,s15,s16,s17,s18,s19,s20,s21,s22,s23,s24,s25,[],s27,s28,s29,s30,s31,s32,s33,s34,()) ⟨k0,mk,[],rfl,hm,by simp;omega,by simp⟩ (vC (by simp;omega))).elim fun o h=> ?_
 rotate_left
 ·obtain ⟨ho,hq⟩:=h
  cases o with
  | again a=>exact hq.elim
  | ret a=>exact hq.elim
  | brk b =>
   obtain ⟨mk',l,rfl,h1,h2,h3⟩:=hq
   exact ⟨mk',l,ho,h1,h2,h3⟩
 ·rintro _ ⟨i,mk,l,rfl,h1,h2,h3⟩
  rw [zjE,zw]
  by_cases hi:0<i
  ·rw [if_pos hi]
   obtain ⟨o,mk',e,r,k⟩:=zC1 h1 hr hs.1
   rw [e,Option.bind_some,wT (by simp;omega),Option.bind_some,z9 (a:=i-1) (by omega) (by omega)]
   refine ⟨_,rfl,⟨i-1,mk',l++[o],rfl,k,by simp;omega,fun v hv=> ?_⟩,?_⟩
   ·rcases List.mem_append.1 hv with hv | hv
    ·exact h3 v hv
    ·simp at hv;subst hv;exact r
   ·show (i-1).toNat<i.toNat
    omega
  ·rw [if_neg hi]
   exact ⟨_,rfl,mk,l,rfl,h1,by omega,h3⟩
theorem zAw {s1:Int} {s3:Int} {s4:Int} {s5:Int} {s6:Int} {s7:Int} {s8:Int} {s9:Int} {s10:Int} {s11:Int} {s12:BitVec 64} {s14:Int} {s15:Int} {s16:Int} {s17:Int} {s18:Int} {s19:Int} {s20:Int} {s21:Int} {s22:Int} {s23:BitVec 64} {s24:List (List Int)} {s25:List (List Int)} {s26:List (List zk)} {s27:List zp} {s28:List (List Int)} {s31:List zp} (hn:1≤s1∧s1≤6) (hm0:0≤s15∧s15≤2) (hs:1≤s22∧s22≤2) {mk:zL} (hm:WL mk) :
  ∃regs progs,yH YW (s1,0,s3,s4,s5,s6,s7,s8,s9,s10,s11,s12,mk,s14,s15,s16,s17,s18,s19,s20,s21,s22,s23,s24,s25,s26,s27,s28,[],[],s31,())=some (.brk (s3,s4,s5,s6,s7,s8,s9,s10,s11,s12,s14,s15,s16,s17,s18,s19,s20,s21,s22,s23,s24,s25,s26,s27,s28,regs,progs,s31,()))∧(regs.length:Int)=s15∧(regs.length=progs.length)∧(∀r∈regs,(1≤(r.length:Int)∧(r.length:Int)≤3)∧∀v∈r,0≤v∧v≤s1)∧∀(k:Nat) r ops,regs[k]? =some r→progs[k]? =some ops→(ops.length:Int)≤7∧∀o∈ops,zja o (r.length:Int) s22:=by
 refine (Zi (f:=YW)
  (fun a=>∃i mk regs progs,a=(s1,i,s3,s4,s5,s6,s7,s8,s9,s10,s11,s12,mk,s14,s15,s16,s17,s18,s19,s20,s21,s22,s23,s24,s25,s26,s27,s28,regs,progs,s31,())∧WL mk∧(0≤i∧i≤s15∧(regs.length:Int)=i)∧(regs.length=progs.length)∧(∀r∈regs,(1≤(r.length:Int)∧(r.length:Int)≤3)∧∀v∈r,0≤v∧v≤s1)∧∀(k:Nat) r ops,regs[k]? =some r→progs[k]? =some ops→(ops.length:Int)≤7∧∀o∈ops,zja o (r.length:Int) s22)
  (fun a=>(s15-a.2.1).toNat)
  (fun o=>match o with | .brk b=>∃regs progs,b=(s3,s4,s5,s6,s7,s8,s9,s10,s11,s12,s14,s15,s16,s17,s18,s19,s20,s21,s22,s23,s24,s25,s26,s27,s28,regs,progs,s31,())∧(regs.length:Int)=s15∧(regs.length=progs.length)∧(∀r∈regs,(1≤(r.length:Int)∧(r.length:Int)≤3)∧∀v∈r,0≤v∧v≤s1)∧∀(k:Nat) r ops,regs[k]? =some r→progs[k]? =some ops→(ops.length:Int)≤7∧∀o∈ops,zja o (r.length:Int) s22 | _=>False) ?_
  (s1,0,s3,s4,s5,s6,s7,s8,s9,s10,s11,s12,mk,s14,s15,s16,s17,s18,s19,s20,s21,s22,s23,s24,s25,s26,s27,s28,[],[],s31,()) ⟨0,mk,[],[],rfl,hm,by simp;omega,rfl,by simp,by simp⟩ (vC (by simp;omega))).elim fun o h=> ?_
 rotate_left
 ·obtain ⟨ho,hq⟩:=h
  cases o with
  | again a=>exact hq.elim
  | ret a=>exact hq.elim
  | brk b =>
   obtain ⟨regs,progs,rfl,h⟩:=hq
   exact ⟨regs,progs,ho,h⟩
 ·rintro _ ⟨i,mk,regs,progs,rfl,h1,h2,h3,h4,h5⟩
  rw [zjx,zw]
  by_cases hi:i<s15
  ·rw [if_pos hi]
   obtain ⟨mk1,r,e,g1,g2,g3⟩:=zAi hn h1
   rw [e]
   simp only [Option.bind_some]
   rw [zw,if_neg (by omega)]
   obtain ⟨b,mk2,e2,r2,k2⟩:=uC g1
   rw [e2,Option.bind_some]
   obtain ⟨mk3,ops,e3,f1,f2,f3⟩:=zAd (s25:=r) g2.1 hs (vX r2.1 (show (0:Int)<8 by omega)) k2
   rw [e3]
   simp only [Option.bind_some]
   rw [wT (by simp;omega),Option.bind_some,wT (by simp;omega),Option.bind_some,z9 (a:=i+1) (by omega) (by omega)]
   refine ⟨_,rfl,⟨i+1,mk3,regs++[r],progs++[ops],rfl,f1,by simp;omega,by simp [h3],fun v hv=> ?_,fun k r' ops' hk1 hk2=> ?_⟩,?_⟩
   ·rcases List.mem_append.1 hv with hv | hv
    ·exact h4 v hv
    ·simp at hv;subst hv;exact ⟨g2,g3⟩
   ·rcases Nat.lt_or_ge k regs.length with hlt | hge
    ·rw [List.getElem?_append_left hlt] at hk1
     rw [List.getElem?_append_left (by omega)] at hk2
     exact h5 k r' ops' hk1 hk2
    ·rw [List.getElem?_append_right hge] at hk1
     rw [List.getElem?_append_right (by omega),←h3] at hk2
     have hk0:k-regs.length=0:=by
      have:=(List.getElem?_eq_some_iff.1 hk1).1
      simpa using this
     rw [hk0] at hk1 hk2
     simp at hk1 hk2
     subst hk1;subst hk2
     exact ⟨f2,f3⟩
   ·show (s15-(i+1)).toNat<(s15-i).toNat
    omega
  ·rw [if_neg hi]
   exact ⟨_,rfl,regs,progs,rfl,by omega,h3,h4,h5⟩
theorem zBD (l:List (BitVec 8)): ∃p,zbS l=some (p,())∧zA p:=by
 rw [zng,zw]
 obtain ⟨m,em,hl⟩: ∃m,cut l 0 (if 90<(l.length:Int) then 90 else (l.length:Int))=some m∧m.length≤90:=by
  unfold cut
  by_cases h:90<(l.length:Int)
  ·have h2:(90:Int)≤l.length:=by omega
   rw [if_pos h];exact ⟨l.take 90,by simp [h2],List.length_take_le _ _⟩
  ·rw [if_neg h];exact ⟨l,by simp,by omega⟩
 rw [em,Option.bind_some]
 obtain ⟨b1,m1,e1,r1,k1⟩:=uC (m:=⟨m,0⟩) ⟨by simp,by simp,hl⟩
 obtain ⟨b2,m2,e2,r2,k2⟩:=uC k1
 obtain ⟨b3,m3,e3,r3,k3⟩:=uC k2
 obtain ⟨b4,m4,e4,r4,k4⟩:=uC k3
 obtain ⟨b5,m5,e5,r5,k5⟩:=uC k4
 obtain ⟨b6,m6,e6,r6,k6⟩:=uC k5
 obtain ⟨b7,m7,e7,r7,k7⟩:=uC k6
 obtain ⟨b8,m8,e8,r8,k8⟩:=uC k7
 obtain ⟨b9,m9,e9,r9,k9⟩:=uC k8
 obtain ⟨b10,m10,e10,r10,k10⟩:=uC k9
 simp only [e1,e2,e3,e4,e5,e6,e7,e8,e9,e10,Option.bind_some]
 have t1:=vX r1.1 (show (0:Int)<3 by omega)
 have t2:=vX r2.1 (show (0:Int)<3 by omega)
 have t3:=vX r3.1 (show (0:Int)<3 by omega)
 have t4:=vX r4.1 (show (0:Int)<2 by omega)
 have t5:=vX r5.1 (show (0:Int)<3 by omega)
 have t6:=vX r6.1 (show (0:Int)<4 by omega)
 have t7:=vX r7.1 (show (0:Int)<4 by omega)
 have t8:=vX r8.1 (show (0:Int)<2 by omega)
 have t9:=vX r9.1 (show (0:Int)<6 by omega)
 have t10:=vX r10.1 (show (0:Int)<4 by omega)
 rw [z9 (a:=1+b9.tmod 6) (by omega) (by omega),z9 (a:=1+b1.tmod 3) (by omega) (by omega),z9 (a:=1+b3.tmod 3) (by omega) (by omega),z9 (a:=1+b4.tmod 2) (by omega) (by omega),z9 (a:=1+b5.tmod 3) (by omega) (by omega),
  z9 (a:=1+b9.tmod 6+b10.tmod 4) (by omega) (by omega),z9 (a:=1+b8.tmod 2) (by omega) (by omega)]
 obtain ⟨m11,objs,e11,g1,g2,g3⟩:=zBH (s1:=1+b9.tmod 6) (s22:=1+b8.tmod 2) (by omega) (by omega) k10
 rw [e11]
 simp only [Option.bind_some]
 obtain ⟨b12,m12,e12,r12,k12⟩:=uC g1
 rw [e12,Option.bind_some,z9 (a:=1+b9.tmod 6+1) (by omega) (by omega),zw,if_neg (by omega)]
 have t12:=vX r12.1 (show (0:Int)<1+b9.tmod 6+1 by omega)
 rw [zmc,Option.bind_some]
 obtain ⟨regs,progs,e13,f1,f2,f3,f4⟩:=zAw (s1:=1+b9.tmod 6) (s15:=b2.tmod 3) (s22:=1+b8.tmod 2) (by omega) (by omega) (by omega) k12
 rw [e13]
 simp only [Option.bind_some]
 refine ⟨_,rfl,?_⟩
 constructor<;>dsimp only
 case objs=>intro o ho;rw [g2];exact g3 o ho
 case roots=>exact ⟨b12.tmod (1+b9.tmod 6+1),by omega,by omega,by simp⟩
 case reg=>rw [g2];exact f3
 case prog=>exact f4
 all_goals first | omega | rfl
end B17
end
end Go.Pe.G
namespace Go.Pe.G
open Go.Pe
noncomputable section
theorem zbH {α β B C:Type} {f:List α×Int×Int×β→Option (xr (List α×Int×Int×β) B C)} {l:List α} {e:β} {b:B} (hl:l.length<1000000)
  (h1: ∀(i:Nat) (x:α),l[i]? =some x→f (l,(l.length:Int),(i:Int),e)=some (.again (l,(l.length:Int),((i+1:Nat):Int),e)))
  (h2:f (l,(l.length:Int),(l.length:Int),e)=some (.brk b)):yH f (l,(l.length:Int),0,e)=some (.brk b):=by
 refine (Zi (f:=f) (fun a=>∃i:Nat,a=(l,(l.length:Int),(i:Int),e)∧i≤l.length) (fun a=>l.length-a.2.2.1.toNat) (fun o=>o= .brk b) ?_ (l,(l.length:Int),0,e) ⟨0,rfl,by omega⟩ (vC (by simp;omega))).elim fun o h=> ?_
 rotate_left
 ·rw [h.1,h.2]
 ·rintro _ ⟨i,rfl,hi⟩
  rcases Nat.lt_or_ge i l.length with hlt | hge
  ·refine ⟨_,h1 i _ (List.getElem?_eq_getElem hlt),⟨i+1,rfl,hlt⟩,?_⟩
   show l.length-((i+1:Nat):Int).toNat<l.length-(i:Int).toNat
   omega
  ·have:i=l.length:=by omega
   subst this
   exact ⟨_,h2,rfl⟩
theorem va {α:Type} {l:List α} {i:Nat} {x:α} (h:l[i]? =some x):idx l (i:Int)=some x:=by
 rw [vn (by omega)];simpa using h
theorem uZ {α:Type} {l:List α} {i:Nat} {x:α} (h:l[i]? =some x):(i:Int)<(l.length:Int):=by
 have:=(List.getElem?_eq_some_iff.1 h).1;omega
theorem xR {i:Nat} (h:i<1000000):w64 ((i:Int)+1)=((i+1:Nat):Int):=by
 rw [z9 (by omega) (by omega)];omega
theorem zf9 (a b c:Int):uz a b c=some (decide (b≤a∧a≤c),()):=by
 rw [zqO,zw]
 by_cases h:b≤a
 ·rw [if_pos h];simp [h]
 ·rw [if_neg h];simp [h]
theorem zxZ {l:List Int} {h:zr} (hl:l.length<1000000) (hv: ∀v∈l,0≤v∧v≤(h.Objs.length:Int)):wj l h=some (false,()):=by
 rw [Xk,Wn,zbH (b:=()) hl (fun i x hx=> ?_) (by rw [vZ];simp)]
 ·rfl
 ·have hm:=hv x (List.mem_of_getElem? hx)
  have hlt:=uZ hx
  rw [vZ,zw,if_pos hlt,va hx,Option.bind_some,znE,zw,if_neg (show ¬x<0 by omega),Option.bind_some,xR (by omega)]
  simp [show ¬(h.Objs.length:Int)<x by omega]
theorem zyI {l:List Int} {n:Int} (hl:l.length<1000000) (hv: ∀v∈l,0≤v∧v≤n):wE l n=some (false,()):=by
 rw [XT,WN,zbH (b:=()) hl (fun i x hx=> ?_) (by rw [ui];simp)]
 ·rfl
 ·have hm:=hv x (List.mem_of_getElem? hx)
  have hlt:=uZ hx
  rw [ui,va hx,Option.bind_some,zpz,zf9,Option.bind_some,Option.bind_some,xR (by omega),zw,if_pos hlt]
  simp [hm]
theorem ztQ {l:List (List Int)} {h:zr} (hl:l.length<1000000) (hs:h.Slots<1000000) (hv: ∀o∈l,(o.length:Int)=h.Slots∧∀v∈o,0≤v∧v≤(h.Objs.length:Int)):we l h=some (false,()):=by
 rw [Xl,X8,zbH (b:=()) hl (fun i x hx=> ?_) (by rw [vY];simp)]
 ·rfl
 ·have hm:=hv x (List.mem_of_getElem? hx)
  have hlt:=uZ hx
  rw [vY,va hx,Option.bind_some,zpq,yw,if_pos hm.1,zxZ (by omega) hm.2,Option.bind_some,Option.bind_some,xR (by omega),zw,if_pos hlt]
  rfl
theorem zrU {r n:Int} (h:0≤r∧r<n) (h2:n≤4):yb r n=some (true,()):=by
 rw [zpK,zw,if_pos h.1,zw]
 rw [if_neg (by omega)]
 simp [h.2]
theorem zAL {o:zk} {regs slots:Int} (h:zja o regs slots) (h2:regs≤4) (h3:slots≤4):zjg o regs slots=some (true,()):=by
 obtain ⟨hr,h⟩:=h
 have e1:=zrU hr h2
 have h4: ¬4<slots:=by omega
 rw [zrT]
 rcases h with ⟨hk | hk,ha,hs⟩ | ⟨hk,ha,hs⟩ | ⟨hk | hk,ha,hs⟩
 ·have e2:=zrU ha h2
  simp [hk,e1,e2,hs.1,hs.2,h4]
 ·have e2:=zrU ha h2
  simp [hk,e1,e2,hs.1,hs.2,h4]
 ·have e2:=zrU ha h2
  simp [hk,e1,e2,hs]
 ·simp [hk,e1,ha,hs]
 ·simp [hk,e1,ha,hs]
theorem zBx {l:List zk} {regs slots:Int} (hl:(l.length:Int)≤64) (h: ∀o∈l,zja o regs slots) (h2:regs≤4) (h3:slots≤4):zlf l regs slots=some (true,()):=by
 rw [zs7,zw,if_pos hl,Yr,YR,zbH (b:=()) (by omega) (fun i x hx=> ?_) (by rw [vb];simp)]
 ·rfl
 ·have hlt:=uZ hx
  rw [vb,va hx,Option.bind_some,zqB,zAL (h x (List.mem_of_getElem? hx)) h2 h3,Option.bind_some,Option.bind_some,xR (by omega),zw,if_pos hlt]
  rfl
theorem zzw (a b:Int):zjC [] a b=some (true,()):=by
 rw [zrm,ZI,Z7,zbH (b:=()) (by simp) (fun i x hx=>by simp at hx) (by rw [ZG];simp)]
 rfl
def vq (n:Int):BitVec 64:=if n<1 then 0#64 else 18446744073709551615#64 >>> (64-min n 64).toNat
theorem ztM (n:Int) (h:0≤n):zf2 n=some (vq n,()):=by
 rw [zsN,zw]
 unfold vq
 by_cases h1:n<1
 ·rw [if_pos h1,if_pos h1]
 ·rw [if_neg h1,if_neg h1]
  simp only [zw]
  have e:(if 64<n then (64:Int) else n)=min n 64:=by
   by_cases h2:64<n
   ·rw [if_pos h2];omega
   ·rw [if_neg h2];omega
  rw [e,z9 (by omega) (by omega),if_neg (by omega),Nat.min_eq_left (by omega)]
theorem zuh: ∀(r n:Fin 7),r.1≤n.1→bit (r.1:Int)&&& ~~~vq (n.1:Int)=0#64:=by decide
theorem zp5 {p:zb} (h:zA p):p.Roots&&& ~~~vq (p.H.Objs.length:Int)=0#64:=by
 obtain ⟨r,h1,h2,h3⟩:=h.roots
 have hn:=h.n
 have:=zuh ⟨r.toNat,by omega⟩ ⟨p.H.Objs.length,by omega⟩ (by show r.toNat≤p.H.Objs.length;omega)
 rw [h3]
 simpa [Int.toNat_of_nonneg h1] using this
theorem zx5 {p:zb} (h:zA p):zbX p=some (true,()):=by
 obtain ⟨h1,h2,h3,h4,h5,h6,h7,_⟩:=h
 rw [zno]
 simp only [zf9,Option.bind_some,zw]
 rw [if_pos (by omega),if_pos (by omega),if_pos (by omega),if_pos (by omega),if_pos (by omega),if_pos (by split<;>omega)]
 have:(if p.Price<p.Limit then p.Limit else p.Price)≤1000000:=by split<;>omega
 simp [this]
theorem zyA {p:zb} (h:zA p):za7 p.H=some (true,()):=by
 have:=h.slots
 have:=h.n
 rw [zkv,zw,if_pos (by omega),zw,if_pos (by omega),zw,if_pos (by omega),ztQ (by omega) (by omega) h.objs]
 rfl
theorem zxV {p:zb} (h:zA p):zi8 p=some (true,()):=by
 have hn:=h.n
 have hm:=h.most
 have hsl:=h.slots
 have hmt:=h.mt
 have hrl:=h.regs
 have hpl:=h.progs
 rw [zrp,zx5 h]
 simp only [Option.bind_some,Bool.not_true,cond_false,zyA h,zf9]
 rw [show decide ((p.H.Objs.length:Int)≤p.Most∧p.Most≤64)=true by simp;omega]
 simp only [Bool.not_true,cond_false,ztM _ (show (0:Int)≤(p.H.Objs.length:Int) by omega),Option.bind_some,zfe,zp5 h,decide_true,yw,if_pos h.regs,if_pos h.progs]
 rw [zbH (b:=(p,())) (by omega) (fun i x hx=> ?_) (by rw [zgq];simp)]
 ·simp [h.picks,zzw]
 ·have hlt:=uZ hx
  have hr:=h.reg x (List.mem_of_getElem? hx)
  obtain ⟨ops,hops⟩: ∃ops,p.Progs[i]? =some ops:=⟨_,List.getElem?_eq_getElem (by omega)⟩
  obtain ⟨o1,o2⟩:=h.prog i x ops hx hops
  rw [zgq,zw,if_pos hlt,va hx]
  simp only [Option.bind_some,zf9]
  rw [show decide (1≤(x.length:Int)∧(x.length:Int)≤4)=true by simp;omega]
  simp only [Bool.not_true,cond_false,zyI (show x.length<1000000 by omega) hr.2,Option.bind_some,va hops,zBx (show (ops.length:Int)≤64 by omega) o2 (show (x.length:Int)≤4 by omega) (show p.H.Slots≤4 by omega),xR (show i<1000000 by omega)]
end
end Go.Pe.G
namespace Go.Pe.G
open Go.Pe
noncomputable section
theorem ziL {n:Int} (h:0≤n) (h2:n<4294967296):WD n=some n.toNat:=by rw [zkw];simp [h,h2]
theorem zt5 {n:Int} (h:0<n) (h2:n<4294967296):zgf n=some n.toNat:=by rw [zq6];simp [h,h2]
def zfO (l:List Int):BitVec 64:=l.foldl (fun s o=>s|||bit o) 0#64
def uk (p:zb):BitVec 64:=p.Regs.foldl (fun s l=>s|||zfO l) p.Roots
def zCM (a1:BitVec 64):BitVec 64 :=
 let a:=((a1 >>> 1)&&&6148914691236517205#64)+(a1&&&6148914691236517205#64)
 let b:=((a >>> 2)&&&3689348814741910323#64)+(a&&&3689348814741910323#64)
 let c:=((b >>> 4)+b)&&&1085102592571150095#64
 let d:=c+(c >>> 8)
 let e:=d+(d >>> 16)
 e+(e >>> 32)
def cnt (s:BitVec 64):Int:=(BitVec.ofInt 64 (zCM s).toInt&&&BitVec.ofInt 64 127).toInt
theorem zzH (s:BitVec 64):zlc s=some (cnt s,()):=by
 rw [zs3,zlU,zu3];rfl
theorem U0 {m:List Int} (h:m.length<4294967296):xl m=some (m,()):=by
 rw [zg2,List.nil_append,wT h,Option.bind_some]
 cases m with
 | nil=>simp [zgo]
 | cons a l=>simp
theorem zzD {l:List Int} (hl:l.length<1000000):zmE l=some (zfO l,()):=by
 rw [zwD]
 refine (Zi (f:=zlJ) (fun a=>∃i:Nat,a=((l.take i).foldl (fun s o=>s|||bit o) 0#64,l,(l.length:Int),(i:Int),())∧i≤l.length) (fun a=>l.length-a.2.2.2.1.toNat) (fun o=>o= .brk (zfO l,())) ?_ (0#64,l,(l.length:Int),0,()) ⟨0,rfl,by omega⟩ (vC (by simp;omega))).elim fun o h=> ?_
 rotate_left
 ·rw [h.1,h.2];rfl
 ·rintro _ ⟨i,rfl,hi⟩
  rw [zsO,zw]
  rcases Nat.lt_or_ge i l.length with hlt | hge
  ·have hx:=List.getElem?_eq_getElem hlt
   rw [if_pos (by omega),va hx,Option.bind_some,zmc,Option.bind_some,xR (by omega)]
   refine ⟨_,rfl,⟨i+1,?_,hlt⟩,?_⟩
   ·rw [List.take_add_one,hx];simp only [Option.toList_some,List.foldl_append,List.foldl_cons,List.foldl_nil]
   ·show l.length-((i+1:Nat):Int).toNat<l.length-(i:Int).toNat
    omega
  ·rw [if_neg (by omega)]
   have:i=l.length:=by omega
   subst this
   exact ⟨_,rfl,by rw [List.take_length];rfl⟩
theorem zsi {p:zb} (hl:p.Regs.length<1000000) (hr: ∀r∈p.Regs,r.length<1000000):zec p=some (uk p,()):=by
 rw [zrZ]
 refine (Zi (f:=zd1) (fun a=>∃i:Nat,a=((p.Regs.take i).foldl (fun s l=>s|||zfO l) p.Roots,p.Regs,(p.Regs.length:Int),(i:Int),())∧i≤p.Regs.length) (fun a=>p.Regs.length-a.2.2.2.1.toNat) (fun o=>o= .brk (uk p,())) ?_ (p.Roots,p.Regs,(p.Regs.length:Int),0,()) ⟨0,rfl,by omega⟩ (vC (by simp;omega))).elim fun o h=> ?_
 rotate_left
 ·rw [h.1,h.2];rfl
 ·rintro _ ⟨i,rfl,hi⟩
  rw [zoJ,zw]
  rcases Nat.lt_or_ge i p.Regs.length with hlt | hge
  ·have hx:=List.getElem?_eq_getElem hlt
   rw [if_pos (by omega),va hx,Option.bind_some,zzD (hr _ (List.getElem_mem hlt)),Option.bind_some,xR (by omega)]
   refine ⟨_,rfl,⟨i+1,?_,hlt⟩,?_⟩
   ·rw [List.take_add_one,hx];simp only [Option.toList_some,List.foldl_append,List.foldl_cons,List.foldl_nil]
   ·show p.Regs.length-((i+1:Nat):Int).toNat<p.Regs.length-(i:Int).toNat
    omega
  ·rw [if_neg (by omega)]
   have:i=p.Regs.length:=by omega
   subst this
   exact ⟨_,rfl,by rw [List.take_length];rfl⟩
theorem zzc {l:List (List Int)} (hl:l.length<1000000) (h: ∀r∈l,r.length<1000000):vf l=some (l,()):=by
 have key: ∀n:Int,n=(l.length:Int)→yH yY (n,0,l,())=some (.brk (l,())):=by
  rintro _ rfl
  refine (Zi (f:=yY) (fun a=>∃i:Nat,a=((l.length:Int),(i:Int),l,())∧i≤l.length) (fun a=>l.length-a.2.1.toNat) (fun o=>o= .brk (l,())) ?_ ((l.length:Int),0,l,()) ⟨0,rfl,by omega⟩ (vC (by simp;omega))).elim fun o h=> ?_
  rotate_left
  ·rw [h.1,h.2]
  ·rintro _ ⟨i,rfl,hi⟩
   rw [X5,zw]
   rcases Nat.lt_or_ge i l.length with hlt | hge
   ·have hx:=List.getElem?_eq_getElem hlt
    have hr:=h _ (List.getElem_mem hlt)
    have e:xM l (i:Int)=some i:=by rw [uA (by omega) (by omega)];simp
    rw [if_pos (by omega),e]
    simp only [Option.bind_some]
    rw [hx,Option.bind_some,U0 (by omega),Option.bind_some,xR (by omega)]
    refine ⟨_,rfl,⟨i+1,by simp,hlt⟩,?_⟩
    show l.length-((i+1:Nat):Int).toNat<l.length-(i:Int).toNat
    omega
   ·rw [if_neg (by omega)]
    have:i=l.length:=by omega
    subst this
    exact ⟨_,rfl,rfl⟩
 have hc:WD (l.length:Int)=some l.length:=by rw [ziL (by omega) (by omega)];simp
 rw [W3]
 simp only [decide_true,cond_true,hc,Option.bind_some,List.length_replicate]
 cases l with
 | nil=>simp;rw [key 0 rfl];rfl
 | cons a r=>simp only [List.isEmpty_cons,cond_false];rw [key _ rfl];rfl
def zgz (cap:Int):List (BitVec 64):=[1#64,1#64]++List.replicate cap.toNat 0#64
theorem zwx {c:Int} (h:1≤c) (h2:c≤64):zg9 c=some (zgz c,()):=by
 have e:(if 64<(if c<1 then (1:Int) else c) then (64:Int) else (if c<1 then (1:Int) else c))=c:=by
  rw [if_neg (show ¬c<1 by omega),if_neg (by omega)]
 have w:w64 (2+c)=2+c:=z9 (by omega) (by omega)
 have hc:WD (2+c)=some (2+c.toNat):=by rw [ziL (by omega) (by omega)];congr 1;omega
 rw [zqL]
 simp only [zw,e,w,if_true,hc,Option.bind_some]
 rw [uA (by omega) (by simp;omega),Option.bind_some,uA (by omega) (by simp;omega),Option.bind_some]
 have e2:List.replicate (2+c.toNat) 0#64=0#64::0#64::List.replicate c.toNat 0#64:=by rw [Nat.add_comm 2];rfl
 rw [e2];rfl
theorem zyi {m:Int} (h:0≤m) (h2:m≤16):zjo m=some (⟨0,0,0,List.replicate m.toNat 0⟩,()):=by
 have e:(if (if 16<m then (16:Int) else m)<0 then (0:Int) else (if 16<m then (16:Int) else m))=m:=by
  rw [if_neg (show ¬16<m by omega),if_neg (by omega)]
 have hc:WD m=some m.toNat:=ziL (by omega) (by omega)
 rw [zrJ]
 simp only [zw,e,if_true,hc,Option.bind_some]
def links (m:List (BitVec 64)) (next:Int):List Int→List (BitVec 64)
 | []=>m
 | [a]=>st m (wc (next+a)) 0#64
 | a::b::l=>links (st m (wc (next+a)) (BitVec.ofInt 64 b)) next (b::l)
def zcY (m:List (BitVec 64)) (head next:Int) (l:List Int):List (BitVec 64):=st (links m next l) head (xj 0#64 (l.headD 0))
theorem ZR (m:List (BitVec 64)) (a:Int) (v:BitVec 64):(st m a v).length=m.length:=by unfold st;split<;>simp
theorem zdc: ∀(l:List Int) (m:List (BitVec 64)) (n:Int),(links m n l).length=m.length
 | [],_,_=>rfl
 | [a],m,n=>ZR _ _ _
 | a::b::l,m,n=>by simp only [links];rw [zdc (b::l),ZR]
theorem zqJ (m:List (BitVec 64)) (h n:Int) (l:List Int):(zcY m h n l).length=m.length:=by unfold zcY;rw [ZR,zdc]
theorem zq0 {head next:Int} {l:List Int} (hl:l.length<1000000): ∀(k:Nat) (m:List (BitVec 64)) (i:Nat),l.length-i=k→i≤l.length→m.length<4294967296 →
  ∀n,k<n→wJ zfd n (m,head,next,l,(l.length:Int),(i:Int),())=some (.brk (links m next (l.drop i),head,l,()))
 | 0,m,i,hk,hi,hm,n+1,hn=>by
  have:i=l.length:=by omega
  subst this
  simp only [wJ]
  rw [zhz,zw,if_neg (by omega),Option.bind_some,List.drop_length];rfl
 | k+1,m,i,hk,hi,hm,n+1,hn=>by
  have hlt:i<l.length:=by omega
  have hx:=List.getElem?_eq_getElem hlt
  simp only [wJ]
  rw [zhz,zw,if_pos (by omega),xR (by omega),zw,xu]
  by_cases h2:i+1<l.length
  ·have hy:=List.getElem?_eq_getElem h2
   have ed:l.drop i=l[i]::l[i+1]::l.drop (i+2):=by
    rw [List.drop_eq_getElem_cons hlt,List.drop_eq_getElem_cons h2]
   rw [if_pos (by omega),va hy,Option.bind_some,va hx,Option.bind_some,zca hm,Option.bind_some,Option.bind_some]
   dsimp only
   rw [zq0 hl k _ (i+1) (by omega) (by omega) (by rw [ZR];exact hm) n (by omega),ed]
   rw [List.drop_eq_getElem_cons h2];rfl
  ·have ed:l.drop i=[l[i]]:=by
    rw [List.drop_eq_getElem_cons hlt,List.drop_eq_nil_of_le (by omega)]
   rw [if_neg (by omega),va hx,Option.bind_some,zca hm,Option.bind_some,Option.bind_some]
   dsimp only
   rw [zq0 hl k _ (i+1) (by omega) (by omega) (by rw [ZR];exact hm) n (by omega),ed,List.drop_eq_nil_of_le (by omega)]
   rfl
theorem ztS {m:List (BitVec 64)} (hm:m.length<4294967296) {head next:Int} {l:List Int} (hl:l.length<1000000):zfV m head next l=some (zcY m head next l,()):=by
 have e:=zq0 (head:=head) (next:=next) hl l.length m 0 (by omega) (by omega) hm YC (vC (by omega))
 rw [show ((0:Nat):Int)=0 from rfl] at e
 rw [zs2,UP,e]
 simp only [Option.bind_some,List.drop_zero,zw]
 unfold zcY
 cases l with
 | nil =>
  rw [if_neg (by simp),zil,Option.bind_some,zca (by rw [zdc];exact hm)];rfl
 | cons a r =>
  have:idx (a::r) 0=some a:=by rw [vn (by omega)];rfl
  rw [if_pos (by simp),this,Option.bind_some,zil,Option.bind_some,zca (by rw [zdc];exact hm)];rfl
def znb:Nat→BitVec 64→Option (List Int)
 | 0,_=>none
 | f+1,s=>bif decide (s=0#64) then some [] else (znb f (s&&&(s-1#64))).map fun l=>(((Go.Lib.ctz 64 s.toNat:Nat):Int)+1)::l
theorem zww: ∀t:Fin 64,znb 66 (BitVec.ofNat 64 t.1)=some (((List.range 6).filter fun i=>(BitVec.ofNat 64 t.1).getLsbD i).map fun i:Nat=>(i:Int)+1):=by decide +kernel
def Wy (s:BitVec 64):List Int:=((List.range 6).filter fun i=>s.getLsbD i).map fun i:Nat=>(i:Int)+1
theorem zwl {s:BitVec 64} (h:s&&& ~~~63#64=0#64): ∃t:Fin 64,s=BitVec.ofNat 64 t.1:=by
 have h2:s=s&&&63#64:=by
  apply BitVec.eq_of_getLsbD_eq
  intro i hi
  have:=congrArg (fun x=>x.getLsbD i) h
  simp only [BitVec.getLsbD_and,BitVec.getLsbD_not,hi,decide_true,Bool.true_and,BitVec.getLsbD_zero] at this ⊢
  cases h1:s.getLsbD i<;>cases h3:(63#64:BitVec 64).getLsbD i<;>simp_all
 have h3:s.toNat<64:=by
  rw [h2,BitVec.toNat_and]
  exact Nat.lt_of_le_of_lt Nat.and_le_right (by decide)
 exact ⟨⟨s.toNat,h3⟩,by simp⟩
theorem zC4: ∀t:Fin 64,Go.Lib.ctz 64 t.1≤64:=by decide +kernel
theorem zt0: ∀(f:Nat) (s:BitVec 64),s.toNat<64→Ur f s=znb f s
 | 0,_,_=>rfl
 | f+1,s,h=>by
  simp only [Ur,znb]
  rw [zt0 f _ (by rw [BitVec.toNat_and];exact Nat.lt_of_le_of_lt Nat.and_le_left h)]
  have:Go.Lib.ctz 64 s.toNat≤64:=zC4 ⟨s.toNat,h⟩
  have e:w64 (tz s+1)=((Go.Lib.ctz 64 s.toNat:Nat):Int)+1:=by
   unfold tz
   exact z9 (by omega) (by omega)
  rw [e]
theorem znn: ∀(l acc:List Int),(acc.length+l.length)<4294967296→Y0 zhs l (acc,())=some (acc++l,())
 | [],acc,_=>by simp [Y0]
 | a::l,acc,h=>by
  simp only [List.length_cons] at h
  rw [Y0,zq1,wT (by simp;omega),Option.bind_some,Option.bind_some,znn l _ (by simp;omega)]
  simp
theorem zy8 (s:BitVec 64):(Wy s).length≤6:=by
 unfold Wy
 rw [List.length_map]
 exact Nat.le_trans (List.length_filter_le _ _) (by simp)
theorem zAq {s:BitVec 64} (h:s&&& ~~~63#64=0#64):zeg s=some (Wy s,()):=by
 obtain ⟨t,rfl⟩:=zwl h
 have e:zi0 (BitVec.ofNat 64 t.1)=some (Wy (BitVec.ofNat 64 t.1)):=by
  show Ur 66 _=_
  rw [zt0 66 _ (by simp;omega),zww t];rfl
 have:=zy8 (BitVec.ofNat 64 t.1)
 rw [znx,znC,Option.bind_some,e,Option.bind_some,znn _ _ (by simp;omega)]
 rfl
theorem zr5 (n:Nat) (hn:1≤n): ∀(f:Nat) (l:List Int),(u9 n f l).length≤l.length
 | 0,l=>by simp [u9]
 | f+1,[]=>by simp [u9]
 | f+1,x::l=>by
  have:=zr5 n hn f ((x::l).drop n)
  simp only [u9,List.length_cons,List.length_drop] at this ⊢
  omega
theorem zkW (n:Nat): ∀(f:Nat) (l c:List Int),c∈u9 n f l→c.length≤l.length
 | 0,l,c,h=>by simp [u9] at h
 | f+1,[],c,h=>by simp [u9] at h
 | f+1,x::l,c,h=>by
  simp only [u9,List.mem_cons] at h
  rcases h with rfl | h
  ·rw [List.length_take];exact Nat.min_le_right _ _
  ·have:=zkW n f _ c h
   simp only [List.length_drop] at this
   omega
def ul (p:zb) (w:Nat):ze:=⟨0,0,0,(w:Int)+1,0,[],⟨2,0,zW p ((w:Int)+1),p.Cap,0#64,0#64,0,0⟩,⟨0,0,0,0,0#64,0,0,0⟩,⟨0,0,0,0,⟨0,0,0,0,0#64,0#64,0,0⟩,⟨0,0,0,0,0#64,0,0,0⟩,0,0⟩⟩
def YA (p:zb) (k:Nat):List (BitVec 64):=(List.range k).flatMap fun _=>zgz p.Cap
theorem zr8 (c:Int):(zgz c).length=c.toNat+2:=by unfold zgz;rw [List.length_append,List.length_replicate];exact Nat.add_comm _ _
theorem zlu (p:zb) (k:Nat):YA p (k+1)=YA p k++zgz p.Cap:=by unfold YA;rw [List.range_succ,List.flatMap_append];simp
theorem UV (p:zb): ∀k,(YA p k).length=k*(p.Cap.toNat+2)
 | 0=>by simp [YA]
 | k+1=>by rw [zlu,List.length_append,UV p k,zr8,Nat.succ_mul]
theorem zCp {p:zb} {s1:BitVec 64} {s5:Int} {s6:Int} {s7:Int} {s8:Int} {s9:Int} {s10:Int} {s11:Int} {s12:Int} {s13:Int} {s14:BitVec 64} {s15:Int} {s16:zt} {s17:Int} {s18:Int} {s19:Bool} {s20:Bool} {s21:Int} {s22:Int} {s23:Int} {s24:Int} {s25:zB} {s26:zb} {s27:Int} {s28:zt} {s29:Int} {s30:Int} {s31:Bool} {s32:Bool} {s33:Int} {s34:zn} {s35:zB} {s36:List (List Int)} {s37:List (List Int)} {s38:List (List zk)} {s39:List zp} {s40:List (List Int)} {s41:List (BitVec 64)} {s42:List (List Int)} {s43:List Int} {s44:List Int} {s45:List ze} {s46:List zc} {s47:List (List Int)} {s49:List (List Int)} {s50:List Int} {s52:List zc} (hp:zA p) :
  yH zbF (s1,p.Workers,0,p,s5,s6,s7,s8,s9,s10,s11,s12,s13,s14,s15,s16,s17,s18,s19,s20,s21,s22,s23,s24,s25,s26,s27,s28,s29,s30,s31,s32,s33,s34,s35,s36,s37,s38,s39,s40,s41,s42,s43,s44,s45,s46,s47,[],s49,s50,[],s52,())=some (.brk (s1,p,s5,s6,s7,s8,s9,s10,s11,s12,s13,s14,s15,s16,s17,s18,s19,s20,s21,s22,s23,s24,s25,s26,s27,s28,s29,s30,s31,s32,s33,s34,s35,s36,s37,s38,s39,s40,s41,s42,s43,s44,s45,s46,s47,(YA p p.Workers.toNat),s49,s50,((List.range p.Workers.toNat).map (ul p)),s52,())):=by
 have hw:=hp.wk
 have hc:=hp.cap
 refine (Zi (f:=zbF) (fun a=>∃i:Nat,a=(s1,p.Workers,(i:Int),p,s5,s6,s7,s8,s9,s10,s11,s12,s13,s14,s15,s16,s17,s18,s19,s20,s21,s22,s23,s24,s25,s26,s27,s28,s29,s30,s31,s32,s33,s34,s35,s36,s37,s38,s39,s40,s41,s42,s43,s44,s45,s46,s47,(YA p i),s49,s50,((List.range i).map (ul p)),s52,())∧(i:Int)≤p.Workers) (fun a=>(p.Workers-a.2.2.1).toNat) (fun o=>o= .brk (s1,p,s5,s6,s7,s8,s9,s10,s11,s12,s13,s14,s15,s16,s17,s18,s19,s20,s21,s22,s23,s24,s25,s26,s27,s28,s29,s30,s31,s32,s33,s34,s35,s36,s37,s38,s39,s40,s41,s42,s43,s44,s45,s46,s47,(YA p p.Workers.toNat),s49,s50,((List.range p.Workers.toNat).map (ul p)),s52,())) ?_ (s1,p.Workers,0,p,s5,s6,s7,s8,s9,s10,s11,s12,s13,s14,s15,s16,s17,s18,s19,s20,s21,s22,s23,s24,s25,s26,s27,s28,s29,s30,s31,s32,s33,s34,s35,s36,s37,s38,s39,s40,s41,s42,s43,s44,s45,s46,s47,[],s49,s50,[],s52,()) ⟨0,rfl,by omega⟩ (vC (by dsimp only;omega))).elim fun o h=> ?_
 rotate_left
 ·rw [h.1,h.2]
 ·rintro _ ⟨i,rfl,hi⟩
  rw [zpt,zw]
  by_cases hlt:(i:Int)<p.Workers
  ·have hl:=UV p i
   have hl2:=zr8 p.Cap
   have hb:i*(p.Cap.toNat+2)≤3*5:=Nat.mul_le_mul (by omega) (by omega)
   rw [if_pos hlt,zwx hc.1 (by omega),Option.bind_some,wT (l:=YA p i++zgz p.Cap) (by rw [List.length_append];omega),Option.bind_some,zf6,Option.bind_some,U5,Option.bind_some,wT (by simp<;>omega),Option.bind_some,xR (by omega)]
   refine ⟨_,rfl,⟨i+1,?_,by omega⟩,?_⟩
   ·rw [zlu,List.range_succ,List.map_append];rfl
   ·show (p.Workers-((i+1:Nat):Int)).toNat<(p.Workers-(i:Int)).toNat
    omega
  ·rw [if_neg hlt]
   have:i=p.Workers.toNat:=by omega
   subst this
   exact ⟨_,rfl,rfl⟩
def xz (k:Nat):List Int:=(List.range k).map fun i:Nat=>(i:Int)+1
theorem zwh (k:Nat):(xz k).length=k:=by simp [xz]
theorem zBr {b:Int} {s1:BitVec 64} {s4:zb} {s5:Int} {s6:Int} {s7:Int} {s8:Int} {s9:Int} {s10:Int} {s11:Int} {s12:Int} {s13:Int} {s14:BitVec 64} {s15:Int} {s16:zt} {s17:Int} {s18:Int} {s19:Bool} {s20:Bool} {s21:Int} {s22:Int} {s23:Int} {s24:Int} {s25:zB} {s26:zb} {s27:Int} {s28:zt} {s29:Int} {s30:Int} {s31:Bool} {s32:Bool} {s33:Int} {s34:zn} {s35:zB} {s37:List (List Int)} {s38:List (List Int)} {s39:List (List zk)} {s40:List zp} {s41:List (List Int)} {s42:List (BitVec 64)} {s43:List (List Int)} {s44:List Int} {s45:List Int} {s46:List ze} {s47:List zc} {s48:List (List Int)} {s49:List (BitVec 64)} {s50:List (List Int)} {s51:List Int} {s52:List ze} {s53:List zc} (hb:0≤b∧b<1000) :
  yH zaN (s1,b,0,s4,s5,s6,s7,s8,s9,s10,s11,s12,s13,s14,s15,s16,s17,s18,s19,s20,s21,s22,s23,s24,s25,s26,s27,s28,s29,s30,s31,s32,s33,s34,s35,[],s37,s38,s39,s40,s41,s42,s43,s44,s45,s46,s47,s48,s49,s50,s51,s52,s53,())=some (.brk (s1,s4,s5,s6,s7,s8,s9,s10,s11,s12,s13,s14,s15,s16,s17,s18,s19,s20,s21,s22,s23,s24,s25,s26,s27,s28,s29,s30,s31,s32,s33,s34,s35,(xz b.toNat),s37,s38,s39,s40,s41,s42,s43,s44,s45,s46,s47,s48,s49,s50,s51,s52,s53,())):=by
 refine (Zi (f:=zaN) (fun a=>∃i:Nat,a=(s1,b,(i:Int),s4,s5,s6,s7,s8,s9,s10,s11,s12,s13,s14,s15,s16,s17,s18,s19,s20,s21,s22,s23,s24,s25,s26,s27,s28,s29,s30,s31,s32,s33,s34,s35,(xz i),s37,s38,s39,s40,s41,s42,s43,s44,s45,s46,s47,s48,s49,s50,s51,s52,s53,())∧(i:Int)≤b) (fun a=>(b-a.2.2.1).toNat) (fun o=>o= .brk (s1,s4,s5,s6,s7,s8,s9,s10,s11,s12,s13,s14,s15,s16,s17,s18,s19,s20,s21,s22,s23,s24,s25,s26,s27,s28,s29,s30,s31,s32,s33,s34,s35,(xz b.toNat),s37,s38,s39,s40,s41,s42,s43,s44,s45,s46,s47,s48,s49,s50,s51,s52,s53,())) ?_ (s1,b,0,s4,s5,s6,s7,s8,s9,s10,s11,s12,s13,s14,s15,s16,s17,s18,s19,s20,s21,s22,s23,s24,s25,s26,s27,s28,s29,s30,s31,s32,s33,s34,s35,[],s37,s38,s39,s40,s41,s42,s43,s44,s45,s46,s47,s48,s49,s50,s51,s52,s53,()) ⟨0,rfl,by omega⟩ (vC (by dsimp only;omega))).elim fun o h=> ?_
 rotate_left
 ·rw [h.1,h.2]
 ·rintro _ ⟨i,rfl,hi⟩
  rw [zoL,zw]
  by_cases hlt:(i:Int)<b
  ·have:=zwh i
   rw [if_pos hlt,wT (by rw [List.length_append];simp;omega),Option.bind_some,xR (by omega)]
   refine ⟨_,rfl,⟨i+1,?_,by omega⟩,?_⟩
   ·unfold xz;rw [List.range_succ,List.map_append];rfl
   ·show (b-((i+1:Nat):Int)).toNat<(b-(i:Int)).toNat
    omega
  ·rw [if_neg hlt]
   have:i=b.toNat:=by omega
   subst this
   exact ⟨_,rfl,rfl⟩
theorem zxs {s1:zb} {s2:Int} {s3:Int} {s4:Int} {s5:Int} {s6:Int} {s7:Int} {s8:Int} {s9:Int} {s10:Int} {s11:BitVec 64} {s12:Int} {s13:zt} {s14:Int} {s15:Int} {s16:Bool} {s17:Bool} {s18:Int} {s19:Int} {s20:Int} {s21:Int} {s22:zB} {s23:zb} {s24:Int} {s25:zt} {s26:Int} {s27:Int} {s28:Bool} {s29:Bool} {s30:Int} {s31:zn} {s32:zB} {s33:List Int} {s34:List (List Int)} {s35:List (List Int)} {s36:List (List zk)} {s37:List zp} {s38:List (List Int)} {s39:List (BitVec 64)} {s40:List (List Int)} {s41:List Int} {s42:List Int} {s43:List ze} {s44:List zc} {s45:List (List Int)} {s46:List (BitVec 64)} {s48:List Int} {s49:List ze} {s50:List zc}: ∀(ys acc:List (List Int)),acc.length+ys.length<1000000→(∀c∈ys,c.length<1000000)→Y0 zdG ys (s1,s2,s3,s4,s5,s6,s7,s8,s9,s10,s11,s12,s13,s14,s15,s16,s17,s18,s19,s20,s21,s22,s23,s24,s25,s26,s27,s28,s29,s30,s31,s32,s33,s34,s35,s36,s37,s38,s39,s40,s41,s42,s43,s44,s45,s46,acc,s48,s49,s50,())=some (s1,s2,s3,s4,s5,s6,s7,s8,s9,s10,s11,s12,s13,s14,s15,s16,s17,s18,s19,s20,s21,s22,s23,s24,s25,s26,s27,s28,s29,s30,s31,s32,s33,s34,s35,s36,s37,s38,s39,s40,s41,s42,s43,s44,s45,s46,(acc++ys),s48,s49,s50,())
 | [],acc,_,_=>by simp [Y0]
 | y::ys,acc,h,hc=>by
  simp only [List.length_cons] at h
  have hy:=hc y (List.mem_cons_self ..)
  rw [Y0,znZ,U0 (by omega),Option.bind_some,wT (by simp<;>omega),Option.bind_some,Option.bind_some,zxs ys _ (by simp<;>omega) (fun c h'=>hc c (List.mem_cons_of_mem _ h'))]
  simp
def xO (r:List Int):zc:=⟨0,0,0,0,0,0,0,0,r,[],[],⟨0,0,0,0,0#64,0,0,0⟩,⟨0,0,0,0,⟨0,0,0,0,0#64,0#64,0,0⟩,⟨0,0,0,0,0#64,0,0,0⟩,0,0⟩⟩
theorem zBN {p:zb} {s4:Int} {s5:Int} {s6:Int} {s7:Int} {s8:Int} {s9:Int} {s10:Int} {s11:Int} {s12:Int} {s13:BitVec 64} {s14:Int} {s15:zt} {s16:Int} {s17:Int} {s18:Bool} {s19:Bool} {s20:Int} {s21:Int} {s22:Int} {s23:Int} {s24:zB} {s25:zb} {s26:Int} {s27:List (BitVec 64)} {s28:zt} {s29:Int} {s30:Int} {s31:Bool} {s32:Bool} {s33:Int} {s34:zn} {s35:zB} {s36:List (List Int)} {s37:List (List Int)} {s38:List (List zk)} {s39:List zp} {s40:List (List Int)} {s41:List (BitVec 64)} {s42:List (List Int)} {s43:List Int} {s44:List Int} {s45:List ze} {s46:List zc} {s47:List (List Int)} {s48:List (List Int)} {s49:List Int} {s50:List ze} (hl:p.Regs.length<1000000) (hr: ∀r∈p.Regs,r.length<1000000) :
  yH zaV (p.Regs,(p.Regs.length:Int),0,s4,s5,s6,s7,s8,s9,s10,s11,s12,s13,s14,s15,s16,s17,s18,s19,s20,s21,s22,s23,s24,s25,s26,s27,s28,s29,s30,s31,s32,s33,s34,s35,s36,s37,s38,s39,s40,s41,s42,s43,s44,s45,s46,s47,s48,s49,s50,[],())=some (.brk (s4,s5,s6,s7,s8,s9,s10,s11,s12,s13,s14,s15,s16,s17,s18,s19,s20,s21,s22,s23,s24,s25,s26,s27,s28,s29,s30,s31,s32,s33,s34,s35,s36,s37,s38,s39,s40,s41,s42,s43,s44,s45,s46,s47,s48,s49,s50,(p.Regs.map xO),())):=by
 refine (Zi (f:=zaV) (fun a=>∃i:Nat,a=(p.Regs,(p.Regs.length:Int),(i:Int),s4,s5,s6,s7,s8,s9,s10,s11,s12,s13,s14,s15,s16,s17,s18,s19,s20,s21,s22,s23,s24,s25,s26,s27,s28,s29,s30,s31,s32,s33,s34,s35,s36,s37,s38,s39,s40,s41,s42,s43,s44,s45,s46,s47,s48,s49,s50,((p.Regs.take i).map xO),())∧i≤p.Regs.length) (fun a=>p.Regs.length-a.2.2.1.toNat) (fun o=>o= .brk (s4,s5,s6,s7,s8,s9,s10,s11,s12,s13,s14,s15,s16,s17,s18,s19,s20,s21,s22,s23,s24,s25,s26,s27,s28,s29,s30,s31,s32,s33,s34,s35,s36,s37,s38,s39,s40,s41,s42,s43,s44,s45,s46,s47,s48,s49,s50,(p.Regs.map xO),())) ?_ (p.Regs,(p.Regs.length:Int),0,s4,s5,s6,s7,s8,s9,s10,s11,s12,s13,s14,s15,s16,s17,s18,s19,s20,s21,s22,s23,s24,s25,s26,s27,s28,s29,s30,s31,s32,s33,s34,s35,s36,s37,s38,s39,s40,s41,s42,s43,s44,s45,s46,s47,s48,s49,s50,[],()) ⟨0,rfl,by omega⟩ (vC (by dsimp only;omega))).elim fun o h=> ?_
 rotate_left
 ·rw [h.1,h.2]
 ·rintro _ ⟨i,rfl,hi⟩
  rw [zo0,zw]
  rcases Nat.lt_or_ge i p.Regs.length with hlt | hge
  ·have hx:=List.getElem?_eq_getElem hlt
   have hh:=hr _ (List.getElem_mem hlt)
   rw [if_pos (by omega),va hx,Option.bind_some,U0 (by omega),Option.bind_some,wT (by simp<;>omega),Option.bind_some,xR (by omega)]
   refine ⟨_,rfl,⟨i+1,?_,hlt⟩,?_⟩
   ·rw [List.take_add_one,hx,List.map_append];rfl
   ·show p.Regs.length-((i+1:Nat):Int).toNat<p.Regs.length-(i:Int).toNat
    omega
  ·rw [if_neg (by omega)]
   have:i=p.Regs.length:=by omega
   subst this
   exact ⟨_,rfl,by rw [List.take_length]⟩
def zZ (p:zb):Nat:=(p.Most+p.Workers+p.Mutators).toNat
def xy (p:zb):List (List Int):=u9 p.Bin.toNat (Wy (uk p)).length (Wy (uk p))
def yM (p:zb):za :=
 {P:=p,H:=p.H,
  M:=zcY (zcY (YA p p.Workers.toNat++List.replicate (2+zZ p) 0#64) (yh p) (zI p) ((xz (zZ p)).take (xy p).length)) (zI p) (zI p) ((xz (zZ p)).drop (xy p).length),
  Bins:=[[]]++xy p++List.replicate (zZ p-(xy p).length) [],
  T:=⟨uk p,0#64⟩,Work:=cnt (uk p),Epoch:=0,Flag:=false,Done:=false,Restarts:=0,
  Acks:=List.replicate p.Mutators.toNat 0,L:=⟨0,0,0,List.replicate p.Mutators.toNat 0⟩,
  Ws:=(List.range p.Workers.toNat).map (ul p),Ms:=p.Regs.map xO,D:=⟨0,0⟩}
theorem zzZ {r n:Int} (h:0≤r) (h2:r≤n) (h3:n≤6):bit r&&& ~~~vq n=0#64:=by
 have:=zuh ⟨r.toNat,by omega⟩ ⟨n.toNat,by omega⟩ (by show r.toNat≤n.toNat;omega)
 simpa [Int.toNat_of_nonneg h,Int.toNat_of_nonneg (show 0≤n by omega)] using this
theorem zwf {a b c:BitVec 64} (ha:a&&& ~~~c=0#64) (hb:b&&& ~~~c=0#64):(a|||b)&&& ~~~c=0#64:=by
 apply BitVec.eq_of_getLsbD_eq
 intro i hi
 have h1:=congrArg (fun x=>x.getLsbD i) ha
 have h2:=congrArg (fun x=>x.getLsbD i) hb
 simp only [BitVec.getLsbD_and,BitVec.getLsbD_or,BitVec.getLsbD_not,BitVec.getLsbD_zero,hi,decide_true,Bool.true_and] at h1 h2 ⊢
 revert h1 h2
 generalize a.getLsbD i=x
 generalize b.getLsbD i=y
 generalize c.getLsbD i=z
 cases x<;>cases y<;>cases z<;>decide
theorem zxE {c:BitVec 64} {l:List Int} (h: ∀o∈l,bit o&&& ~~~c=0#64): ∀(z:BitVec 64),z&&& ~~~c=0#64→l.foldl (fun s o=>s|||bit o) z&&& ~~~c=0#64:=by
 induction l with
 | nil=>intro z hz;exact hz
 | cons a l ih=>intro z hz;exact ih (fun o ho=>h o (List.mem_cons_of_mem _ ho)) _ (zwf hz (h a (List.mem_cons_self ..)))
theorem zlr {p:zb} (h:zA p):uk p&&& ~~~vq (p.H.Objs.length:Int)=0#64:=by
 have hn:=h.n
 have key: ∀(L:List (List Int)) (z:BitVec 64),(∀r∈L,∀v∈r,0≤v∧v≤(p.H.Objs.length:Int))→z&&& ~~~vq (p.H.Objs.length:Int)=0#64→L.foldl (fun s l=>s|||zfO l) z&&& ~~~vq (p.H.Objs.length:Int)=0#64:=by
  intro L
  induction L with
  | nil=>intro z _ hz;exact hz
  | cons r L ih =>
   intro z hr hz
   refine ih _ (fun r' h'=>hr r' (List.mem_cons_of_mem _ h')) (zwf hz (zxE (fun o ho=> ?_) _ (by simp)))
   have:=hr r (List.mem_cons_self ..) o ho
   exact zzZ this.1 this.2 hn.2
 exact key _ _ (fun r hr=>(h.reg r hr).2) (zp5 h)
theorem zw6 {a b c:BitVec 64} (h:a&&& ~~~b=0#64) (h2:b&&& ~~~c=0#64):a&&& ~~~c=0#64:=by
 apply BitVec.eq_of_getLsbD_eq
 intro i hi
 have h1:=congrArg (fun x=>x.getLsbD i) h
 have h2:=congrArg (fun x=>x.getLsbD i) h2
 simp only [BitVec.getLsbD_and,BitVec.getLsbD_not,BitVec.getLsbD_zero,hi,decide_true,Bool.true_and] at h1 h2 ⊢
 revert h1 h2
 generalize a.getLsbD i=x
 generalize b.getLsbD i=y
 generalize c.getLsbD i=z
 cases x<;>cases y<;>cases z<;>decide
theorem zw2: ∀n:Fin 7,vq (n.1:Int)&&& ~~~63#64=0#64:=by decide
theorem zfS {p:zb} (h:zA p):uk p&&& ~~~63#64=0#64:=by
 have hn:=h.n
 refine zw6 (zlr h) ?_
 exact zw2 ⟨p.H.Objs.length,by omega⟩
theorem zyo: ∀(n:Fin 7) (t:Fin 64),BitVec.ofNat 64 t.1&&& ~~~vq (n.1:Int)=0#64→(Wy (BitVec.ofNat 64 t.1)).length≤n.1:=by decide +kernel
theorem zkQ {p:zb} (h:zA p):(Wy (uk p)).length≤p.H.Objs.length:=by
 have hn:=h.n
 obtain ⟨t,ht⟩:=zwl (zfS h)
 have h2:=zlr h
 rw [ht] at h2 ⊢
 exact zyo ⟨p.H.Objs.length,by omega⟩ t h2
theorem zqv {p:zb} (h:zA p):(xy p).length≤p.H.Objs.length:=by
 have hb:=h.bin
 exact Nat.le_trans (zr5 _ (by omega) _ _) (zkQ h)
theorem zkM {p:zb} (h:zA p):XO p=some (yM p,()):=by
 have hw:=h.wk
 have hc:=h.cap
 have hm:=h.mt
 have hb:=h.bin
 have hn:=h.n
 have hmo:=h.most
 have hrl:=h.regs
 have hreg: ∀r∈p.Regs,r.length<1000000:=fun r hr=>by have:=(h.reg r hr).1;omega
 have hobj: ∀o∈p.H.Objs,o.length<1000000:=fun o ho=>by have:=(h.objs o ho).1;have:=h.slots;omega
 have hfl:=zqv h
 have hgl:=zkQ h
 have hcl:=UV p p.Workers.toNat
 have hcb:p.Workers.toNat*(p.Cap.toNat+2)≤3*5:=Nat.mul_le_mul (by omega) (by omega)
 have hbn:(zZ p:Int)=p.Most+p.Workers+p.Mutators:=by unfold zZ;omega
 have eb:zf7 p=some ((zZ p:Int),()):=by
  rw [zsJ,z9 (a:=p.Most+p.Workers) (by omega) (by omega),z9 (by omega) (by omega),hbn]
 have hul:=zwh (zZ p)
 have ec:zah (Wy (uk p)) p.Bin=some (xy p):=by
  show ziS _ _=_
  unfold ziS xy
  have c1:(decide (1≤p.Bin)&&decide (p.Bin<1000000)&&decide (((Wy (uk p)).length:Int)<1000000))=true:=by simp<;>omega
  rw [c1];rfl
 have cut1:cut (xz (zZ p)) 0 ((xy p).length:Int)=some ((xz (zZ p)).take (xy p).length):=by
  unfold cut
  have:((xy p).length:Int)≤((xz (zZ p)).length:Int):=by omega
  simp [this]
 have cut2:cut (xz (zZ p)) ((xy p).length:Int) ((xz (zZ p)).length:Int)=some ((xz (zZ p)).drop (xy p).length):=by
  unfold cut
  have:((xy p).length:Int)≤((xz (zZ p)).length:Int):=by omega
  simp [this]
 rw [zta,zxV h]
 simp only [Option.bind_some,Bool.not_true,cond_false]
 rw [zsi (by omega) hreg]
 simp only [Option.bind_some,zzH,zyi hm.1 (show p.Mutators≤16 by omega)]
 rw [zzc (by omega) hobj]
 simp only [Option.bind_some]
 rw [zCp h]
 simp only [Option.bind_some,eb]
 have e3:(2+(zZ p:Int)).toNat=2+zZ p:=by omega
 rw [z9 (a:=2+(zZ p:Int)) (by omega) (by omega),zt5 (by omega) (by omega),e3,Option.bind_some,wT (l:=YA p p.Workers.toNat++List.replicate (2+zZ p) 0#64) (by simp<;>omega),Option.bind_some,zBr (by omega)]
 dsimp only [Option.bind_some]
 rw [Int.toNat_natCast,zAq (zfS h),Option.bind_some,zg3,zw,if_neg (by omega),Option.bind_some,ec,Option.bind_some,zxs _ _ (by simp<;>omega) (fun c hc'=>by have:=zkW _ _ _ _ hc';omega)]
 dsimp only [Option.bind_some]
 have e1:w64 ((([[]]++xy p:List (List Int)).length:Int)-1)=((xy p).length:Int):=by
  rw [z9 (by simp<;>omega) (by simp<;>omega)];simp
 have e2:w64 (((xz (zZ p)).length:Int)-((xy p).length:Int))=((zZ p-(xy p).length:Nat):Int):=by
  rw [z9 (by omega) (by omega)];omega
 rw [e1,e2,zt5 (by omega) (by omega),Int.toNat_natCast,Option.bind_some,wT (by simp<;>omega),Option.bind_some,zdI,Option.bind_some,zbC,Option.bind_some,cut1,Option.bind_some,ztS (by simp<;>omega) (by simp<;>omega),Option.bind_some,zb8,Option.bind_some,Option.bind_some,cut2,Option.bind_some,ztS (by rw [zqJ];simp<;>omega) (by simp<;>omega),Option.bind_some,decide_true,cond_true,ziL hm.1 (show p.Mutators<4294967296 by omega),Option.bind_some,zBN (by omega) hreg]
 rfl
end
end Go.Pe.G
namespace Go.Pe.G
open Go.Pe
noncomputable section
theorem zkA (h:BitVec 64):yx h=((h.toNat%4294967296:Nat):Int):=by
 unfold yx
 have e:(h&&&4294967295#64).toNat=h.toNat%4294967296:=by
  rw [BitVec.toNat_and]
  exact Nat.and_two_pow_sub_one_eq_mod h.toNat 32
 rw [BitVec.toInt_eq_toNat_cond,e]
 omega
theorem zkN (h:BitVec 64):0≤yx h∧yx h<4294967296:=by rw [zkA];omega
theorem zdk (v:BitVec 64) {n:Int} (h:0≤n) (h2:n<4294967296):yx (xj v n)=n:=by
 rw [zkA]
 unfold xj
 rw [BitVec.toNat_or,BitVec.toNat_and,BitVec.toNat_shiftLeft]
 have e1:(v.toNat <<< 32%2 ^ 64|||(BitVec.ofInt 64 n).toNat&&&(4294967295#64).toNat)%2 ^ 32=(v.toNat <<< 32%2 ^ 64)%2 ^ 32|||((BitVec.ofInt 64 n).toNat&&&(4294967295#64).toNat)%2 ^ 32:=Nat.or_mod_two_pow
 have e2:v.toNat <<< 32%2 ^ 64%2 ^ 32=0:=by rw [Nat.shiftLeft_eq];omega
 have e3:(BitVec.ofInt 64 n).toNat&&&(4294967295#64).toNat=n.toNat:=by
  have:(BitVec.ofInt 64 n).toNat=n.toNat:=by rw [BitVec.toNat_ofInt];omega
  rw [this]
  exact (Nat.and_two_pow_sub_one_eq_mod n.toNat 32).trans (Nat.mod_eq_of_lt (by omega))
 rw [show (4294967296:Nat)=2 ^ 32 from rfl,e1,e2,e3,Nat.zero_or,Nat.mod_eq_of_lt (by omega)]
 omega
theorem toInt_ofInt {n:Int} (h:0≤n) (h2:n<4294967296):(BitVec.ofInt 64 n).toInt=n:=by
 have e:(BitVec.ofInt 64 n).toNat=n.toNat:=by rw [BitVec.toNat_ofInt];omega
 rw [BitVec.toInt_eq_toNat_cond,e]
 omega
theorem WA {m:List (BitVec 64)} {a b:Int} {v:BitVec 64}:ld (st m a v) b=if a=b∧0≤a∧a<m.length then v else ld m b:=by
 unfold ld st
 by_cases hb:0≤b
 ·rw [if_pos hb,if_pos hb]
  by_cases ha:0≤a
  ·rw [if_pos ha,List.getD_eq_getElem?_getD,List.getD_eq_getElem?_getD,List.getElem?_set]
   by_cases hab:a.toNat=b.toNat
   ·have e:a=b:=by omega
    subst e
    by_cases hl:a.toNat<m.length
    ·rw [if_pos rfl,if_pos hl,if_pos ⟨rfl,ha,by omega⟩];rfl
    ·rw [if_pos rfl,if_neg hl,if_neg (by omega),List.getElem?_eq_none (by omega)]
   ·rw [if_neg hab,if_neg (by omega)]
  ·rw [if_neg ha,if_neg (by omega)]
 ·rw [if_neg hb,if_neg hb,if_neg (by omega)]
theorem yy {m:List (BitVec 64)} {a b:Int} {v:BitVec 64} (h:a≠b):ld (st m a v) b=ld m b:=by
 rw [WA,if_neg (fun h'=>h h'.1)]
theorem Yp {p:zb} (h:zA p):yh p=p.Workers*(p.Cap+2)∧3≤yh p∧yh p≤15:=by
 have hw:=h.wk
 have hc:=h.cap
 unfold yh
 rw [xg (a:=p.Cap+2) (by omega) (by omega)]
 have hx:p.Workers=1∨p.Workers=2∨p.Workers=3:=by omega
 rcases hx with hx | hx | hx<;>rw [hx,xg (by omega) (by omega)]<;>omega
theorem wN {p:zb} (h:zA p):zI p=yh p+1:=by
 have:=Yp h
 unfold zI
 rw [xg (by omega) (by omega)]
theorem Xb {p:zb} (h:zA p) {w:Int} (h1:1≤w) (h2:w≤p.Workers):zW p w=(w-1)*(p.Cap+2)∧0≤zW p w∧zW p w+p.Cap+2≤yh p:=by
 have hw:=h.wk
 have hc:=h.cap
 have hf:=(Yp h).1
 unfold zW
 rw [xg (a:=p.Cap+2) (by omega) (by omega),xg (a:=w-1) (by omega) (by omega)]
 have hx:p.Workers=1∨p.Workers=2∨p.Workers=3:=by omega
 have hy:w=1∨w=2∨w=3:=by omega
 rw [hf]
 rcases hx with hx | hx | hx<;>rcases hy with hy | hy | hy<;>first | omega | (rw [hx,hy,xg (by omega) (by omega)]<;>omega)
theorem zqi {p:zb} (h:zA p) {d:zh} {w:Int} (h1:1≤w) (h2:w≤p.Workers) (hb:d.Base=zW p w) (hc:d.Cap=p.Cap) (i:BitVec 64) :
  VY d i=d.Base+2+((i.toNat%p.Cap.toNat:Nat):Int)∧d.Base+2≤VY d i∧VY d i<d.Base+2+p.Cap:=by
 have hcp:=h.cap
 have hd:=Xb h h1 h2
 have hf:=Yp h
 have hs:(VW d).toNat=p.Cap.toNat:=by
  unfold VW
  rw [hc,if_neg (by omega),BitVec.toNat_ofInt]
  omega
 have hlt:i.toNat%p.Cap.toNat<p.Cap.toNat:=Nat.mod_lt _ (by omega)
 have hm:(i%VW d).toInt=((i.toNat%p.Cap.toNat:Nat):Int):=by
  rw [BitVec.toInt_eq_toNat_cond,BitVec.toNat_umod,hs]
  omega
 unfold VY
 rw [hm,xg (a:=d.Base+2) (by omega) (by omega),xg (by omega) (by omega)]
 omega
structure SOk (p:zb) (nb:Nat) (s:za):Prop where
 P:s.P=p
 bins:s.Bins.length=nb
 nbk:1≤nb∧nb<1000
 mem:s.M.length<100000
 cF:yx (ld s.M (yh p))<nb
 cE:yx (ld s.M (zI p))<nb
 cL: ∀a,zI p<a→0≤(ld s.M a).toInt∧(ld s.M a).toInt<nb
structure MOk (p:zb) (nb:Nat) (g:zC):Prop where
 who:g.Mode=1→1≤g.Who∧g.Who≤p.Workers
 d3:g.PC=3→g.D.Kind=1∧g.D.Base=zW p g.Who∧g.D.Cap=p.Cap∧g.Mode=1
 c5:g.PC=5→g.C.Kind=2∧g.C.Head=zI p∧g.C.Next=zI p∧(1≤g.C.PC→1≤yx g.C.H∧yx g.C.H<nb)∧(2≤g.C.PC→0≤g.C.Y∧g.C.Y<nb)
 b6:g.PC=6→1≤g.Bin∧g.Bin<nb
 c7:g.PC=7→g.C.Kind=1∧g.C.Head=yh p∧g.C.Next=zI p∧(1≤g.C.X∧g.C.X<nb)∧(1≤g.C.PC→yx g.C.H<nb)
theorem SOk.gok {p:zb} {nb:Nat} {s:za} {g:zC} (h:zA p) (S:SOk p nb s) (M:MOk p nb g):GOk s g:=by
 have hc:=h.cap
 refine ⟨by have:=S.mem;omega,by have:=S.bins;have:=S.nbk;omega,fun h6=> ?_,fun h3=> ?_⟩
 ·have:=M.b6 h6;have:=S.bins;omega
 ·obtain ⟨a,b,c,_⟩:=M.d3 h3;exact ⟨a,by omega⟩
theorem SOk.low {p:zb} {nb:Nat} {s:za} (h:zA p) (S:SOk p nb s) {a:Int} (ha:a<yh p) (v:BitVec 64):SOk p nb {s with M:=st s.M a v}:=by
 have he:=wN h
 exact ⟨S.P,S.bins,S.nbk,by simp only [ZR];exact S.mem,by simp only [yy (show a≠yh p by omega)];exact S.cF,by simp only [yy (show a≠zI p by omega)];exact S.cE,fun b hb=>by
  simp only [yy (show a≠b by omega)];exact S.cL b hb⟩
theorem SOk.link {p:zb} {nb:Nat} {s:za} (h:zA p) (S:SOk p nb s) {a:Int} (ha:zI p<a) {v:BitVec 64} (hv:0≤v.toInt∧v.toInt<nb):SOk p nb {s with M:=st s.M a v}:=by
 have he:=wN h
 exact ⟨S.P,S.bins,S.nbk,by simp only [ZR];exact S.mem,by simp only [yy (show a≠yh p by omega)];exact S.cF,by simp only [yy (show a≠zI p by omega)];exact S.cE,fun b hb=>by
  simp only [WA]
  split
  ·exact hv
  ·exact S.cL b hb⟩
theorem SOk.head {p:zb} {nb:Nat} {s:za} (h:zA p) (S:SOk p nb s) {a:Int} (ha:a=yh p∨a=zI p) {v:BitVec 64} (hv:yx v<nb):SOk p nb {s with M:=st s.M a v}:=by
 have he:=wN h
 refine ⟨S.P,S.bins,S.nbk,by simp only [ZR];exact S.mem,?_,?_,fun b hb=> ?_⟩
 ·simp only [WA]
  split
  ·exact hv
  ·exact S.cF
 ·simp only [WA]
  split
  ·exact hv
  ·exact S.cE
 ·simp only [yy (show a≠b by omega)];exact S.cL b hb
theorem SOk.swap {p:zb} {nb:Nat} {s:za} (h:zA p) (S:SOk p nb s) {a:Int} (ha:a=yh p∨a=zI p) (x:BitVec 64) {v:BitVec 64} (hv:yx v<nb):SOk p nb {s with M:=(sw s.M a x v).1}:=by
 unfold sw
 split
 ·exact S.head h ha hv
 ·exact S
theorem zv2 {p:zb} {nb:Nat} {s:za} (h:zA p) (S:SOk p nb s) {c:zH} {hd:Int} (hdd:hd=yh p∨hd=zI p) (hk:c.Kind=2) (hh:c.Head=hd) (hn:c.Next=zI p)
  (h1:1≤c.PC→1≤yx c.H∧yx c.H<nb) (h2:2≤c.PC→0≤c.Y∧c.Y<nb) (ho:c.Out≠1) :
  SOk p nb {s with M:=(zm s.M c).1}∧(zm s.M c).2.Kind=2∧(zm s.M c).2.Head=hd∧(zm s.M c).2.Next=zI p ∧
  ((zm s.M c).2.Out≠1→(zm s.M c).2.Out≠2→(1≤(zm s.M c).2.PC→1≤yx (zm s.M c).2.H∧yx (zm s.M c).2.H<nb)∧(2≤(zm s.M c).2.PC→0≤(zm s.M c).2.Y∧(zm s.M c).2.Y<nb)) ∧
  ((zm s.M c).2.Out=1→1≤(zm s.M c).2.X∧(zm s.M c).2.X<nb):=by
 have hnb:=S.nbk
 have hE:=wN h
 have hF:=Yp h
 unfold zm
 split
 ·exact ⟨S,hk,hh,hn,fun _ _=>⟨h1,h2⟩,fun e=>absurd e ho⟩
 ·split
  ·rw [hh]
   have n1:=zkN (ld s.M hd)
   have n2:yx (ld s.M hd)<nb:=by
    rcases hdd with e | e<;>rw [e]
    ·exact S.cF
    ·exact S.cE
   split
   ·exact ⟨S,hk,rfl,hn,fun _ h=>absurd rfl h,fun e=>by cases e⟩
   ·rename_i hne
    refine ⟨S,hk,rfl,hn,fun _ _=>⟨fun _=>⟨?_,n2⟩,fun e=>absurd e (by dsimp only;omega)⟩,fun e=>absurd e ho⟩
    have:yx (ld s.M hd)≠0:=fun e=>hne ⟨hk,e⟩
    dsimp only
    omega
  ·split
   ·try rw [if_pos hk]
    have hpc:1≤c.PC:=by omega
    have n1:=h1 hpc
    refine ⟨S,hk,hh,hn,fun _ _=>⟨fun _=>n1,fun _=> ?_⟩,fun e=>absurd e ho⟩
    dsimp only
    rw [hn,xg (by omega) (by omega)]
    exact S.cL _ (by omega)
   ·rename_i g1 g2 g3
    have hpc:c.PC=2:=by omega
    have n1:=h1 (by omega)
    have n2:=h2 (by omega)
    simp only [if_pos hk]
    refine ⟨S.swap h (by rw [hh];exact hdd) _ (by rw [zdk _ n2.1 (by omega)];exact n2.2),?_⟩
    split
    ·exact ⟨hk,hh,hn,fun e=>absurd rfl e,fun _=>n1⟩
    ·exact ⟨hk,hh,hn,fun _ _=>⟨fun e=>absurd e (by dsimp only;omega),fun e=>absurd e (by dsimp only;omega)⟩,fun e=>absurd e ho⟩
theorem ztD {p:zb} {nb:Nat} {s:za} (h:zA p) (S:SOk p nb s) {c:zH} {hd:Int} (hdd:hd=yh p∨hd=zI p) (hk:c.Kind=1) (hh:c.Head=hd) (hn:c.Next=zI p) (hx:1≤c.X∧c.X<nb)
  (h1:1≤c.PC→yx c.H<nb) :
  SOk p nb {s with M:=(zm s.M c).1}∧(zm s.M c).2.Kind=1∧(zm s.M c).2.Head=hd∧(zm s.M c).2.Next=zI p∧(1≤(zm s.M c).2.X∧(zm s.M c).2.X<nb) ∧
  (1≤(zm s.M c).2.PC→yx (zm s.M c).2.H<nb):=by
 have hnb:=S.nbk
 have hE:=wN h
 have hF:=Yp h
 have hk2: ¬c.Kind=2:=by omega
 unfold zm
 split
 ·exact ⟨S,hk,hh,hn,hx,h1⟩
 ·split
  ·rw [if_neg (fun e=>hk2 e.1),hh]
   exact ⟨S,hk,rfl,hn,hx,fun _=>hdd.elim (fun e=>by dsimp only;rw [e];exact S.cF) (fun e=>by dsimp only;rw [e];exact S.cE)⟩
  ·split
   ·try rw [if_neg hk2]
    have hpc:1≤c.PC:=by omega
    have n1:=h1 hpc
    have n2:=zkN c.H
    refine ⟨?_,hk,hh,hn,hx,fun _=>n1⟩
    dsimp only
    rw [hn,xg (by omega) (by omega)]
    exact S.link h (by omega) (by rw [toInt_ofInt (by omega) (by omega)];omega)
   ·have n1:=h1 (by omega)
    simp only [if_neg hk2]
    refine ⟨S.swap h (by rw [hh];exact hdd) _ (by rw [zdk _ (by omega) (by omega)];exact hx.2),?_⟩
    split
    ·exact ⟨hk,hh,hn,hx,fun _=>n1⟩
    ·exact ⟨hk,hh,hn,hx,fun _=>n1⟩
theorem MOk.ask {p:zb} {nb:Nat} {g:zC} (hw:g.Mode=1→1≤g.Who∧g.Who≤p.Workers):MOk p nb (zdH p g) :=
 ⟨hw,fun e=>(by cases e),fun _=>⟨rfl,rfl,rfl,fun e=>absurd e (show ¬(1:Int)≤0 by decide),fun e=>absurd e (show ¬(2:Int)≤0 by decide)⟩,fun e=>(by cases e),fun e=>(by cases e)⟩
theorem zpl {p:zb} {nb:Nat} {s:za} {g:zC} (h:zA p) (S:SOk p nb s) (M:MOk p nb g) (hout:g.PC=5→g.C.Out≠1):SOk p nb (zo s g).1∧MOk p nb (zo s g).2∧((zo s g).2.PC=5→(zo s g).2.C.Out≠1):=by
 have hP:=S.P
 unfold zo
 split
 ·exact ⟨S,M,hout⟩
 split
 ·rename_i h7
  obtain ⟨a1,a2,a3,a4,a5⟩:=M.c7 h7
  obtain ⟨b1,b2,b3,b4,b5,b6⟩:=ztD h S (.inl rfl) a1 a2 a3 a4 a5
  unfold za9
  refine ⟨b1,?_,?_⟩
  ·dsimp only
   split<;>exact ⟨M.who,fun e=>(by dsimp only at e;omega),fun e=>(by dsimp only at e;omega),fun e=>(by dsimp only at e;omega),fun _=>⟨b2,b3,b4,b5,b6⟩⟩
  ·dsimp only
   split<;>exact fun e=>by dsimp only at e;omega
 split
 ·rename_i h6
  obtain ⟨a1,a2⟩:=M.b6 h6
  unfold zuK
  refine ⟨⟨hP,by simp only [List.length_set];exact S.bins,S.nbk,S.mem,S.cF,S.cE,S.cL⟩,⟨M.who,fun e=>(by cases e),fun e=>(by cases e),fun e=>(by cases e),fun _=>⟨rfl,by rw [hP],by rw [hP],⟨a1,a2⟩,fun e=>absurd e (show ¬(1:Int)≤0 by decide)⟩⟩,fun e=>by cases e⟩
 split
 ·rename_i h5
  obtain ⟨a1,a2,a3,a4,a5⟩:=M.c5 h5
  obtain ⟨b1,b2,b3,b4,b5,b6⟩:=zv2 h S (.inr rfl) a1 a2 a3 a4 a5 (hout h5)
  unfold zhV
  refine ⟨b1,?_,?_⟩
  ·dsimp only
   split
   ·rename_i e1
    exact ⟨M.who,fun e=>(by cases e),fun e=>(by cases e),fun _=>b6 e1,fun e=>(by cases e)⟩
   ·split
    ·rw [hP];exact MOk.ask M.who
    ·rename_i e1 e2
     exact ⟨M.who,fun e=>(by dsimp only at e;omega),fun _=>⟨b2,b3,b4,b5 e1 e2⟩,fun e=>(by dsimp only at e;omega),fun e=>(by dsimp only at e;omega)⟩
  ·dsimp only
   split
   ·exact fun e=>by cases e
   ·split
    ·exact fun _ e=>by cases e
    ·rename_i e1 e2;exact fun _=>e1
 split
 ·rw [hP]
  exact ⟨⟨rfl,S.bins,S.nbk,S.mem,S.cF,S.cE,S.cL⟩,MOk.ask M.who,fun _ e=>by cases e⟩
 split
 ·rename_i h3
  obtain ⟨a1,a2,a3,a4⟩:=M.d3 h3
  have hw:=M.who a4
  obtain ⟨d1,d2,d3⟩:=Xb h hw.1 hw.2
  have hc:=h.cap
  have hf:=Yp h
  have hs:SOk p nb {s with M:=(yW s.M g.D).1}:=by
   unfold yW
   split
   ·exact S
   split
   ·exact S
   split
   ·exact S
   split
   ·have:=zqi h hw.1 hw.2 a2 a3 g.D.B
    exact S.low h (by omega) _
   ·dsimp only
    rw [xg (by omega) (by omega)]
    exact S.low h (by omega) _
  have hd:(yW s.M g.D).2.Kind=1∧(yW s.M g.D).2.Base=zW p g.Who∧(yW s.M g.D).2.Cap=p.Cap:=by
   unfold yW
   split
   ·exact ⟨a1,a2,a3⟩
   split
   ·exact ⟨a1,a2,a3⟩
   split
   ·dsimp only
    split<;>exact ⟨a1,a2,a3⟩
   split<;>exact ⟨a1,a2,a3⟩
  unfold zih
  refine ⟨hs,?_,?_⟩
  ·dsimp only
   split
   ·exact ⟨M.who,fun _=>⟨hd.1,hd.2.1,hd.2.2,a4⟩,fun e=>(by dsimp only at e;omega),fun e=>(by dsimp only at e;omega),fun e=>(by dsimp only at e;omega)⟩
   ·split
    ·rw [hP];exact MOk.ask M.who
    ·exact ⟨M.who,fun _=>⟨hd.1,hd.2.1,hd.2.2,a4⟩,fun e=>(by dsimp only at e;omega),fun e=>(by dsimp only at e;omega),fun e=>(by dsimp only at e;omega)⟩
  ·dsimp only
   split
   ·exact fun e=>by dsimp only at e;omega
   ·split
    ·exact fun _ e=>by cases e
    ·exact fun e=>by dsimp only at e;omega
 split
 ·rename_i h2
  exact ⟨⟨hP,S.bins,S.nbk,S.mem,S.cF,S.cE,S.cL⟩,⟨M.who,fun e=>(by dsimp only at e;omega),fun e=>(by dsimp only at e;omega),fun e=>(by dsimp only at e;omega),fun e=>(by dsimp only at e;omega)⟩,fun e=>by dsimp only at e;omega⟩
 split
 ·unfold zh1
  refine ⟨⟨hP,S.bins,S.nbk,S.mem,S.cF,S.cE,S.cL⟩,?_,?_⟩
  ·dsimp only
   split
   ·exact ⟨M.who,fun e=>(by cases e),fun e=>(by cases e),fun e=>(by cases e),fun e=>(by cases e)⟩
   split
   ·exact ⟨M.who,fun _=>⟨rfl,by rw [hP],by rw [hP],by assumption⟩,fun e=>(by cases e),fun e=>(by cases e),fun e=>(by cases e)⟩
   split
   ·exact ⟨M.who,fun e=>(by cases e),fun e=>(by cases e),fun e=>(by cases e),fun e=>(by cases e)⟩
   ·rw [hP];exact MOk.ask M.who
  ·dsimp only
   split
   ·exact fun e=>by cases e
   split
   ·exact fun e=>by cases e
   split
   ·exact fun e=>by cases e
   ·exact fun _ e=>by cases e
 ·exact ⟨⟨hP,S.bins,S.nbk,S.mem,S.cF,S.cE,S.cL⟩,⟨M.who,fun e=>(by cases e),fun e=>(by cases e),fun e=>(by cases e),fun e=>(by cases e)⟩,fun e=>by cases e⟩
theorem Vw (s:za) (g:zC):(zo s g).2.Obj=g.Obj∧(zo s g).2.Who=g.Who∧(zo s g).2.Mode=g.Mode:=by
 unfold zo
 split
 ·exact ⟨rfl,rfl,rfl⟩
 split
 ·unfold za9;dsimp only;split<;>exact ⟨rfl,rfl,rfl⟩
 split
 ·exact ⟨rfl,rfl,rfl⟩
 split
 ·unfold zhV;dsimp only
  split
  ·exact ⟨rfl,rfl,rfl⟩
  ·split<;>exact ⟨rfl,rfl,rfl⟩
 split
 ·exact ⟨rfl,rfl,rfl⟩
 split
 ·unfold zih;dsimp only
  split
  ·exact ⟨rfl,rfl,rfl⟩
  ·split<;>exact ⟨rfl,rfl,rfl⟩
 split
 ·exact ⟨rfl,rfl,rfl⟩
 split
 ·unfold zh1;dsimp only
  split
  ·exact ⟨rfl,rfl,rfl⟩
  split
  ·exact ⟨rfl,rfl,rfl⟩
  split<;>exact ⟨rfl,rfl,rfl⟩
 ·exact ⟨rfl,rfl,rfl⟩
end
end Go.Pe.G
namespace Go.Pe.G
open Go.Pe
noncomputable section
def OkV (nb:Nat) (v:BitVec 64):Prop:=yx v<nb∧0≤v.toInt∧v.toInt<nb
theorem zv0 {nb:Nat} (h:1≤nb):OkV nb 0#64:=by
 refine ⟨by rw [zkA];simp;omega,by simp,by simp;omega⟩
theorem ztr {nb:Nat} {b:Int} (h:0≤b) (h2:b<nb) (h3:nb<1000):OkV nb (BitVec.ofInt 64 b):=by
 have e:(BitVec.ofInt 64 b).toNat=b.toNat:=by rw [BitVec.toNat_ofInt];omega
 refine ⟨by rw [zkA,e];omega,?_⟩
 rw [toInt_ofInt h (by omega)]
 omega
theorem zua {b:Int} (h:0≤b) (h2:b<4294967296):xj 0#64 b=BitVec.ofInt 64 b:=by
 have e:(BitVec.ofInt 64 b).toNat=b.toNat:=by rw [BitVec.toNat_ofInt];omega
 apply BitVec.eq_of_toNat_eq
 unfold xj
 rw [BitVec.toNat_or,BitVec.toNat_and,e]
 have:b.toNat&&&(4294967295#64).toNat=b.toNat:=(Nat.and_two_pow_sub_one_eq_mod b.toNat 32).trans (Nat.mod_eq_of_lt (by omega))
 rw [this]
 simp
def Wt (F:Int) (nb:Nat) (m:List (BitVec 64)):Prop:=∀a,F≤a→OkV nb (ld m a)
theorem Wt.st {F:Int} {nb:Nat} {m:List (BitVec 64)} (h:Wt F nb m) (a:Int) {v:BitVec 64} (hv:OkV nb v):Wt F nb (st m a v):=fun b hb=>by
 rw [WA]
 split
 ·exact hv
 ·exact h b hb
theorem Wt.links {F:Int} {nb:Nat} (h1:1≤nb) (h3:nb<1000): ∀(l:List Int) (m:List (BitVec 64)) (n:Int),(∀b∈l,0≤b∧b<nb)→Wt F nb m→Wt F nb (links m n l)
 | [],m,n,_,h=>h
 | [a],m,n,_,h=>h.st _ (zv0 h1)
 | a::b::l,m,n,hb,h=>Wt.links h1 h3 (b::l) _ n (fun x hx=>hb x (List.mem_cons_of_mem _ hx)) (h.st _ (ztr (hb b (by simp)).1 (hb b (by simp)).2 h3))
theorem Wt.lay {F:Int} {nb:Nat} (h1:1≤nb) (h3:nb<1000) {l:List Int} {m:List (BitVec 64)} {hd n:Int} (hb: ∀b∈l,0≤b∧b<nb) (h:Wt F nb m):Wt F nb (zcY m hd n l):=by
 unfold zcY
 refine (Wt.links h1 h3 l m n hb h).st _ ?_
 cases l with
 | nil=>rw [List.headD_nil,zua (by omega) (by omega)];exact ztr (by omega) (by omega) h3
 | cons a r =>
  have:=hb a (by simp)
  rw [List.headD_cons,zua this.1 (by omega)]
  exact ztr this.1 this.2 h3
theorem zeQ {k:Nat} {b:Int} (h:b∈xz k):1≤b∧b≤k:=by
 unfold xz at h
 obtain ⟨i,hi,rfl⟩:=List.mem_map.1 h
 have:=List.mem_range.1 hi
 omega
theorem zi4 {p:zb} (h:zA p):(zZ p:Int)=p.Most+p.Workers+p.Mutators∧2≤zZ p∧zZ p≤14:=by
 have:=h.most
 have:=h.n
 have:=h.wk
 have:=h.mt
 unfold zZ
 omega
theorem zxy {p:zb} (h:zA p):SOk p (zZ p+1) (yM p):=by
 have hb:=zi4 h
 have hf:=zqv h
 have hn:=h.n
 have hw:=h.wk
 have hc:=h.cap
 have hmo:=h.most
 have hF:=Yp h
 have hE:=wN h
 have hcl:=UV p p.Workers.toNat
 have hfe:yh p=((p.Workers.toNat*(p.Cap.toNat+2):Nat):Int):=by
  rw [hF.1]
  have e1:p.Workers=((p.Workers.toNat:Nat):Int):=by omega
  have e2:p.Cap+2=((p.Cap.toNat+2:Nat):Int):=by omega
  rw [e2,Int.natCast_mul]
  rw [←e1]
 have h0:Wt (yh p) (zZ p+1) (YA p p.Workers.toNat++List.replicate (2+zZ p) 0#64):=by
  intro a ha
  have:ld (YA p p.Workers.toNat++List.replicate (2+zZ p) 0#64) a=0#64:=by
   unfold ld
   rw [if_pos (by omega),List.getD_eq_getElem?_getD,List.getElem?_append_right (by omega),List.getElem?_replicate]
   split<;>rfl
  rw [this]
  exact zv0 (by omega)
 have h1:Wt (yh p) (zZ p+1) (yM p).M:=by
  refine Wt.lay (by omega) (by omega) (fun b hb'=> ?_) (Wt.lay (by omega) (by omega) (fun b hb'=> ?_) h0)
  ·have:=zeQ (List.mem_of_mem_drop hb');omega
  ·have:=zeQ (List.mem_of_mem_take hb');omega
 have hlen:(yM p).M.length=p.Workers.toNat*(p.Cap.toNat+2)+(2+zZ p):=by
  show (zcY _ _ _ _).length=_
  rw [zqJ,zqJ,List.length_append,hcl,List.length_replicate]
 refine ⟨rfl,?_,by omega,by rw [hlen];omega,(h1 _ (by omega)).1,(h1 _ (by omega)).1,fun a ha=>(h1 a (by omega)).2⟩
 have hd:(yM p).Bins.length=1+(xy p).length+(zZ p-(xy p).length):=by
  show ([[]]++xy p++List.replicate (zZ p-(xy p).length) ([]:List Int)).length=_
  rw [List.length_append,List.length_append,List.length_replicate];rfl
 have h2:=hb.1
 have hmt:=h.mt
 rw [hd]
 omega
def ZK (mode obj who:Int):zC:=⟨0,mode,obj,who,⟨0,0,0,0,0#64,0#64,0,0⟩,⟨0,0,0,0,0#64,0,0,0⟩,0,0⟩
theorem zmK (a b c:Int):zbi a b c=some (ZK a b c,()):=by rw [zsw];rfl
end
end Go.Pe.G
namespace Go.Pe.G
open Go.Pe
noncomputable section
structure YY (s:za):Prop where
 m:s.M.length<1000000
 bins:s.Bins.length<1000000
 bin: ∀x∈s.Bins,x.length<1000000
 acks:s.Acks.length<1000000
 bal:s.L.Bal.length<1000000
 ws:s.Ws.length<1000000
 w: ∀x∈s.Ws,x.Batch.length<1000000
 ms:s.Ms.length<1000000
 mu: ∀x∈s.Ms,x.Regs.length<1000000∧x.Buf.length<1000000∧x.Batch.length<1000000
 objs:s.H.Objs.length<1000000
 obj: ∀x∈s.H.Objs,x.length<1000000
 pobjs:s.P.H.Objs.length<1000000
 pobj: ∀x∈s.P.H.Objs,x.length<1000000
 regs:s.P.Regs.length<1000000
 reg: ∀x∈s.P.Regs,x.length<1000000
 progs:s.P.Progs.length<1000000
 prog: ∀x∈s.P.Progs,x.length<1000000
 picks:s.P.Picks.length<1000000
theorem zbp (m:List (BitVec 64)) (c:zH):(zm m c).1.length=m.length:=by
 unfold zm sw
 split
 ·rfl
 split
 ·rfl
 split
 ·split<;>simp [ZR]
 ·dsimp only;split<;>simp [ZR]
theorem zhU (m:List (BitVec 64)) (d:zh):(yW m d).1.length=m.length:=by
 unfold yW
 split
 ·rfl
 split
 ·rfl
 split
 ·rfl
 split<;>simp [ZR]
theorem zbv (s:za) (g:zC): ∃m b t w f,(zo s g).1={s with M:=m,Bins:=b,T:=t,Work:=w,Flag:=f}∧m.length=s.M.length∧b.length=s.Bins.length ∧
  (∀x∈b,x∈s.Bins∨x=[g.Obj])∧(t=s.T∨t=(vk s.T g.Obj).1)∧(w=s.Work∨w=wc (s.Work+1)∨w=wc (s.Work-1)):=by
 unfold zo
 split
 ·exact ⟨s.M,s.Bins,s.T,s.Work,s.Flag,rfl,rfl,rfl,fun x h=> .inl h,.inl rfl,.inl rfl⟩
 split
 ·exact ⟨_,s.Bins,s.T,s.Work,s.Flag,rfl,zbp _ _,rfl,fun x h=> .inl h,.inl rfl,.inl rfl⟩
 split
 ·refine ⟨s.M,_,s.T,s.Work,s.Flag,rfl,rfl,by simp,fun x h=> ?_,.inl rfl,.inl rfl⟩
  rcases List.mem_or_eq_of_mem_set h with h | h
  ·exact .inl h
  ·exact .inr h
 split
 ·exact ⟨_,s.Bins,s.T,s.Work,s.Flag,rfl,zbp _ _,rfl,fun x h=> .inl h,.inl rfl,.inl rfl⟩
 split
 ·exact ⟨s.M,s.Bins,s.T,s.Work,true,rfl,rfl,rfl,fun x h=> .inl h,.inl rfl,.inl rfl⟩
 split
 ·exact ⟨_,s.Bins,s.T,s.Work,s.Flag,rfl,zhU _ _,rfl,fun x h=> .inl h,.inl rfl,.inl rfl⟩
 split
 ·exact ⟨s.M,s.Bins,s.T,_,s.Flag,rfl,rfl,rfl,fun x h=> .inl h,.inl rfl,.inr (.inr rfl)⟩
 split
 ·exact ⟨s.M,s.Bins,_,s.Work,s.Flag,rfl,rfl,rfl,fun x h=> .inl h,.inr rfl,.inl rfl⟩
 ·exact ⟨s.M,s.Bins,s.T,_,s.Flag,rfl,rfl,rfl,fun x h=> .inl h,.inl rfl,.inr (.inl rfl)⟩
theorem zyT {p:zb} (h:zA p):YY (yM p):=by
 have S:=zxy h
 have hb:=zi4 h
 have hg:=zkQ h
 have hn:=h.n
 have hm:=h.mt
 have hw:=h.wk
 have hs:=h.slots
 have hrl:=h.regs
 have hpl:=h.progs
 have hobj: ∀o∈p.H.Objs,o.length<1000000:=fun o ho=>by have:=(h.objs o ho).1;omega
 have hreg: ∀r∈p.Regs,r.length<1000000:=fun r hr=>by have:=(h.reg r hr).1;omega
 refine ⟨by have:=S.mem;omega,by rw [S.bins];omega,fun x hx=> ?_,?_,?_,?_,fun x hx=> ?_,?_,fun x hx=> ?_,by show p.H.Objs.length<_;omega,hobj,by show p.H.Objs.length<_;omega,hobj,by show p.Regs.length<_;omega,hreg,by show p.Progs.length<_;omega,fun x hx=> ?_,?_⟩
 ·have hx:x∈[[]]++xy p++List.replicate (zZ p-(xy p).length) []:=hx
  rcases List.mem_append.1 hx with hx | hx
  ·rcases List.mem_append.1 hx with hx | hx
   ·simp at hx;subst hx;simp
   ·have:=zkW _ _ _ _ hx;omega
  ·have:=(List.mem_replicate.1 hx).2;subst this;simp
 ·show (List.replicate p.Mutators.toNat (0:Int)).length<_;simp;omega
 ·show (List.replicate p.Mutators.toNat (0:Int)).length<_;simp;omega
 ·show ((List.range p.Workers.toNat).map (ul p)).length<_;simp;omega
 ·have hx:x∈(List.range p.Workers.toNat).map (ul p):=hx
  obtain ⟨i,_,rfl⟩:=List.mem_map.1 hx
  simp [ul]
 ·show (p.Regs.map xO).length<_;simp;omega
 ·have hx:x∈p.Regs.map xO:=hx
  obtain ⟨r,hr,rfl⟩:=List.mem_map.1 hx
  exact ⟨hreg r hr,by simp [xO],by simp [xO]⟩
 ·obtain ⟨i,hi⟩:=List.getElem?_of_mem hx
  have hlt:=(List.getElem?_eq_some_iff.1 hi).1
  have:=(h.prog i _ x (List.getElem?_eq_getElem (show i<p.Regs.length from (show p.Progs.length=p.Regs.length by omega)▸hlt)) hi).1
  omega
 ·show p.Picks.length<_;rw [h.picks];simp
end
end Go.Pe.G
namespace Go.Pe.G
open Go.Pe
noncomputable section
theorem Vd {α B C:Type} {f:List α×List α×Int×Int×Unit→Option (xr (List α×List α×Int×Int×Unit) B C)} {l:List α} {b:B} (hl:l.length<1000000)
  (h1: ∀(i:Nat) (x:α),l[i]? =some x→f (l,l,(l.length:Int),(i:Int),())=some (.again (l,l,(l.length:Int),((i+1:Nat):Int),())))
  (h2:f (l,l,(l.length:Int),(l.length:Int),())=some (.brk b)):yH f (l,l,(l.length:Int),0,())=some (.brk b):=by
 refine (Zi (f:=f) (fun a=>∃i:Nat,a=(l,l,(l.length:Int),(i:Int),())∧i≤l.length) (fun a=>l.length-a.2.2.2.1.toNat) (fun o=>o= .brk b) ?_ (l,l,(l.length:Int),0,()) ⟨0,rfl,by omega⟩ (vC (by dsimp only;omega))).elim fun o h=> ?_
 rotate_left
 ·rw [h.1,h.2]
 ·rintro _ ⟨i,rfl,hi⟩
  rcases Nat.lt_or_ge i l.length with hlt | hge
  ·refine ⟨_,h1 i _ (List.getElem?_eq_getElem hlt),⟨i+1,rfl,hlt⟩,?_⟩
   show l.length-((i+1:Nat):Int).toNat<l.length-(i:Int).toNat
   omega
  ·have:i=l.length:=by omega
   subst this
   exact ⟨_,h2,rfl⟩
theorem wF {l:List (Int)} (hl:l.length<1000000):yq l l=some (true,()):=by
 rw [zhm,yw,if_pos rfl,Vd (b:=()) hl (fun i x hx=> ?_) (by rw [VN];simp)]
 ·rfl
 ·have hlt:=uZ hx
  rw [VN,zw,if_pos hlt,va hx,Option.bind_some,Option.bind_some,xR (by omega)]
  simp
theorem zcO {l:List (BitVec 64)} (hl:l.length<1000000):Ya l l=some (true,()):=by
 rw [zcV,yw,if_pos rfl,Vd (b:=()) hl (fun i x hx=> ?_) (by rw [YV];simp)]
 ·rfl
 ·have hlt:=uZ hx
  rw [YV,zw,if_pos hlt,va hx,Option.bind_some,Option.bind_some,xR (by omega)]
  simp
theorem zek {l:List (Int)} (hl:l.length<1000000):YO l l=some (true,()):=by
 rw [zd2,yw,if_pos rfl,Vd (b:=()) hl (fun i x hx=> ?_) (by rw [XN];simp)]
 ·rfl
 ·have hlt:=uZ hx
  rw [XN,zw,if_pos hlt,va hx,Option.bind_some,Option.bind_some,xR (by omega)]
  simp
theorem zbR {l:List (zk)} (hl:l.length<1000000):ZB l l=some (true,()):=by
 rw [zbY,yw,if_pos rfl,Vd (b:=()) hl (fun i x hx=> ?_) (by rw [Yt];simp)]
 ·rfl
 ·have hlt:=uZ hx
  rw [Yt,zw,if_pos hlt,va hx,Option.bind_some,Option.bind_some,xR (by omega)]
  simp
theorem zau {l:List (zp)} (hl:l.length<1000000):uF l l=some (true,()):=by
 rw [zaF,yw,if_pos rfl,Vd (b:=()) hl (fun i x hx=> ?_) (by rw [ZF];simp)]
 ·rfl
 ·have hlt:=uZ hx
  rw [ZF,zw,if_pos hlt,va hx,Option.bind_some,Option.bind_some,xR (by omega)]
  simp
theorem wZ {l:List (List Int)} (hl:l.length<1000000) (he: ∀x∈l,x.length<1000000):zD l l=some (true,()):=by
 rw [uO,yw,if_pos rfl,Vd (b:=()) hl (fun i x hx=> ?_) (by rw [xw];simp)]
 ·rfl
 ·have hlt:=uZ hx
  rw [xw,zw,if_pos hlt,va hx,Option.bind_some,Option.bind_some,wF (he x (List.mem_of_getElem? hx)),Option.bind_some,xR (by omega)]
  simp
theorem Z1 {l:List (List zk)} (hl:l.length<1000000) (he: ∀x∈l,x.length<1000000):yo l l=some (true,()):=by
 rw [wC,yw,if_pos rfl,Vd (b:=()) hl (fun i x hx=> ?_) (by rw [yQ];simp)]
 ·rfl
 ·have hlt:=uZ hx
  rw [yQ,zw,if_pos hlt,va hx,Option.bind_some,Option.bind_some,zbR (he x (List.mem_of_getElem? hx)),Option.bind_some,xR (by omega)]
  simp
theorem zwz {w:ze} (h:w.Batch.length<1000000):zaz w w=some (true,()):=by
 rw [zlF,wF h];simp
theorem zvG {m:zc} (h:m.Regs.length<1000000∧m.Buf.length<1000000∧m.Batch.length<1000000):UJ m m=some (true,()):=by
 rw [zkg,wF h.1,wF h.2.1,wF h.2.2,zhF];simp
theorem ub {l:List (ze)} (hl:l.length<1000000) (he: ∀x∈l,x.Batch.length<1000000):yf l l=some (true,()):=by
 rw [wi,yw,if_pos rfl,Vd (b:=()) hl (fun i x hx=> ?_) (by rw [yJ];simp)]
 ·rfl
 ·have hlt:=uZ hx
  rw [yJ,zw,if_pos hlt,va hx,Option.bind_some,Option.bind_some,zwz (he x (List.mem_of_getElem? hx)),Option.bind_some,xR (by omega)]
  simp
theorem vJ {l:List (zc)} (hl:l.length<1000000) (he: ∀x∈l,x.Regs.length<1000000∧x.Buf.length<1000000∧x.Batch.length<1000000):z6 l l=some (true,()):=by
 rw [xJ,yw,if_pos rfl,Vd (b:=()) hl (fun i x hx=> ?_) (by rw [yC];simp)]
 ·rfl
 ·have hlt:=uZ hx
  rw [yC,zw,if_pos hlt,va hx,Option.bind_some,Option.bind_some,zvG (he x (List.mem_of_getElem? hx)),Option.bind_some,xR (by omega)]
  simp
theorem ztT {h:zr} (h1:h.Objs.length<1000000) (h2: ∀x∈h.Objs,x.length<1000000):ZJ h h=some (true,()):=by
 rw [ztd,wZ h1 h2];simp
theorem zx6 {s:za} (h:YY s):ziC s s=some (true,()):=by
 have hp:Yv s.P s.P=some (true,()):=by
  rw [zsI,zk8,ztT h.pobjs h.pobj,wZ h.regs h.reg,Z1 h.progs h.prog,zau h.picks]
  simp
 have hl:Zf s.L s.L=some (true,()):=by
  rw [zqY,zek h.bal];simp
 have hm:Xz s.M s.M=some (true,()):=by
  rw [zuC,zcO h.m];rfl
 rw [zrR,hp,ztT h.objs h.obj,hm,wZ h.bins h.bin,wF h.acks,hl,ub h.ws h.w,vJ h.ms h.mu]
 simp
end
end Go.Pe.G
namespace Go.Pe.G
open Go.Pe
noncomputable section
def goF {S:Type} (g:Nat→S→S):Nat→Nat→S→S
 | _,0,s=>s
 | i,k+1,s=>goF g (i+1) k (g i s)
theorem ztU {S:Type} {g:Nat→S→S} {Inv:S→Prop} (hg: ∀i s,Inv s→Inv (g i s)): ∀(k i:Nat) (s:S),Inv s→Inv (goF g i k s)
 | 0,_,_,h=>h
 | k+1,i,s,h=>ztU hg k (i+1) _ (hg i s h)
theorem zxl {S σ B C:Type} {f:σ→Option (xr σ B C)} (A:Int→S→σ) (b:S→B) (n:Nat) (hn:n<1000000) (g:Nat→S→S) (Inv:S→Prop) (hg: ∀i s,Inv s→Inv (g i s))
  (h1: ∀(i:Nat) s,i<n→Inv s→f (A (i:Int) s)=some (.again (A ((i+1:Nat):Int) (g i s)))) (h2: ∀s,Inv s→f (A (n:Int) s)=some (.brk (b s))) {s:S} (hs:Inv s) :
  yH f (A 0 s)=some (.brk (b (goF g 0 n s))):=by
 have key: ∀(k i:Nat) (s:S),n-i=k→i≤n→Inv s→∀m,k<m→wJ f m (A (i:Int) s)=some (.brk (b (goF g i k s))):=by
  intro k
  induction k with
  | zero =>
   intro i s hk hi hs m hm
   have:i=n:=by omega
   subst this
   obtain ⟨m,rfl⟩: ∃x,m=x+1:=⟨m-1,by omega⟩
   simp only [wJ]
   rw [h2 s hs];rfl
  | succ k ih =>
   intro i s hk hi hs m hm
   obtain ⟨m,rfl⟩: ∃x,m=x+1:=⟨m-1,by omega⟩
   simp only [wJ]
   rw [h1 i s (by omega) hs,Option.bind_some]
   exact ih (i+1) _ (by omega) (by omega) (hg i s hs) m (by omega)
 have:=key n 0 s (by omega) (by omega) hs YC (vC (by omega))
 rw [UP]
 exact this
end
end Go.Pe.G
namespace Go.Pe.G
open Go.Pe
noncomputable section
def zh9 (m:List (BitVec 64)) (d:zh):List (BitVec 64)×zh :=
 if d.PC<0∨7≤d.PC then (m,d)
 else if d.PC=0 then (m,{d with B:=ld m (wc (d.Base+1)),PC:=1})
 else if d.PC=1 then (st m (wc (d.Base+1)) (d.B-1#64),{d with PC:=2})
 else if d.PC=2 then (m,{d with T:=ld m d.Base,PC:=if 0<(ld m d.Base-(d.B-1#64)).toInt then 5 else 3})
 else if d.PC=3 then (m,{d with X:=(ld m (VY d (d.B-1#64))).toInt,PC:=4,Out:=if d.T=d.B-1#64 then d.Out else 1})
 else if d.PC=4 then ((sw m d.Base d.T (d.T+1#64)).1,{d with PC:=if (sw m d.Base d.T (d.T+1#64)).2 then 6 else 5})
 else if d.PC=5 then (st m (wc (d.Base+1)) d.B,{d with X:=0,Out:=2,PC:=6})
 else (st m (wc (d.Base+1)) d.B,{d with Out:=1,PC:=7})
def zbq (m:List (BitVec 64)) (d:zh):List (BitVec 64)×zh :=
 if d.PC<0∨4≤d.PC then (m,d)
 else if d.PC=0 then (m,{d with T:=ld m d.Base,PC:=1})
 else if d.PC=1 then (m,{d with B:=ld m (wc (d.Base+1)),PC:=2,Out:=if 0<(ld m (wc (d.Base+1))-d.T).toInt then d.Out else 2})
 else if d.PC=2 then (m,{d with X:=(ld m (VY d d.T)).toInt,PC:=3})
 else ((sw m d.Base d.T (d.T+1#64)).1,if (sw m d.Base d.T (d.T+1#64)).2 then {d with Out:=1,PC:=4} else {d with X:=0,Out:=4,PC:=4})
def zU (m:List (BitVec 64)) (d:zh):List (BitVec 64)×zh :=
 if d.Out≠0 then (m,d) else if d.Kind=1 then yW m d else if d.Kind=2 then zh9 m d else if d.Kind=3 then zbq m d else (m,d)
theorem zwC {m:List (BitVec 64)} {d:zh} (h:d.Kind=1):zU m d=yW m d:=by
 unfold zU
 by_cases h0:d.Out≠0
 ·rw [if_pos h0];unfold yW;rw [if_pos (.inl h0)]
 ·rw [if_neg h0,if_pos h]
theorem zxd {α:Type} {x y:Option α} {v:α} (h:x=some v):Option.or x y=some v:=by subst h;rfl
theorem ziv {α:Type} {x y z:Option α} (h:x=none) (h2:y=z):Option.or x y=z:=by subst h;exact h2
theorem zBb:wc 1=1∧wc 2=2∧wc 3=3∧wc 4=4∧wc 5=5∧wc 6=6∧wc 7=7:=by decide
theorem zzX:w64 5=5∧w64 6=6∧w64 7=7:=by
 refine ⟨?_,?_,?_⟩<;>exact z9 (by omega) (by omega)
theorem zxS {m:List (BitVec 64)} (hm:m.length<4294967296) {d:zh} (hc:d.Cap<1000):zbk m d=some ((zU m d).1,(zU m d).2,()):=by
 by_cases k1:d.Kind=1
 ·rw [zwC k1];exact zkE hm k1 hc
 obtain ⟨w0,w1,w2,w3,w4⟩:=zuW
 obtain ⟨w5,w6,w7⟩:=zzX
 obtain ⟨v1,v2,v3,v4,v5,v6,v7⟩:=zBb
 have hsb: ∀d:zh,vd m d=some (m,{d with B:=ld m (wc (d.Base+1))},()):=fun d=>by
  rw [WF,xP,xu,Option.bind_some,W9];rfl
 have htk: ∀d:zh,XD m d=some ((sw m d.Base d.T (d.T+1#64)).1,(sw m d.Base d.T (d.T+1#64)).2,()):=fun d=>by
  obtain ⟨v,hv⟩:=ztB hm d.Base d.T (d.T+1#64)
  rw [zki,Yx,Option.bind_some,hv];rfl
 rw [zkO,zht,zpr,zpO,zpJ]
 simp only [zw,yw,if_neg k1]
 unfold zU
 by_cases k2:d.Kind=2
 ·refine ziv (by simp [k2]) (zxd ?_)
  rw [if_pos k2,Option.bind_some]
  by_cases g0:d.Out=0
  rotate_left
  ·rw [if_neg g0,if_pos (show d.Out≠0 from g0)]
  rw [if_pos g0,if_neg (show ¬(d.Out≠0) from fun e=>e g0),if_neg k1,if_pos k2]
  unfold zh9
  by_cases g1:d.PC<0
  ·rw [if_pos g1,if_pos (.inl g1)]
  rw [if_neg g1]
  by_cases g2:7≤d.PC
  ·rw [if_pos g2,if_pos (.inr g2)]
  rw [if_neg g2,if_neg (show ¬(d.PC<0∨7≤d.PC) by omega)]
  have hpc:d.PC=0∨d.PC=1∨d.PC=2∨d.PC=3∨d.PC=4∨d.PC=5∨d.PC=6:=by omega
  rcases hpc with h | h | h | h | h | h | h
  ·simp [h,hsb,w1]
  ·simp [h,ziO,xP,xu,zcg hm,v1,v2,v3,v4,v5,v6,v7]
  ·rw [h,if_neg (by decide),if_neg (by decide),if_neg (by decide),if_neg (by decide),if_pos rfl,if_neg (by decide),if_neg (by decide),if_pos rfl]
   simp only [zeZ,Yx,Option.bind_some,W9,zix,zw]
   by_cases hs:0<(ld m d.Base-(d.B-1#64)).toInt
   ·simp only [if_pos hs,Option.bind_some,Int.reduceAdd,w5]
   ·simp only [if_neg hs,Option.bind_some,h,Int.reduceAdd,w3]
  ·simp only [h,zhJ,zlg hc,Option.bind_some,W9,yw,wR]
   by_cases hs:d.T=d.B-1#64
   ·simp [hs,w4,h]
   ·simp [hs,w4,h]
  ·simp only [h,zgR,htk,Option.bind_some]
   cases hs:(sw m d.Base d.T (d.T+1#64)).2 with
   | true=>simp [hs,w6,h]
   | false=>simp [hs,w5,h]
  ·simp [h,zhp,wR,k1,xP,xu,zcg hm,v1,v2,v3,v4,v5,v6,v7]
  ·simp [h,zir,wR,xP,xu,zcg hm,v1,v2,v3,v4,v5,v6,v7]
 by_cases k3:d.Kind=3
 ·refine ziv (by simp [k2,k3]) (ziv (by simp [k2,k3]) (zxd ?_))
  rw [if_neg k2,if_pos k3,Option.bind_some]
  by_cases g0:d.Out=0
  rotate_left
  ·rw [if_neg g0,if_pos (show d.Out≠0 from g0)]
  rw [if_pos g0,if_neg (show ¬(d.Out≠0) from fun e=>e g0),if_neg k1,if_neg k2,if_pos k3]
  unfold zbq
  by_cases g1:d.PC<0
  ·rw [if_pos g1,if_pos (.inl g1)]
  rw [if_neg g1]
  by_cases g2:4≤d.PC
  ·rw [if_pos g2,if_pos (.inr g2)]
  rw [if_neg g2,if_neg (show ¬(d.PC<0∨4≤d.PC) by omega)]
  have hpc:d.PC=0∨d.PC=1∨d.PC=2∨d.PC=3:=by omega
  rcases hpc with h | h | h | h
  ·simp [h,zh5,Yx,W9,w1]
  ·rw [h,if_neg (by decide),if_neg (by decide),if_pos rfl,if_neg (by decide),if_pos rfl]
   simp only [zhM,xP,Option.bind_some,W9,zix,yw,xu]
   by_cases hs:0<(ld m (wc (d.Base+1))-d.T).toInt
   ·simp only [if_pos hs,Option.bind_some,Int.reduceAdd,v2,h]
   ·simp only [if_neg hs,Option.bind_some,Int.reduceAdd,v2,h]
  ·simp [h,zhe,zlg hc,W9,w3]
  ·simp only [h,zeP,htk,Option.bind_some,wR]
   cases hs:(sw m d.Base d.T (d.T+1#64)).2 with
   | true=>simp [hs,w4,h]
   | false=>simp [hs,w4,h,k1]
 ·refine ziv (by simp [k2,k3]) (ziv (by simp [k2,k3]) (ziv (by simp [k2,k3]) ?_))
  rw [if_neg k2,if_neg k3,Option.bind_some]
  by_cases g0:d.Out=0
  ·simp [g0,k1,k2,k3]
  ·simp [g0]
theorem zxW (m:List (BitVec 64)) (d:zh):(zh9 m d).1.length=m.length∧(zh9 m d).2.Kind=d.Kind∧(zh9 m d).2.Base=d.Base∧(zh9 m d).2.Cap=d.Cap:=by
 unfold zh9 sw st
 split
 ·exact ⟨rfl,rfl,rfl,rfl⟩
 split
 ·exact ⟨rfl,rfl,rfl,rfl⟩
 split
 ·refine ⟨?_,rfl,rfl,rfl⟩;dsimp only;split<;>simp
 split
 ·exact ⟨rfl,rfl,rfl,rfl⟩
 split
 ·exact ⟨rfl,rfl,rfl,rfl⟩
 split
 ·refine ⟨?_,rfl,rfl,rfl⟩;dsimp only;split<;>(try split)<;>simp
 split<;>(refine ⟨?_,rfl,rfl,rfl⟩;dsimp only;split<;>simp)
theorem zu4 (m:List (BitVec 64)) (d:zh):(zbq m d).1.length=m.length∧(zbq m d).2.Kind=d.Kind∧(zbq m d).2.Base=d.Base∧(zbq m d).2.Cap=d.Cap:=by
 unfold zbq sw st
 split
 ·exact ⟨rfl,rfl,rfl,rfl⟩
 split
 ·exact ⟨rfl,rfl,rfl,rfl⟩
 split
 ·exact ⟨rfl,rfl,rfl,rfl⟩
 split
 ·exact ⟨rfl,rfl,rfl,rfl⟩
 ·refine ⟨?_,?_,?_,?_⟩<;>dsimp only<;>split<;>(try split)<;>simp
end
end Go.Pe.G
namespace Go.Pe.G
open Go.Pe
noncomputable section
def zM (h:zr) (o:Int):List Int:=h.Objs.getD (o-1).toNat []
def yK (h:zr) (o s:Int):Bool:=decide (1≤o)&&decide (o≤(h.Objs.length:Int))&&decide (0≤s)&&decide (s<((zM h o).length:Int))
def zO (h:zr) (o s:Int):Int:=if yK h o s then (zM h o).getD s.toNat 0 else 0
def zK (s:BitVec 64) (o:Int):Bool:= !(decide (s&&&bit o=0#64))
def yD (t:zt) (o:Int):Int:=if zK (t.Marks&&&t.Black) o then 2 else if zK t.Marks o then 1 else 0
def wz (t:zt) (o:Int):zt:=if yD t o=1 then {t with Black:=t.Black|||bit o} else t
def zcD (l:zn) (who:Int):zn :=
 if 1≤who∧who≤(l.Bal.length:Int) then {l with Scanned:=wc (l.Scanned+1),Bal:=l.Bal.set (who-1).toNat (wc (l.Bal.getD (who-1).toNat 0+1))}
 else {l with Scanned:=wc (l.Scanned+1),Pool:=wc (l.Pool+1)}
def Vf (s:za) (b:Int):List Int:=s.Bins.getD b.toNat []
def zyC (p:zb) (h x:Int):zH:=⟨2,0,h,zI p,0#64,x,0,0⟩
def zbA (p:zb) (h x:Int):zH:=⟨1,0,h,zI p,0#64,x,0,0⟩
def onW (s:za) (slot:Int):Int:=if slot=s.H.Slots then 8 else 5
def Ul (p:zb) (w:Int) (x:ze):ze:={x with PC:=0,Victim:=w,D:=⟨2,0,zW p w,p.Cap,0#64,0#64,0,0⟩}
def zhZ (n v:Int):Int:=if v<n then v+1 else 1
def uS (p:zb) (w:Int) (x:ze):ze :=
 if zhZ p.Workers x.Victim=w then {x with PC:=2,Victim:=w,C:=zyC p (yh p) 0}
 else {x with PC:=1,Victim:=zhZ p.Workers x.Victim,D:=⟨3,0,zW p (zhZ p.Workers x.Victim),p.Cap,0#64,0#64,0,0⟩}
def zj (s:za) (w:Int) (x:ze):za×ze :=
 if x.PC=0∨x.PC=1 then
  ({s with M:=(zU s.M x.D).1},
   if (zU s.M x.D).2.Out=1 then {x with D:=(zU s.M x.D).2,Victim:=w,PC:=5,Obj:=(zU s.M x.D).2.X,Slot:=0}
   else if (zU s.M x.D).2.Out=2∨(zU s.M x.D).2.Out=4 then uS s.P w {x with D:=(zU s.M x.D).2} else {x with D:=(zU s.M x.D).2})
 else if x.PC=2 then
  ({s with M:=(zm s.M x.C).1},
   if (zm s.M x.C).2.Out=1 then {x with C:=(zm s.M x.C).2,Bin:=(zm s.M x.C).2.X,PC:=3}
   else if (zm s.M x.C).2.Out=2 then Ul s.P w {x with C:=(zm s.M x.C).2} else {x with C:=(zm s.M x.C).2})
 else if x.PC=3 then ({s with Bins:=s.Bins.set x.Bin.toNat []},{x with Batch:=Vf s x.Bin,PC:=4,C:=zbA s.P (zI s.P) x.Bin})
 else if x.PC=4 then
  ({s with M:=(zm s.M x.C).1},if (zm s.M x.C).2.Out=1 then {x with C:=(zm s.M x.C).2,Bin:=0,PC:=7} else {x with C:=(zm s.M x.C).2})
 else if x.PC=5 then
  (s,if zO s.H x.Obj x.Slot=0 then {x with Slot:=wc (x.Slot+1),PC:=onW s (wc (x.Slot+1))} else {x with Slot:=wc (x.Slot+1),PC:=6,G:=ZK 1 (zO s.H x.Obj x.Slot) w})
 else if x.PC=6 then ((zo s x.G).1,if (zo s x.G).2.Out=1 then {x with G:=(zo s x.G).2,PC:=onW s x.Slot} else {x with G:=(zo s x.G).2})
 else if x.PC=7 then (s,match x.Batch with | []=>Ul s.P w x | o::l=>{x with Batch:=l,PC:=5,Obj:=o,Slot:=0})
 else if x.PC=8 then ({s with T:=wz s.T x.Obj,L:=zcD s.L 0},{x with PC:=9})
 else if x.PC=9 then ({s with Work:=wc (s.Work-1)},{x with Obj:=0,PC:=7})
 else (s,x)
def zF (s:za) (w:Int):za :=
 if s.Done=true∨w<1∨(s.Ws.length:Int)<w then s
 else match s.Ws[(w-1).toNat]? with
  | some x=>{(zj s w x).1 with Ws:=s.Ws.set (w-1).toNat (zj s w x).2}
  | none=>s
structure zyx (p:zb) (nb:Nat) (hd:Int) (c:zH):Prop where
 k:c.Kind=2
 h:c.Head=hd
 n:c.Next=zI p
 v:1≤c.PC→1≤yx c.H∧yx c.H<nb
 y:2≤c.PC→0≤c.Y∧c.Y<nb
 o:c.Out≠1
structure zvu (p:zb) (nb:Nat) (hd:Int) (c:zH):Prop where
 k:c.Kind=1
 h:c.Head=hd
 n:c.Next=zI p
 x:1≤c.X∧c.X<nb
 v:1≤c.PC→yx c.H<nb
theorem zxk {p:zb} {nb:Nat} {hd x:Int}:zyx p nb hd (zyC p hd x) :=
 ⟨rfl,rfl,rfl,fun e=>absurd e (by show ¬(1:Int)≤0;decide),fun e=>absurd e (by show ¬(2:Int)≤0;decide),by show (0:Int)≠1;decide⟩
theorem zvP {p:zb} {nb:Nat} {hd x:Int} (h:1≤x∧x<nb):zvu p nb hd (zbA p hd x) :=
 ⟨rfl,rfl,rfl,h,fun e=>absurd e (by show ¬(1:Int)≤0;decide)⟩
structure WOk (p:zb) (nb:Nat) (w:Int) (x:ze):Prop where
 pc:0≤x.PC∧x.PC≤9
 vic:1≤x.Victim∧x.Victim≤p.Workers
 d0:x.PC=0→x.D.Kind=2∧x.D.Base=zW p w∧x.D.Cap=p.Cap
 d1:x.PC=1→x.D.Kind=3∧x.D.Base=zW p x.Victim∧x.D.Cap=p.Cap
 c2:x.PC=2→zyx p nb (yh p) x.C
 b3:x.PC=3→1≤x.Bin∧x.Bin<nb
 c4:x.PC=4→zvu p nb (zI p) x.C
 g6:x.PC=6→MOk p nb x.G∧(x.G.PC=5→x.G.C.Out≠1)∧x.G.Mode=1∧x.G.PC≠4
theorem WOk.plain {p:zb} {nb:Nat} {w:Int} {x:ze} (pc:x.PC=5∨x.PC=7∨x.PC=8∨x.PC=9) (vic:1≤x.Victim∧x.Victim≤p.Workers):WOk p nb w x :=
 ⟨by omega,vic,fun e=>by omega,fun e=>by omega,fun e=>by omega,fun e=>by omega,fun e=>by omega,fun e=>by omega⟩
theorem SOk.swLow {p:zb} {nb:Nat} {s:za} (h:zA p) (S:SOk p nb s) {a:Int} (ha:a<yh p) (x v:BitVec 64):SOk p nb {s with M:=(sw s.M a x v).1}:=by
 unfold sw
 split
 ·exact S.low h ha v
 ·exact S
theorem zCJ {p:zb} {nb:Nat} {s:za} (h:zA p) (S:SOk p nb s) {d:zh} {v:Int} (hv:1≤v∧v≤p.Workers) (hk:d.Kind=2∨d.Kind=3) (hb:d.Base=zW p v):SOk p nb {s with M:=(zU s.M d).1}:=by
 have hd:=Xb h hv.1 hv.2
 have hc:=h.cap
 have hf:=Yp h
 have e1:wc (d.Base+1)=d.Base+1:=xg (by omega) (by omega)
 unfold zU
 split
 ·exact S
 split
 ·omega
 split
 ·unfold zh9
  rw [e1]
  split
  ·exact S
  split
  ·exact S
  split
  ·exact S.low h (by omega) _
  split
  ·exact S
  split
  ·exact S
  split
  ·exact S.swLow h (by omega) _ _
  split<;>exact S.low h (by omega) _
 split
 ·unfold zbq
  split
  ·exact S
  split
  ·exact S
  split
  ·exact S
  split
  ·exact S
  ·exact S.swLow h (by omega) _ _
 ·exact S
theorem zk6 (m:List (BitVec 64)) (d:zh):(zU m d).1.length=m.length∧(zU m d).2.Kind=d.Kind∧(zU m d).2.Base=d.Base∧(zU m d).2.Cap=d.Cap:=by
 unfold zU
 split
 ·exact ⟨rfl,rfl,rfl,rfl⟩
 split
 ·unfold yW
  split
  ·exact ⟨rfl,rfl,rfl,rfl⟩
  split
  ·exact ⟨rfl,rfl,rfl,rfl⟩
  split
  ·refine ⟨rfl,?_,?_,?_⟩<;>dsimp only<;>split<;>rfl
  split<;>exact ⟨ZR _ _ _,rfl,rfl,rfl⟩
 split
 ·exact zxW m d
 split
 ·exact zu4 m d
 ·exact ⟨rfl,rfl,rfl,rfl⟩
theorem zA5 {n v:Int} (h:1≤v∧v≤n):1≤zhZ n v∧zhZ n v≤n:=by unfold zhZ;split<;>omega
theorem WOk.look {p:zb} {nb:Nat} {w:Int} {x:ze} (hw:1≤w∧w≤p.Workers) (vic:1≤x.Victim∧x.Victim≤p.Workers):WOk p nb w (uS p w x):=by
 have hn:=zA5 vic
 unfold uS
 split
 ·exact ⟨⟨(by show (0:Int)≤2;decide),(by show (2:Int)≤9;decide)⟩,hw,fun e=>(by cases e),fun e=>(by cases e),fun _=>zxk,fun e=>(by cases e),fun e=>(by cases e),fun e=>(by cases e)⟩
 ·exact ⟨⟨(by show (0:Int)≤1;decide),(by show (1:Int)≤9;decide)⟩,hn,fun e=>(by cases e),fun _=>⟨rfl,rfl,rfl⟩,fun e=>(by cases e),fun e=>(by cases e),fun e=>(by cases e),fun e=>(by cases e)⟩
theorem WOk.begin {p:zb} {nb:Nat} {w:Int} {x:ze} (hw:1≤w∧w≤p.Workers):WOk p nb w (Ul p w x) :=
 ⟨⟨(by show (0:Int)≤0;decide),(by show (0:Int)≤9;decide)⟩,hw,fun _=>⟨rfl,rfl,rfl⟩,fun e=>(by cases e),fun e=>(by cases e),fun e=>(by cases e),fun e=>(by cases e),fun e=>(by cases e)⟩
theorem zxi (s:za) {g:zC} (h1:g.Mode=1) (h4:g.PC≠4):(zo s g).2.PC≠4∧(zo s g).1.Flag=s.Flag:=by
 have five:(5:Int)≠4:=by decide
 unfold zo
 split
 ·exact ⟨h4,rfl⟩
 split
 ·refine ⟨?_,rfl⟩;unfold za9;dsimp only;split<;>exact h4
 split
 ·exact ⟨(by show (7:Int)≠4;decide),rfl⟩
 split
 ·refine ⟨?_,rfl⟩;unfold zhV;dsimp only
  split
  ·show (6:Int)≠4;decide
  split
  ·exact five
  ·exact h4
 split
 ·refine ⟨?_,rfl⟩;unfold zih;dsimp only
  split
  ·exact h4
  split
  ·exact five
  ·exact h4
 split
 ·exact ⟨h4,rfl⟩
 split
 ·refine ⟨?_,rfl⟩;unfold zh1;dsimp only
  split
  ·show (2:Int)≠4;decide
  ·show (3:Int)≠4;decide
 ·exact ⟨(by show (1:Int)≠4;decide),rfl⟩
theorem ziN (s:za) (i:Int):onW s i=5∨onW s i=8:=by unfold onW;split<;>simp
theorem SOk.keep {p:zb} {nb:Nat} {s s':za} (S:SOk p nb s) (hP:s'.P=s.P) (hM:s'.M=s.M) (hB:s'.Bins.length=s.Bins.length):SOk p nb s' :=
 ⟨hP.trans S.P,hB.trans S.bins,S.nbk,by rw [hM];exact S.mem,by rw [hM];exact S.cF,by rw [hM];exact S.cE,by rw [hM];exact S.cL⟩
theorem zxm {p:zb} {nb:Nat} {s:za} {w:Int} {x:ze} (h:zA p) (hw:1≤w∧w≤p.Workers) (S:SOk p nb s) (W:WOk p nb w x):SOk p nb (zj s w x).1∧WOk p nb w (zj s w x).2:=by
 have hP:=S.P
 unfold zj
 split
 ·rename_i h01
  have hv: ∃v,(1≤v∧v≤p.Workers)∧(x.D.Kind=2∨x.D.Kind=3)∧x.D.Base=zW p v:=by
   rcases h01 with e | e
   ·obtain ⟨a,b,c⟩:=W.d0 e;exact ⟨w,hw,.inl a,b⟩
   ·obtain ⟨a,b,c⟩:=W.d1 e;exact ⟨x.Victim,W.vic,.inr a,b⟩
  obtain ⟨v,hv1,hv2,hv3⟩:=hv
  refine ⟨zCJ h S hv1 hv2 hv3,?_⟩
  obtain ⟨l1,l2,l3,l4⟩:=zk6 s.M x.D
  dsimp only
  split
  ·exact WOk.plain (.inl rfl) hw
  split
  ·rw [hP];exact WOk.look hw W.vic
  ·refine ⟨W.pc,W.vic,fun e=> ?_,fun e=> ?_,fun e=>by dsimp only at e;omega,fun e=>by dsimp only at e;omega,fun e=>by dsimp only at e;omega,fun e=>by dsimp only at e;omega⟩
   ·obtain ⟨a,b,c⟩:=W.d0 e;exact ⟨l2.trans a,l3.trans b,l4.trans c⟩
   ·obtain ⟨a,b,c⟩:=W.d1 e;exact ⟨l2.trans a,l3.trans b,l4.trans c⟩
 split
 ·rename_i h2
  have C:=W.c2 h2
  obtain ⟨b1,b2,b3,b4,b5,b6⟩:=zv2 h S (.inl rfl) C.k C.h C.n C.v C.y C.o
  refine ⟨b1,?_⟩
  dsimp only
  split
  ·rename_i e1
   exact ⟨⟨(by show (0:Int)≤3;decide),(by show (3:Int)≤9;decide)⟩,W.vic,fun e=>(by cases e),fun e=>(by cases e),fun e=>(by cases e),fun _=>b6 e1,fun e=>(by cases e),fun e=>(by cases e)⟩
  split
  ·rw [hP];exact WOk.begin hw
  ·rename_i e1 e2
   exact ⟨W.pc,W.vic,fun e=>(by dsimp only at e;omega),fun e=>(by dsimp only at e;omega),fun _=>⟨b2,b3,b4,(b5 e1 e2).1,(b5 e1 e2).2,e1⟩,fun e=>(by dsimp only at e;omega),fun e=>(by dsimp only at e;omega),fun e=>(by dsimp only at e;omega)⟩
 split
 ·rename_i h3
  have B:=W.b3 h3
  refine ⟨S.keep rfl rfl (by simp),?_⟩
  rw [hP]
  exact ⟨⟨(by show (0:Int)≤4;decide),(by show (4:Int)≤9;decide)⟩,W.vic,fun e=>(by cases e),fun e=>(by cases e),fun e=>(by cases e),fun e=>(by cases e),fun _=>zvP B,fun e=>(by cases e)⟩
 split
 ·rename_i h4
  have C:=W.c4 h4
  obtain ⟨b1,b2,b3,b4,b5,b6⟩:=ztD h S (.inr rfl) C.k C.h C.n C.x C.v
  refine ⟨b1,?_⟩
  dsimp only
  split
  ·exact WOk.plain (.inr (.inl rfl)) W.vic
  ·exact ⟨W.pc,W.vic,fun e=>(by dsimp only at e;omega),fun e=>(by dsimp only at e;omega),fun e=>(by dsimp only at e;omega),fun e=>(by dsimp only at e;omega),fun _=>⟨b2,b3,b4,b5,b6⟩,fun e=>(by dsimp only at e;omega)⟩
 split
 ·refine ⟨S,?_⟩
  dsimp only
  split
  ·rcases ziN s (wc (x.Slot+1)) with e | e<;>rw [e]
   ·exact WOk.plain (.inl rfl) W.vic
   ·exact WOk.plain (.inr (.inr (.inl rfl))) W.vic
  ·exact ⟨⟨(by show (0:Int)≤6;decide),(by show (6:Int)≤9;decide)⟩,W.vic,fun e=>(by cases e),fun e=>(by cases e),fun e=>(by cases e),fun e=>(by cases e),fun e=>(by cases e),fun _ =>
    ⟨⟨fun _=>hw,fun e=>(by cases e),fun e=>(by cases e),fun e=>(by cases e),fun e=>(by cases e)⟩,fun e=>(by cases e),rfl,by show (0:Int)≠4;decide⟩⟩
 split
 ·rename_i h6
  obtain ⟨g1,g2,g3,g4⟩:=W.g6 h6
  obtain ⟨r1,r2,r3⟩:=zpl h S g1 g2
  refine ⟨r1,?_⟩
  dsimp only
  split
  ·rcases ziN s x.Slot with e | e<;>rw [e]
   ·exact WOk.plain (.inl rfl) W.vic
   ·exact WOk.plain (.inr (.inr (.inl rfl))) W.vic
  ·exact ⟨W.pc,W.vic,fun e=>(by dsimp only at e;omega),fun e=>(by dsimp only at e;omega),fun e=>(by dsimp only at e;omega),fun e=>(by dsimp only at e;omega),fun e=>(by dsimp only at e;omega),fun _=>⟨r2,r3,(Vw s x.G).2.2.trans g3,(zxi s g3 g4).1⟩⟩
 split
 ·refine ⟨S,?_⟩
  dsimp only
  split
  ·rw [hP];exact WOk.begin hw
  ·exact WOk.plain (.inl rfl) W.vic
 split
 ·exact ⟨S.keep rfl rfl rfl,WOk.plain (.inr (.inr (.inr rfl))) W.vic⟩
 split
 ·exact ⟨S.keep rfl rfl rfl,WOk.plain (.inr (.inl rfl)) W.vic⟩
 ·have:=W.pc
  omega
end
end Go.Pe.G
namespace Go.Pe.G
open Go.Pe
noncomputable section
def uI (h:zr) (o s v:Int):zr :=
 if yK h o s=true∧0≤v∧v≤(h.Objs.length:Int) then {h with Objs:=h.Objs.set (o-1).toNat ((zM h o).set s.toNat v)} else h
def YU (h:zr) (most:Int):Bool:=decide ((h.Objs.length:Int)<most)&&decide ((h.Objs.length:Int)<64)
def xT (h:zr):zr:={h with Objs:=h.Objs++[List.replicate h.Slots.toNat 0]}
def YL (t:zt) (o:Int):zt:=if (vk t o).2=true then wz (vk t o).1 o else t
def zbm (l:zn) (who:Int):Int:=l.Bal.getD (who-1).toNat 0
def zal (l:zn) (who:Int):Bool:=decide (1≤who)&&decide (who≤(l.Bal.length:Int))
def zap (l:zn) (who price limit:Int):Bool:=zal l who&&decide (0≤price)&&decide (0≤limit)&&decide (price≤1000000)&&decide (limit≤1000000)
def zfA (l:zn) (who price limit:Int):Bool:=zap l who price limit&&decide (wc (-limit)≤wc (zbm l who-price))
def zcc (l:zn) (who price:Int):zn:={l with Spent:=wc (l.Spent+price),Bal:=l.Bal.set (who-1).toNat (wc (zbm l who-price))}
def zoe (l:zn) (who price limit:Int):Int:=if zap l who price limit then (if zfA l who price limit then 0 else wc (wc (price-limit)-zbm l who)) else -1
def zlv (a b:Int):Int:=if b<a then b else a
def zcB (l:zn) (who want:Int):zn×Int :=
 if zal l who=true∧0<zlv want l.Pool then ({l with Pool:=wc (l.Pool-zlv want l.Pool),Bal:=l.Bal.set (who-1).toNat (wc (zbm l who+zlv want l.Pool))},zlv want l.Pool) else (l,0)
def vc (p:zb) (m:Int):List zk:=p.Progs.getD (m-1).toNat []
def opM (p:zb) (m:Int) (x:zc):zk:=(vc p m).getD x.IP.toNat ⟨0,0,0,0⟩
def vz (x:zc) (r:Int):Int:=x.Regs.getD r.toNat 0
def xe (x:zc):zc:={x with PC:=0,IP:=wc (x.IP+1)}
def setM (x:zc) (r v:Int):zc:={x with PC:=0,IP:=wc (x.IP+1),Regs:=x.Regs.set r.toNat v}
def onM (s:za) (slot:Int):Int:=if slot=s.H.Slots then 38 else 36
def zpo (s:za) (m:Int) (x:zc):Int:=zO s.H (vz x (opM s.P m x).A) (opM s.P m x).S
def ZW (s:za) (m:Int) (x:zc):zc :=
 if s.Acks.getD (m-1).toNat 0<s.Epoch then {x with PC:=1,Ret:=2,Want:=s.Epoch}
 else if ((vc s.P m).length:Int)≤x.IP then x
 else if (opM s.P m x).Kind=1 then {x with PC:=10}
 else if (opM s.P m x).Kind=2 then {x with PC:=20}
 else if (opM s.P m x).Kind=3 then {x with PC:=30}
 else if (opM s.P m x).Kind=4 then setM x (opM s.P m x).R (vz x (opM s.P m x).A)
 else setM x (opM s.P m x).R 0
def mu0 (s:za) (m:Int) (x:zc):za×zc :=
 (s,ZW s m x)
def mu1 (s:za) (m:Int) (x:zc):za×zc :=
 (s,if x.Buf.length=0 then {x with PC:=x.Ret} else {x with PC:=3,Buf:=x.Buf.take (x.Buf.length-1),G:=ZK 2 (x.Buf.getD (x.Buf.length-1) 0) m})
def mu2 (s:za) (m:Int) (x:zc):za×zc :=
 ({s with Acks:=s.Acks.set (m-1).toNat x.Want},{x with PC:=0})
def mu3 (s:za) (m:Int) (x:zc):za×zc :=
 ((zo s x.G).1,if (zo s x.G).2.Out=1 then {x with PC:=1,G:=(zo s x.G).2} else {x with G:=(zo s x.G).2})
def zcS (s:za) (m:Int) (x:zc):za×zc :=
 (s,setM x (opM s.P m x).R (zpo s m x))
def Vo (s:za) (m:Int) (x:zc):za×zc :=
 (s,if vz x (opM s.P m x).A=0 then xe x else {x with PC:=21,Old:=zpo s m x})
def WT (s:za) (m:Int) (x:zc):za×zc :=
 (s,if x.Old=0∨yD s.T x.Old≠0 then {x with PC:=23,Old:=0} else {x with PC:=22})
def UD (s:za) (m:Int) (x:zc):za×zc :=
 (s,if s.P.Buf≤(x.Buf.length:Int) then {x with PC:=1,Ret:=22} else {x with PC:=23,Old:=0,Buf:=x.Buf++[x.Old]})
def zb5 (s:za) (m:Int) (x:zc):za×zc :=
 ({s with H:=uI s.H (vz x (opM s.P m x).A) (opM s.P m x).S (vz x (opM s.P m x).R)},xe x)
def YQ (s:za) (m:Int) (x:zc):za×zc :=
   if zfA s.L m s.P.Price s.P.Limit=true then
   if YU s.H s.P.Most=true then ({s with L:=zcc s.L m s.P.Price,H:=xT s.H,T:=YL s.T (wc (s.H.Objs.length+1))},setM x (opM s.P m x).R (wc (s.H.Objs.length+1)))
   else (s,xe x)
  else (s,{x with PC:=31})
def Uc (s:za) (m:Int) (x:zc):za×zc :=
   ({s with L:=(zcB s.L m (zoe s.L m s.P.Price s.P.Limit)).1},if (zcB s.L m (zoe s.L m s.P.Price s.P.Limit)).2=0 then {x with PC:=32,C:=zyC s.P (yh s.P) x.Bin} else {x with PC:=0})
def Uq (s:za) (m:Int) (x:zc):za×zc :=
   ({s with M:=(zm s.M x.C).1},if (zm s.M x.C).2.Out=1 then {x with PC:=33,Bin:=(zm s.M x.C).2.X,C:=(zm s.M x.C).2}
   else if (zm s.M x.C).2.Out=2 then {x with PC:=0,C:=(zm s.M x.C).2} else {x with C:=(zm s.M x.C).2})
def zcN (s:za) (m:Int) (x:zc):za×zc :=
 ({s with Bins:=s.Bins.set x.Bin.toNat []},{x with Batch:=Vf s x.Bin,PC:=34,C:=zbA s.P (zI s.P) x.Bin})
def Up (s:za) (m:Int) (x:zc):za×zc :=
   ({s with M:=(zm s.M x.C).1},if (zm s.M x.C).2.Out=1 then {x with C:=(zm s.M x.C).2,Bin:=0,PC:=35} else {x with C:=(zm s.M x.C).2})
def Ui (s:za) (m:Int) (x:zc):za×zc :=
 (s,match x.Batch with | []=>{x with PC:=0} | o::l=>{x with PC:=36,Obj:=o,Slot:=0,Batch:=l})
def zaB (s:za) (m:Int) (x:zc):za×zc :=
   (s,if zO s.H x.Obj x.Slot=0 then {x with Slot:=wc (x.Slot+1),PC:=onM s (wc (x.Slot+1))} else {x with Slot:=wc (x.Slot+1),PC:=37,G:=ZK 3 (zO s.H x.Obj x.Slot) m})
def XU (s:za) (m:Int) (x:zc):za×zc :=
 ((zo s x.G).1,if (zo s x.G).2.Out=1 then {x with G:=(zo s x.G).2,PC:=onM s x.Slot} else {x with G:=(zo s x.G).2})
def zel (s:za) (m:Int) (x:zc):za×zc :=
 ({s with T:=wz s.T x.Obj,L:=zcD s.L m},{x with PC:=39})
def ze8 (s:za) (m:Int) (x:zc):za×zc :=
 ({s with Work:=wc (s.Work-1)},{x with Obj:=0,PC:=35})
def zi (s:za) (m:Int) (x:zc):za×zc :=
 if x.PC=0 then mu0 s m x
 else if x.PC=1 then mu1 s m x
 else if x.PC=2 then mu2 s m x
 else if x.PC=3 then mu3 s m x
 else if x.PC=10 then zcS s m x
 else if x.PC=20 then Vo s m x
 else if x.PC=21 then WT s m x
 else if x.PC=22 then UD s m x
 else if x.PC=23 then zb5 s m x
 else if x.PC=30 then YQ s m x
 else if x.PC=31 then Uc s m x
 else if x.PC=32 then Uq s m x
 else if x.PC=33 then zcN s m x
 else if x.PC=34 then Up s m x
 else if x.PC=35 then Ui s m x
 else if x.PC=36 then zaB s m x
 else if x.PC=37 then XU s m x
 else if x.PC=38 then zel s m x
 else if x.PC=39 then ze8 s m x
 else (s,x)
def zu (s:za) (m:Int):za :=
 if s.Done=true∨m<1∨(s.Ms.length:Int)<m then s
 else match s.Ms[(m-1).toNat]? with
  | some x=>{(zi s m x).1 with Ms:=s.Ms.set (m-1).toNat (zi s m x).2}
  | none=>s
def zfP (p:zb) (m:Int):Nat:=(p.Regs.getD (m-1).toNat []).length
structure XOk (p:zb) (nb:Nat) (m:Int) (x:zc):Prop where
 pc:(0≤x.PC∧x.PC≤3)∨x.PC=10∨(20≤x.PC∧x.PC≤23)∨(30≤x.PC∧x.PC≤39)
 regs:x.Regs.length=zfP p m
 ip:0≤x.IP∧x.IP≤((vc p m).length:Int)
 op:(10≤x.PC∧x.PC≤30)∨((x.PC=1∨x.PC=3)∧x.Ret=22)→x.IP<((vc p m).length:Int)
 ret:x.PC=1∨x.PC=3→x.Ret=2∨x.Ret=22
 c32:x.PC=32→zyx p nb (yh p) x.C
 b33:x.PC=33→1≤x.Bin∧x.Bin<nb
 c34:x.PC=34→zvu p nb (zI p) x.C
 bin:x.PC≠33→x.PC≠34→x.Bin=0
 g:x.PC=3∨x.PC=37→MOk p nb x.G∧(x.G.PC=5→x.G.C.Out≠1)∧x.G.Mode≠1
 buf:(x.Buf.length:Int)≤p.Buf
theorem XOk.move {p:zb} {nb:Nat} {m:Int} {x y:zc} (X:XOk p nb m x) (h:x.PC≠33∧x.PC≠34) (pc:y.PC=0∨y.PC=2∨y.PC=10∨(20≤y.PC∧y.PC≤23)∨y.PC=30∨y.PC=31∨y.PC=35∨y.PC=36∨y.PC=38∨y.PC=39)
  (regs:y.Regs.length=x.Regs.length) (bin:y.Bin=x.Bin) (buf:(y.Buf.length:Int)≤p.Buf) (ip:0≤y.IP∧y.IP≤((vc p m).length:Int)) (op:10≤y.PC∧y.PC≤30→y.IP<((vc p m).length:Int)):XOk p nb m y :=
 ⟨by omega,regs.trans X.regs,ip,fun e=>op (by omega),fun e=>by omega,fun e=>by omega,fun e=>by omega,fun e=>by omega,fun _ _=>bin.trans (X.bin h.1 h.2),fun e=>by omega,buf⟩
theorem ZX (s:za) (i:Int):onM s i=36∨onM s i=38:=by unfold onM;split<;>simp
theorem XOk.next {p:zb} {nb:Nat} {m:Int} {x:zc} (hp:((vc p m).length:Int)≤64) (X:XOk p nb m x) (h:x.PC≠33∧x.PC≠34) (hi:x.IP<((vc p m).length:Int)):XOk p nb m (xe x):=by
 have:=X.ip
 have e:wc (x.IP+1)=x.IP+1:=xg (by omega) (by omega)
 refine X.move h (.inl rfl) rfl rfl X.buf ?_ (fun h=>absurd h (by show ¬((10:Int)≤0∧(0:Int)≤30);decide))
 show 0≤wc (x.IP+1)∧wc (x.IP+1)≤_
 rw [e];omega
theorem XOk.set {p:zb} {nb:Nat} {m:Int} {x:zc} (hp:((vc p m).length:Int)≤64) (X:XOk p nb m x) (h:x.PC≠33∧x.PC≠34) (hi:x.IP<((vc p m).length:Int)) (r v:Int):XOk p nb m (setM x r v):=by
 have:=X.ip
 have e:wc (x.IP+1)=x.IP+1:=xg (by omega) (by omega)
 refine X.move h (.inl rfl) (by simp [setM]) rfl X.buf ?_ (fun h=>absurd h (by show ¬((10:Int)≤0∧(0:Int)≤30);decide))
 show 0≤wc (x.IP+1)∧wc (x.IP+1)≤_
 rw [e];omega
theorem yI {motive:za×zc→Prop} (s:za) (m:Int) (x:zc) (h0:x.PC=0→motive (mu0 s m x)) (h1:x.PC=1→motive (mu1 s m x)) (h2:x.PC=2→motive (mu2 s m x)) (h3:x.PC=3→motive (mu3 s m x)) (h10:x.PC=10→motive (zcS s m x)) (h20:x.PC=20→motive (Vo s m x)) (h21:x.PC=21→motive (WT s m x)) (h22:x.PC=22→motive (UD s m x)) (h23:x.PC=23→motive (zb5 s m x)) (h30:x.PC=30→motive (YQ s m x)) (h31:x.PC=31→motive (Uc s m x)) (h32:x.PC=32→motive (Uq s m x)) (h33:x.PC=33→motive (zcN s m x)) (h34:x.PC=34→motive (Up s m x)) (h35:x.PC=35→motive (Ui s m x)) (h36:x.PC=36→motive (zaB s m x)) (h37:x.PC=37→motive (XU s m x)) (h38:x.PC=38→motive (zel s m x)) (h39:x.PC=39→motive (ze8 s m x)) (hn:motive (s,x)):motive (zi s m x):=by
 unfold zi
 by_cases c0:x.PC=0
 ·rw [if_pos c0];exact h0 c0
 rw [if_neg c0]
 by_cases c1:x.PC=1
 ·rw [if_pos c1];exact h1 c1
 rw [if_neg c1]
 by_cases c2:x.PC=2
 ·rw [if_pos c2];exact h2 c2
 rw [if_neg c2]
 by_cases c3:x.PC=3
 ·rw [if_pos c3];exact h3 c3
 rw [if_neg c3]
 by_cases c10:x.PC=10
 ·rw [if_pos c10];exact h10 c10
 rw [if_neg c10]
 by_cases c20:x.PC=20
 ·rw [if_pos c20];exact h20 c20
 rw [if_neg c20]
 by_cases c21:x.PC=21
 ·rw [if_pos c21];exact h21 c21
 rw [if_neg c21]
 by_cases c22:x.PC=22
 ·rw [if_pos c22];exact h22 c22
 rw [if_neg c22]
 by_cases c23:x.PC=23
 ·rw [if_pos c23];exact h23 c23
 rw [if_neg c23]
 by_cases c30:x.PC=30
 ·rw [if_pos c30];exact h30 c30
 rw [if_neg c30]
 by_cases c31:x.PC=31
 ·rw [if_pos c31];exact h31 c31
 rw [if_neg c31]
 by_cases c32:x.PC=32
 ·rw [if_pos c32];exact h32 c32
 rw [if_neg c32]
 by_cases c33:x.PC=33
 ·rw [if_pos c33];exact h33 c33
 rw [if_neg c33]
 by_cases c34:x.PC=34
 ·rw [if_pos c34];exact h34 c34
 rw [if_neg c34]
 by_cases c35:x.PC=35
 ·rw [if_pos c35];exact h35 c35
 rw [if_neg c35]
 by_cases c36:x.PC=36
 ·rw [if_pos c36];exact h36 c36
 rw [if_neg c36]
 by_cases c37:x.PC=37
 ·rw [if_pos c37];exact h37 c37
 rw [if_neg c37]
 by_cases c38:x.PC=38
 ·rw [if_pos c38];exact h38 c38
 rw [if_neg c38]
 by_cases c39:x.PC=39
 ·rw [if_pos c39];exact h39 c39
 rw [if_neg c39]
 exact hn
theorem zzV {p:zb} {nb:Nat} {s:za} {m:Int} {x:zc} (h:zA p) (hp:((vc p m).length:Int)≤64) (S:SOk p nb s) (X:XOk p nb m x):SOk p nb (zi s m x).1∧XOk p nb m (zi s m x).2:=by
 have hP:=S.P
 have hip:=X.ip
 have hbuf:=X.buf
 have hb:=h.buf
 have nop: ∀y:Int,31≤y→¬(10≤y∧y≤30):=fun y h e=>by omega
 refine yI (motive:=fun r=>SOk p nb r.1∧XOk p nb m r.2) s m x ?_ ?_ ?_ ?_ ?_ ?_ ?_ ?_ ?_ ?_ ?_ ?_ ?_ ?_ ?_ ?_ ?_ ?_ ?_ ?_
 ·intro c
  unfold mu0
  refine ⟨S,?_⟩
  unfold ZW
  rw [hP]
  split
  ·exact ⟨.inl ⟨(by show (0:Int)≤1;decide),(by show (1:Int)≤3;decide)⟩,X.regs,X.ip,fun e=>by dsimp only at e;omega,fun _=> .inl rfl,fun e=>(by cases e),fun e=>(by cases e),fun e=>(by cases e),fun _ _=>X.bin (by omega) (by omega),fun e=>by dsimp only at e;omega,X.buf⟩
  split
  ·exact X
  rename_i hlt
  have hlt:x.IP<((vc p m).length:Int):=by omega
  split
  ·exact X.move (by omega) (.inr (.inr (.inl rfl))) rfl rfl X.buf X.ip (fun _=>hlt)
  split
  ·exact X.move (by omega) (.inr (.inr (.inr (.inl ⟨by show (20:Int)≤20;decide,by show (20:Int)≤23;decide⟩)))) rfl rfl X.buf X.ip (fun _=>hlt)
  split
  ·exact X.move (by omega) (.inr (.inr (.inr (.inr (.inl rfl))))) rfl rfl X.buf X.ip (fun _=>hlt)
  split
  ·exact X.set hp (by omega) hlt _ _
  ·exact X.set hp (by omega) hlt _ _
 ·intro c
  unfold mu1
  refine ⟨S,?_⟩
  split
  ·rcases X.ret (.inl c) with e | e
   ·exact X.move (by omega) (.inr (.inl e)) rfl rfl X.buf X.ip (fun e2=>by dsimp only at e2;omega)
   ·exact X.move (by omega) (.inr (.inr (.inr (.inl (by dsimp only;omega))))) rfl rfl X.buf X.ip (fun e2=>X.op (.inr ⟨.inl c,e⟩))
  ·exact ⟨.inl ⟨(by show (0:Int)≤3;decide),(by show (3:Int)≤3;decide)⟩,X.regs,X.ip,fun e=>X.op (.inr ⟨.inl c,by dsimp only at e;omega⟩),fun _=>X.ret (.inl c),fun e=>(by cases e),fun e=>(by cases e),fun e=>(by cases e),fun _ _=>X.bin (by omega) (by omega),
    fun _=>⟨⟨fun e=>absurd e (by show ¬(2:Int)=1;decide),fun e=>(by cases e),fun e=>(by cases e),fun e=>(by cases e),fun e=>(by cases e)⟩,fun e=>(by cases e),by show (2:Int)≠1;decide⟩,by dsimp only;rw [List.length_take];omega⟩
 ·intro c
  unfold mu2
  exact ⟨S.keep rfl rfl rfl,X.move (by omega) (.inl rfl) rfl rfl X.buf X.ip (fun e=>absurd e (by show ¬((10:Int)≤0∧(0:Int)≤30);decide))⟩
 ·intro c
  unfold mu3
  obtain ⟨g1,g2,g3⟩:=X.g (.inl c)
  obtain ⟨r1,r2,r3⟩:=zpl h S g1 g2
  refine ⟨r1,?_⟩
  dsimp only
  split
  ·exact ⟨.inl ⟨(by show (0:Int)≤1;decide),(by show (1:Int)≤3;decide)⟩,X.regs,X.ip,fun e=>X.op (.inr ⟨.inr c,by dsimp only at e;omega⟩),fun _=>X.ret (.inr c),fun e=>(by cases e),fun e=>(by cases e),fun e=>(by cases e),fun _ _=>X.bin (by omega) (by omega),fun e=>by dsimp only at e;omega,X.buf⟩
  ·exact ⟨X.pc,X.regs,X.ip,X.op,X.ret,fun e=>by dsimp only at e;omega,fun e=>by dsimp only at e;omega,fun e=>by dsimp only at e;omega,X.bin,fun _=>⟨r2,r3,by rw [(Vw s x.G).2.2];exact g3⟩,X.buf⟩
 ·intro c
  unfold zcS
  exact ⟨S,X.set hp (by omega) (X.op (.inl (by omega))) _ _⟩
 ·intro c
  unfold Vo
  refine ⟨S,?_⟩
  split
  ·exact X.next hp (by omega) (X.op (.inl (by omega)))
  ·exact X.move (by omega) (.inr (.inr (.inr (.inl ⟨by show (20:Int)≤21;decide,by show (21:Int)≤23;decide⟩)))) rfl rfl X.buf X.ip (fun _=>X.op (.inl (by omega)))
 ·intro c
  unfold WT
  refine ⟨S,?_⟩
  split
  ·exact X.move (by omega) (.inr (.inr (.inr (.inl ⟨by show (20:Int)≤23;decide,by show (23:Int)≤23;decide⟩)))) rfl rfl X.buf X.ip (fun _=>X.op (.inl (by omega)))
  ·exact X.move (by omega) (.inr (.inr (.inr (.inl ⟨by show (20:Int)≤22;decide,by show (22:Int)≤23;decide⟩)))) rfl rfl X.buf X.ip (fun _=>X.op (.inl (by omega)))
 ·intro c
  unfold UD
  have hi:=X.op (.inl (by omega))
  refine ⟨S,?_⟩
  rw [hP]
  split
  ·exact ⟨.inl ⟨(by show (0:Int)≤1;decide),(by show (1:Int)≤3;decide)⟩,X.regs,X.ip,fun e=>hi,fun _=> .inr rfl,fun e=>(by cases e),fun e=>(by cases e),fun e=>(by cases e),fun _ _=>X.bin (by omega) (by omega),fun e=>by dsimp only at e;omega,X.buf⟩
  ·exact X.move (by omega) (.inr (.inr (.inr (.inl ⟨by show (20:Int)≤23;decide,by show (23:Int)≤23;decide⟩)))) rfl rfl (by simp;omega) X.ip (fun _=>hi)
 ·intro c
  unfold zb5
  exact ⟨S.keep rfl rfl rfl,X.next hp (by omega) (X.op (.inl (by omega)))⟩
 ·intro c
  unfold YQ
  have hi:=X.op (.inl (by omega))
  split
  ·split
   ·exact ⟨S.keep rfl rfl rfl,X.set hp (by omega) hi _ _⟩
   ·exact ⟨S,X.next hp (by omega) hi⟩
  ·exact ⟨S,X.move (by omega) (.inr (.inr (.inr (.inr (.inr (.inl rfl)))))) rfl rfl X.buf X.ip (fun e=>absurd e (by show ¬((10:Int)≤31∧(31:Int)≤30);decide))⟩
 ·intro c
  unfold Uc
  refine ⟨S.keep rfl rfl rfl,?_⟩
  rw [hP]
  split
  ·exact ⟨.inr (.inr (.inr ⟨(by show (30:Int)≤32;decide),(by show (32:Int)≤39;decide)⟩)),X.regs,X.ip,fun e=>by dsimp only at e;omega,fun e=>by dsimp only at e;omega,fun _=>zxk,fun e=>(by cases e),fun e=>(by cases e),fun _ _=>X.bin (by omega) (by omega),fun e=>by dsimp only at e;omega,X.buf⟩
  ·exact X.move (by omega) (.inl rfl) rfl rfl X.buf X.ip (fun e=>absurd e (by show ¬((10:Int)≤0∧(0:Int)≤30);decide))
 ·intro c
  unfold Uq
  have C:=X.c32 c
  obtain ⟨b1,b2,b3,b4,b5,b6⟩:=zv2 h S (.inl rfl) C.k C.h C.n C.v C.y C.o
  refine ⟨b1,?_⟩
  dsimp only
  split
  ·rename_i e1
   exact ⟨.inr (.inr (.inr ⟨(by show (30:Int)≤33;decide),(by show (33:Int)≤39;decide)⟩)),X.regs,X.ip,fun e=>by dsimp only at e;omega,fun e=>by dsimp only at e;omega,fun e=>(by cases e),fun _=>b6 e1,fun e=>(by cases e),fun e=>absurd rfl e,fun e=>by dsimp only at e;omega,X.buf⟩
  split
  ·exact X.move (by omega) (.inl rfl) rfl rfl X.buf X.ip (fun e=>absurd e (by show ¬((10:Int)≤0∧(0:Int)≤30);decide))
  ·rename_i e1 e2
   exact ⟨X.pc,X.regs,X.ip,X.op,X.ret,fun _=>⟨b2,b3,b4,(b5 e1 e2).1,(b5 e1 e2).2,e1⟩,fun e=>by dsimp only at e;omega,fun e=>by dsimp only at e;omega,X.bin,fun e=>by dsimp only at e;omega,X.buf⟩
 ·intro c
  unfold zcN
  have B:=X.b33 c
  refine ⟨S.keep rfl rfl (by simp),?_⟩
  rw [hP]
  exact ⟨.inr (.inr (.inr ⟨(by show (30:Int)≤34;decide),(by show (34:Int)≤39;decide)⟩)),X.regs,X.ip,fun e=>by dsimp only at e;omega,fun e=>by dsimp only at e;omega,fun e=>(by cases e),fun e=>(by cases e),fun _=>zvP B,fun _ e=>absurd rfl e,fun e=>by dsimp only at e;omega,X.buf⟩
 ·intro c
  unfold Up
  have C:=X.c34 c
  obtain ⟨b1,b2,b3,b4,b5,b6⟩:=ztD h S (.inr rfl) C.k C.h C.n C.x C.v
  refine ⟨b1,?_⟩
  dsimp only
  split
  ·exact ⟨.inr (.inr (.inr ⟨(by show (30:Int)≤35;decide),(by show (35:Int)≤39;decide)⟩)),X.regs,X.ip,fun e=>by dsimp only at e;omega,fun e=>by dsimp only at e;omega,fun e=>(by cases e),fun e=>(by cases e),fun e=>(by cases e),fun _ _=>rfl,fun e=>by dsimp only at e;omega,X.buf⟩
  ·exact ⟨X.pc,X.regs,X.ip,X.op,X.ret,fun e=>by dsimp only at e;omega,fun e=>by dsimp only at e;omega,fun _=>⟨b2,b3,b4,b5,b6⟩,X.bin,fun e=>by dsimp only at e;omega,X.buf⟩
 ·intro c
  unfold Ui
  refine ⟨S,?_⟩
  dsimp only
  split
  ·exact X.move (by omega) (.inl rfl) rfl rfl X.buf X.ip (fun e=>absurd e (by show ¬((10:Int)≤0∧(0:Int)≤30);decide))
  ·exact X.move (by omega) (by simp) rfl rfl X.buf X.ip (fun e=>absurd e (nop 36 (by omega)))
 ·intro c
  unfold zaB
  refine ⟨S,?_⟩
  dsimp only
  split
  ·rcases ZX s (wc (x.Slot+1)) with e | e<;>rw [e]
   ·exact X.move (by omega) (by simp) rfl rfl X.buf X.ip (fun e=>absurd e (nop 36 (by omega)))
   ·exact X.move (by omega) (by simp) rfl rfl X.buf X.ip (fun e=>absurd e (nop 38 (by omega)))
  ·exact ⟨.inr (.inr (.inr ⟨(by show (30:Int)≤37;decide),(by show (37:Int)≤39;decide)⟩)),X.regs,X.ip,fun e=>by dsimp only at e;omega,fun e=>by dsimp only at e;omega,fun e=>(by cases e),fun e=>(by cases e),fun e=>(by cases e),fun _ _=>X.bin (by omega) (by omega),
    fun _=>⟨⟨fun e=>absurd e (by show ¬(3:Int)=1;decide),fun e=>(by cases e),fun e=>(by cases e),fun e=>(by cases e),fun e=>(by cases e)⟩,fun e=>(by cases e),by show (3:Int)≠1;decide⟩,X.buf⟩
 ·intro c
  unfold XU
  obtain ⟨g1,g2,g3⟩:=X.g (.inr c)
  obtain ⟨r1,r2,r3⟩:=zpl h S g1 g2
  refine ⟨r1,?_⟩
  dsimp only
  split
  ·rcases ZX s x.Slot with e | e<;>rw [e]
   ·exact X.move (by omega) (by simp) rfl rfl X.buf X.ip (fun e=>absurd e (nop 36 (by omega)))
   ·exact X.move (by omega) (by simp) rfl rfl X.buf X.ip (fun e=>absurd e (nop 38 (by omega)))
  ·exact ⟨X.pc,X.regs,X.ip,X.op,X.ret,fun e=>by dsimp only at e;omega,fun e=>by dsimp only at e;omega,fun e=>by dsimp only at e;omega,X.bin,fun _=>⟨r2,r3,by rw [(Vw s x.G).2.2];exact g3⟩,X.buf⟩
 ·intro c
  unfold zel
  exact ⟨S.keep rfl rfl rfl,X.move (by omega) (by simp) rfl rfl X.buf X.ip (fun e=>absurd e (nop 39 (by omega)))⟩
 ·intro c
  unfold ze8
  exact ⟨S.keep rfl rfl rfl,X.move (by omega) (by simp) rfl rfl X.buf X.ip (fun e=>absurd e (nop 35 (by omega)))⟩
 ·exact ⟨S,X⟩
end
end Go.Pe.G
namespace Go.Pe.G
open Go.Pe
noncomputable section
def zG (s:za):za :=
 if s.Done=true then s
 else if s.D.PC=0 then {s with Flag:=false,D:={s.D with PC:=1}}
 else if s.D.PC=1 then (if s.Work=0 then {s with D:={s.D with PC:=2}} else s)
 else if s.D.PC=2 then {s with Epoch:=wc (s.Epoch+1),D:=⟨if s.Ms.length=0 then 4 else 3,0⟩}
 else if s.D.PC=3 then (if s.Acks.getD s.D.I.toNat 0<s.Epoch then s else {s with D:=⟨if wc (s.D.I+1)=(s.Ms.length:Int) then 4 else 3,wc (s.D.I+1)⟩})
 else if s.D.PC=4 then (if s.Work=0 then {s with D:={s.D with PC:=5}} else {s with Restarts:=wc (s.Restarts+1),D:={s.D with PC:=0}})
 else if s.D.PC=5 then (if s.Flag=true then {s with Restarts:=wc (s.Restarts+1),D:={s.D with PC:=0}} else {s with D:={s.D with PC:=6}})
 else if s.D.PC=6 then {s with Done:=true}
 else s
structure HOk (p:zb) (h:zr):Prop where
 slots:h.Slots=p.H.Slots
 n:(p.H.Objs.length:Int)≤(h.Objs.length:Int)∧(h.Objs.length:Int)≤p.Most
 objs: ∀o∈h.Objs,(o.length:Int)=h.Slots∧∀v∈o,0≤v∧v≤(h.Objs.length:Int)
structure EOk (p:zb) (nb:Nat) (s:za):Prop where
 S:SOk p nb s
 wl:(s.Ws.length:Int)=p.Workers
 ml:(s.Ms.length:Int)=p.Mutators
 al:s.Acks.length=s.Ms.length
 W: ∀(i:Nat) x,s.Ws[i]? =some x→WOk p nb ((i:Int)+1) x
 X: ∀(i:Nat) x,s.Ms[i]? =some x→XOk p nb ((i:Int)+1) x
 H:HOk p s.H
 D:(0≤s.D.PC∧s.D.PC≤6)∧(s.D.PC=3→0≤s.D.I∧s.D.I<(s.Ms.length:Int))
 small:YY s
theorem zri {p:zb} (h:zA p) (m:Int):((vc p m).length:Int)≤64:=by
 unfold vc
 have hr:=h.regs
 have hp:=h.progs
 rw [List.getD_eq_getElem?_getD]
 rcases Nat.lt_or_ge (m-1).toNat p.Progs.length with hl | hl
 ·rw [List.getElem?_eq_getElem hl]
  have hl2:(m-1).toNat<p.Regs.length:=by omega
  have:=(h.prog (m-1).toNat _ _ (List.getElem?_eq_getElem hl2) (List.getElem?_eq_getElem hl)).1
  show ((p.Progs[(m-1).toNat]).length:Int)≤64
  omega
 ·rw [List.getElem?_eq_none hl];show (([]:List zk).length:Int)≤64;simp
theorem zsf {p:zb} (h:zA p):EOk p (zZ p+1) (yM p):=by
 have hw:=h.wk
 have hm:=h.mt
 have hr:=h.regs
 have hn:=h.n
 have hmo:=h.most
 have hb:=h.buf
 refine ⟨zxy h,?_,?_,?_,fun i x hx=> ?_,fun i x hx=> ?_,⟨rfl,⟨Int.le_refl _,hmo.1⟩,h.objs⟩,⟨⟨by show (0:Int)≤0;decide,by show (0:Int)≤6;decide⟩,fun e=>absurd e (by show ¬(0:Int)=3;decide)⟩,zyT h⟩
 ·show (((List.range p.Workers.toNat).map (ul p)).length:Int)=_
  rw [List.length_map,List.length_range];omega
 ·show ((p.Regs.map xO).length:Int)=_
  rw [List.length_map];exact hr
 ·show (List.replicate p.Mutators.toNat (0:Int)).length=(p.Regs.map xO).length
  rw [List.length_replicate,List.length_map];omega
 ·have hx:((List.range p.Workers.toNat).map (ul p))[i]? =some x:=hx
  rw [List.getElem?_map] at hx
  rcases Nat.lt_or_ge i p.Workers.toNat with hl | hl
  ·rw [List.getElem?_range hl] at hx
   injection hx with hx
   subst hx
   exact ⟨⟨by show (0:Int)≤0;decide,by show (0:Int)≤9;decide⟩,by show 1≤(i:Int)+1∧(i:Int)+1≤p.Workers;omega,fun _=>⟨rfl,rfl,rfl⟩,fun e=>(by cases e),fun e=>(by cases e),fun e=>(by cases e),fun e=>(by cases e),fun e=>(by cases e)⟩
  ·rw [List.getElem?_eq_none (by rw [List.length_range];exact hl)] at hx;cases hx
 ·have hx:(p.Regs.map xO)[i]? =some x:=hx
  rw [List.getElem?_map] at hx
  cases hq:p.Regs[i]? with
  | none=>rw [hq] at hx;cases hx
  | some r =>
   rw [hq] at hx
   injection hx with hx
   subst hx
   refine ⟨.inl ⟨by show (0:Int)≤0;decide,by show (0:Int)≤3;decide⟩,?_,⟨by show (0:Int)≤0;decide,by show (0:Int)≤_;omega⟩,fun e=>absurd e ?_,fun e=>absurd e ?_,fun e=>(by cases e),fun e=>(by cases e),fun e=>(by cases e),fun _ _=>rfl,fun e=>absurd e ?_,by show (0:Int)≤p.Buf;omega⟩
   ·show r.length=zfP p ((i:Int)+1)
    unfold zfP
    rw [show ((i:Int)+1-1).toNat=i by omega,List.getD_eq_getElem?_getD,hq];rfl
   ·intro e;simp [xO] at e
   ·intro e;simp [xO] at e
   ·intro e;simp [xO] at e
theorem zp4 {s:za} (h:YY s) (b:Int):(Vf s b).length<1000000:=by
 unfold Vf
 rw [List.getD_eq_getElem?_getD]
 cases hq:s.Bins[b.toNat]? with
 | none=>simp
 | some l=>exact h.bin l (List.mem_of_getElem? hq)
theorem ztH (l:zn) (w:Int):(zcD l w).Bal.length=l.Bal.length:=by unfold zcD;split<;>simp
structure WV (s s':za):Prop where
 P:s'.P=s.P
 m:s'.M.length=s.M.length
 bl:s'.Bins.length=s.Bins.length
 b: ∀l∈s'.Bins,l∈s.Bins∨l.length≤1
 bal:s'.L.Bal.length=s.L.Bal.length
 ac:s'.Acks.length=s.Acks.length
 ws:s'.Ws=s.Ws
 ms:s'.Ms=s.Ms
 done:s'.Done=s.Done
 d:s'.D=s.D
theorem WV.refl (s:za):WV s s:=⟨rfl,rfl,rfl,fun l h=> .inl h,rfl,rfl,rfl,rfl,rfl,rfl⟩
theorem zc9 (s:za) (g:zC):WV s (zo s g).1∧(zo s g).1.H=s.H:=by
 obtain ⟨m,b,t,w,f,e,h1,h2,h3,_,_⟩:=zbv s g
 rw [e]
 exact ⟨⟨rfl,h1,h2,fun l hl=>(h3 l hl).imp id (fun e=>by rw [e];simp),rfl,rfl,rfl,rfl,rfl,rfl⟩,rfl⟩
theorem zxp {s:za} (b:Nat): ∀l∈s.Bins.set b [],l∈s.Bins∨l.length≤1:=fun l hl=>(List.mem_or_eq_of_mem_set hl).imp id (fun e=>by rw [e];simp)
theorem zt1 (s:za) (w:Int) (x:ze):WV s (zj s w x).1∧(zj s w x).1.H=s.H:=by
 unfold zj
 split
 ·exact ⟨⟨rfl,(zk6 _ _).1,rfl,fun l h=> .inl h,rfl,rfl,rfl,rfl,rfl,rfl⟩,rfl⟩
 split
 ·exact ⟨⟨rfl,zbp _ _,rfl,fun l h=> .inl h,rfl,rfl,rfl,rfl,rfl,rfl⟩,rfl⟩
 split
 ·exact ⟨⟨rfl,rfl,by simp,zxp _,rfl,rfl,rfl,rfl,rfl,rfl⟩,rfl⟩
 split
 ·exact ⟨⟨rfl,zbp _ _,rfl,fun l h=> .inl h,rfl,rfl,rfl,rfl,rfl,rfl⟩,rfl⟩
 split
 ·exact ⟨WV.refl s,rfl⟩
 split
 ·exact zc9 s x.G
 split
 ·exact ⟨WV.refl s,rfl⟩
 split
 ·exact ⟨⟨rfl,rfl,rfl,fun l h=> .inl h,ztH _ _,rfl,rfl,rfl,rfl,rfl⟩,rfl⟩
 split
 ·exact ⟨⟨rfl,rfl,rfl,fun l h=> .inl h,rfl,rfl,rfl,rfl,rfl,rfl⟩,rfl⟩
 ·exact ⟨WV.refl s,rfl⟩
theorem zwP (p:zb) (w:Int) (x:ze):(uS p w x).Batch=x.Batch:=by unfold uS;split<;>rfl
theorem zx0 {s:za} (h:YY s) (w:Int) {x:ze} (hx:x.Batch.length<1000000):(zj s w x).2.Batch.length<1000000:=by
 unfold zj
 split
 ·dsimp only
  split
  ·exact hx
  split
  ·rw [zwP];exact hx
  ·exact hx
 split
 ·dsimp only
  split
  ·exact hx
  split<;>exact hx
 split
 ·exact zp4 h _
 split
 ·dsimp only
  split<;>exact hx
 split
 ·dsimp only
  split<;>exact hx
 split
 ·dsimp only
  split<;>exact hx
 split
 ·dsimp only
  cases hb:x.Batch with
  | nil=>show x.Batch.length<_;exact hx
  | cons o l=>rw [hb] at hx;show l.length<_;simp at hx;omega
 split
 ·exact hx
 split
 ·exact hx
 ·exact hx
theorem zyd (l:zn) (w p:Int):(zcc l w p).Bal.length=l.Bal.length:=by unfold zcc;simp
theorem zy0 (l:zn) (w n:Int):(zcB l w n).1.Bal.length=l.Bal.length:=by unfold zcB;split<;>simp
theorem zvR (s:za) (m:Int) (x:zc):WV s (zi s m x).1:=by
 have q: ∀s':za,s'.P=s.P→s'.M=s.M→s'.Bins=s.Bins→s'.L.Bal.length=s.L.Bal.length→s'.Acks.length=s.Acks.length→s'.Ws=s.Ws→s'.Ms=s.Ms→s'.Done=s.Done→s'.D=s.D→WV s s' :=
  fun s' a b c d e f g h i=>⟨a,by rw [b],by rw [c],fun l hl=> .inl (c▸hl),d,e,f,g,h,i⟩
 refine yI (motive:=fun r=>WV s r.1) s m x ?_ ?_ ?_ ?_ ?_ ?_ ?_ ?_ ?_ ?_ ?_ ?_ ?_ ?_ ?_ ?_ ?_ ?_ ?_ ?_
 ·intro c
  unfold mu0
  exact WV.refl s
 ·intro c
  unfold mu1
  exact WV.refl s
 ·intro c
  unfold mu2
  exact q _ rfl rfl rfl rfl (by simp) rfl rfl rfl rfl
 ·intro c
  unfold mu3
  exact (zc9 s x.G).1
 ·intro c
  unfold zcS
  exact WV.refl s
 ·intro c
  unfold Vo
  exact WV.refl s
 ·intro c
  unfold WT
  exact WV.refl s
 ·intro c
  unfold UD
  exact WV.refl s
 ·intro c
  unfold zb5
  exact q _ rfl rfl rfl rfl rfl rfl rfl rfl rfl
 ·intro c
  unfold YQ
  split
  ·split
   ·exact q _ rfl rfl rfl (zyd _ _ _) rfl rfl rfl rfl rfl
   ·exact WV.refl s
  ·exact WV.refl s
 ·intro c
  unfold Uc
  exact q _ rfl rfl rfl (zy0 _ _ _) rfl rfl rfl rfl rfl
 ·intro c
  unfold Uq
  exact ⟨rfl,zbp _ _,rfl,fun l h=> .inl h,rfl,rfl,rfl,rfl,rfl,rfl⟩
 ·intro c
  unfold zcN
  exact ⟨rfl,rfl,by simp,zxp _,rfl,rfl,rfl,rfl,rfl,rfl⟩
 ·intro c
  unfold Up
  exact ⟨rfl,zbp _ _,rfl,fun l h=> .inl h,rfl,rfl,rfl,rfl,rfl,rfl⟩
 ·intro c
  unfold Ui
  exact WV.refl s
 ·intro c
  unfold zaB
  exact WV.refl s
 ·intro c
  unfold XU
  exact (zc9 s x.G).1
 ·intro c
  unfold zel
  exact q _ rfl rfl rfl (ztH _ _) rfl rfl rfl rfl rfl
 ·intro c
  unfold ze8
  exact q _ rfl rfl rfl rfl rfl rfl rfl rfl rfl
 ·exact WV.refl s
theorem HOk.sm {p:zb} (hp:zA p) {h:zr} (H:HOk p h):h.Objs.length<1000000∧∀x∈h.Objs,x.length<1000000:=by
 have h1:=H.n
 have h2:=hp.most
 have h3:=hp.n
 have h4:=hp.slots
 have h5:=H.slots
 exact ⟨by omega,fun x hx=>by have:=(H.objs x hx).1;omega⟩
theorem YY.turn {p:zb} (hp:zA p) {s s':za} (h:YY s) (T:WV s s') (H:HOk p s'.H):YY s':=by
 have hh:=H.sm hp
 refine ⟨by rw [T.m];exact h.m,by rw [T.bl];exact h.bins,fun x hx=> ?_,by rw [T.ac];exact h.acks,by rw [T.bal];exact h.bal,by rw [T.ws];exact h.ws,by rw [T.ws];exact h.w,by rw [T.ms];exact h.ms,by rw [T.ms];exact h.mu,hh.1,hh.2,by rw [T.P];exact h.pobjs,by rw [T.P];exact h.pobj,by rw [T.P];exact h.regs,by rw [T.P];exact h.reg,by rw [T.P];exact h.progs,by rw [T.P];exact h.prog,by rw [T.P];exact h.picks⟩
 rcases T.b x hx with h' | h'
 ·exact h.bin x h'
 ·omega
theorem YY.setW {s:za} (h:YY s) {i:Nat} {x:ze} (hx:x.Batch.length<1000000):YY {s with Ws:=s.Ws.set i x} :=
 ⟨h.m,h.bins,h.bin,h.acks,h.bal,by simp only [List.length_set];exact h.ws,fun y hy=>by
  rcases List.mem_or_eq_of_mem_set hy with hy | rfl
  ·exact h.w y hy
  ·exact hx,h.ms,h.mu,h.objs,h.obj,h.pobjs,h.pobj,h.regs,h.reg,h.progs,h.prog,h.picks⟩
theorem YY.setM {s:za} (h:YY s) {i:Nat} {x:zc} (hx:x.Regs.length<1000000∧x.Buf.length<1000000∧x.Batch.length<1000000):YY {s with Ms:=s.Ms.set i x} :=
 ⟨h.m,h.bins,h.bin,h.acks,h.bal,h.ws,h.w,by simp only [List.length_set];exact h.ms,fun y hy=>by
  rcases List.mem_or_eq_of_mem_set hy with hy | rfl
  ·exact h.mu y hy
  ·exact hx,h.objs,h.obj,h.pobjs,h.pobj,h.regs,h.reg,h.progs,h.prog,h.picks⟩
theorem zxh {α:Type} {l:List α} {i j:Nat} {x y:α} (h:(l.set i x)[j]? =some y):(j=i∧y=x)∨l[j]? =some y:=by
 rw [List.getElem?_set] at h
 split at h
 ·rename_i e
  split at h
  ·injection h with h;exact .inl ⟨e.symm,h.symm⟩
  ·cases h
 ·exact .inr h
theorem zv9 {p:zb} {nb:Nat} {s:za} (h:zA p) (E:EOk p nb s) (w:Int):EOk p nb (zF s w):=by
 unfold zF
 split
 ·exact E
 rename_i hc
 cases hx:s.Ws[(w-1).toNat]? with
 | none=>exact E
 | some x =>
  have hw1: ¬w<1:=fun e=>hc (.inr (.inl e))
  have hw2: ¬(s.Ws.length:Int)<w:=fun e=>hc (.inr (.inr e))
  have hwl:=E.wl
  have ei:(((w-1).toNat:Nat):Int)+1=w:=by omega
  have hW:=E.W _ x hx
  rw [ei] at hW
  obtain ⟨r1,r2⟩:=zxm h (by omega) E.S hW
  obtain ⟨T,TH⟩:=zt1 s w x
  have sm:YY (zj s w x).1:=E.small.turn h T (by rw [TH];exact E.H)
  have hws:(zj s w x).1.Ws=s.Ws:=T.ws
  refine ⟨r1.keep rfl rfl rfl,?_,?_,?_,fun i y hy=> ?_,fun i y hy=> ?_,?_,?_,?_⟩
  ·show ((s.Ws.set _ _).length:Int)=_
   rw [List.length_set];exact hwl
  ·show ((zj s w x).1.Ms.length:Int)=_
   rw [T.ms];exact E.ml
  ·show (zj s w x).1.Acks.length=(zj s w x).1.Ms.length
   rw [T.ms,T.ac];exact E.al
  ·rcases zxh hy with ⟨rfl,rfl⟩ | hy
   ·rw [ei];exact r2
   ·exact E.W i y hy
  ·have hy:(zj s w x).1.Ms[i]? =some y:=hy
   rw [T.ms] at hy
   exact E.X i y hy
  ·show HOk p (zj s w x).1.H
   rw [TH];exact E.H
  ·show (0≤(zj s w x).1.D.PC∧(zj s w x).1.D.PC≤6)∧((zj s w x).1.D.PC=3→0≤(zj s w x).1.D.I∧(zj s w x).1.D.I<((zj s w x).1.Ms.length:Int))
   rw [T.d,T.ms];exact E.D
  ·have:=sm.setW (i:=(w-1).toNat) (zx0 E.small w (E.small.w x (List.mem_of_getElem? hx)))
   rw [hws] at this
   exact this
theorem zx2 {p:zb} {nb:Nat} {s:za} (h:zA p) (E:EOk p nb s):EOk p nb (zG s):=by
 have key: ∀s':za,s'.P=s.P→s'.M=s.M→s'.Bins=s.Bins→s'.Ws=s.Ws→s'.Ms=s.Ms→s'.Acks=s.Acks→s'.H=s.H→s'.L=s.L→((0≤s'.D.PC∧s'.D.PC≤6)∧(s'.D.PC=3→0≤s'.D.I∧s'.D.I<(s'.Ms.length:Int)))→EOk p nb s':=by
  intro s' e1 e2 e3 e4 e5 e6 e7 e8 e9
  have q:=E.small
  refine ⟨E.S.keep e1 e2 (by rw [e3]),by rw [e4];exact E.wl,by rw [e5];exact E.ml,by rw [e5,e6];exact E.al,by rw [e4];exact E.W,by rw [e5];exact E.X,by rw [e7];exact E.H,e9,?_⟩
  exact ⟨by rw [e2];exact q.m,by rw [e3];exact q.bins,by rw [e3];exact q.bin,by rw [e6];exact q.acks,by rw [e8];exact q.bal,by rw [e4];exact q.ws,by rw [e4];exact q.w,by rw [e5];exact q.ms,by rw [e5];exact q.mu,by rw [e7];exact q.objs,by rw [e7];exact q.obj,by rw [e1];exact q.pobjs,by rw [e1];exact q.pobj,by rw [e1];exact q.regs,by rw [e1];exact q.reg,by rw [e1];exact q.progs,by rw [e1];exact q.prog,by rw [e1];exact q.picks⟩
 have hm: ∀n:Int,0≤n∧n≤6→n≠3→∀i,(0≤(⟨n,i⟩:zB).PC∧(⟨n,i⟩:zB).PC≤6)∧((⟨n,i⟩:zB).PC=3→0≤(⟨n,i⟩:zB).I∧(⟨n,i⟩:zB).I<(s.Ms.length:Int)):=fun n h1 h2 i=>⟨h1,fun e=>absurd e h2⟩
 have hml:=E.ml
 have hmt:=h.mt
 unfold zG
 split
 ·exact E
 split
 ·exact key _ rfl rfl rfl rfl rfl rfl rfl rfl (hm 1 (by decide) (by decide) _)
 split
 ·split
  ·exact key _ rfl rfl rfl rfl rfl rfl rfl rfl (hm 2 (by decide) (by decide) _)
  ·exact E
 split
 ·refine key _ rfl rfl rfl rfl rfl rfl rfl rfl ?_
  dsimp only
  split
  ·exact hm 4 (by decide) (by decide) _
  ·exact ⟨by decide,fun _=>by omega⟩
 split
 ·rename_i c3
  have hi:=E.D.2 c3
  split
  ·exact E
  ·refine key _ rfl rfl rfl rfl rfl rfl rfl rfl ?_
   dsimp only
   have e:wc (s.D.I+1)=s.D.I+1:=xg (by omega) (by omega)
   rw [e]
   split
   ·exact hm 4 (by decide) (by decide) _
   ·exact ⟨by decide,fun _=>by omega⟩
 split
 ·split
  ·exact key _ rfl rfl rfl rfl rfl rfl rfl rfl (hm 5 (by decide) (by decide) _)
  ·exact key _ rfl rfl rfl rfl rfl rfl rfl rfl (hm 0 (by decide) (by decide) _)
 split
 ·split
  ·exact key _ rfl rfl rfl rfl rfl rfl rfl rfl (hm 0 (by decide) (by decide) _)
  ·exact key _ rfl rfl rfl rfl rfl rfl rfl rfl (hm 6 (by decide) (by decide) _)
 split
 ·exact key _ rfl rfl rfl rfl rfl rfl rfl rfl E.D
 ·exact E
theorem HOk.put {p:zb} {h:zr} (H:HOk p h) (o s v:Int):HOk p (uI h o s v):=by
 unfold uI
 split
 ·rename_i c
  obtain ⟨c1,c2,c3⟩:=c
  unfold yK at c1
  simp only [Bool.and_eq_true,decide_eq_true_eq] at c1
  refine ⟨H.slots,by simp only [List.length_set];exact H.n,fun l hl=> ?_⟩
  simp only [List.length_set]
  rcases List.mem_or_eq_of_mem_set hl with hl | rfl
  ·exact H.objs l hl
  ·have hm:zM h o∈h.Objs:=by
    unfold zM
    rw [List.getD_eq_getElem?_getD,List.getElem?_eq_getElem (show (o-1).toNat<h.Objs.length by omega)]
    exact List.getElem_mem _
   obtain ⟨a,b⟩:=H.objs _ hm
   refine ⟨by rw [List.length_set];exact a,fun y hy=> ?_⟩
   rcases List.mem_or_eq_of_mem_set hy with hy | rfl
   ·exact b y hy
   ·exact ⟨c2,c3⟩
 ·exact H
theorem HOk.alloc {p:zb} (hp:zA p) {h:zr} (H:HOk p h) (hr:YU h p.Most=true):HOk p (xT h):=by
 unfold YU at hr
 simp only [Bool.and_eq_true,decide_eq_true_eq] at hr
 have hs:=hp.slots
 have hsl:=H.slots
 have hn:=H.n
 unfold xT
 refine ⟨H.slots,by simp only [List.length_append,List.length_singleton];omega,fun l hl=> ?_⟩
 simp only [List.length_append,List.length_singleton]
 rcases List.mem_append.1 hl with hl | hl
 ·obtain ⟨a,b⟩:=H.objs l hl
  exact ⟨a,fun v hv=>by have:=b v hv;omega⟩
 ·rw [List.mem_singleton.1 hl]
  refine ⟨by rw [List.length_replicate];omega,fun v hv=> ?_⟩
  rw [(List.mem_replicate.1 hv).2];omega
theorem zCV {p:zb} (hp:zA p) {s:za} (hP:s.P=p) (H:HOk p s.H) (m:Int) (x:zc):HOk p (zi s m x).1.H:=by
 refine yI (motive:=fun r=>HOk p r.1.H) s m x ?_ ?_ ?_ ?_ ?_ ?_ ?_ ?_ ?_ ?_ ?_ ?_ ?_ ?_ ?_ ?_ ?_ ?_ ?_ ?_
 ·intro c
  unfold mu0
  exact H
 ·intro c
  unfold mu1
  exact H
 ·intro c
  unfold mu2
  exact H
 ·intro c
  unfold mu3
  rw [(zc9 s x.G).2];exact H
 ·intro c
  unfold zcS
  exact H
 ·intro c
  unfold Vo
  exact H
 ·intro c
  unfold WT
  exact H
 ·intro c
  unfold UD
  exact H
 ·intro c
  unfold zb5
  exact H.put _ _ _
 ·intro c
  unfold YQ
  split
  ·split
   ·rename_i hr
    rw [hP] at hr
    exact H.alloc hp hr
   ·exact H
  ·exact H
 ·intro c
  unfold Uc
  exact H
 ·intro c
  unfold Uq
  exact H
 ·intro c
  unfold zcN
  exact H
 ·intro c
  unfold Up
  exact H
 ·intro c
  unfold Ui
  exact H
 ·intro c
  unfold zaB
  exact H
 ·intro c
  unfold XU
  rw [(zc9 s x.G).2];exact H
 ·intro c
  unfold zel
  exact H
 ·intro c
  unfold ze8
  exact H
 ·exact H
theorem zvC (s:za) (m:Int) (x:zc):(ZW s m x).Batch=x.Batch:=by
 unfold ZW
 repeat' split
 all_goals rfl
theorem zyH {s:za} (h:YY s) (m:Int) {x:zc} (hx:x.Batch.length<1000000):(zi s m x).2.Batch.length<1000000:=by
 refine yI (motive:=fun r=>r.2.Batch.length<1000000) s m x ?_ ?_ ?_ ?_ ?_ ?_ ?_ ?_ ?_ ?_ ?_ ?_ ?_ ?_ ?_ ?_ ?_ ?_ ?_ ?_
 ·intro c
  unfold mu0
  dsimp only;rw [zvC];exact hx
 ·intro c
  unfold mu1
  dsimp only;split<;>exact hx
 ·intro c
  unfold mu2
  exact hx
 ·intro c
  unfold mu3
  dsimp only;split<;>exact hx
 ·intro c
  unfold zcS
  exact hx
 ·intro c
  unfold Vo
  dsimp only;split<;>exact hx
 ·intro c
  unfold WT
  dsimp only;split<;>exact hx
 ·intro c
  unfold UD
  dsimp only;split<;>exact hx
 ·intro c
  unfold zb5
  exact hx
 ·intro c
  unfold YQ
  split
  ·split<;>exact hx
  ·exact hx
 ·intro c
  unfold Uc
  dsimp only;split<;>exact hx
 ·intro c
  unfold Uq
  dsimp only
  split
  ·exact hx
  split<;>exact hx
 ·intro c
  unfold zcN
  exact zp4 h _
 ·intro c
  unfold Up
  dsimp only;split<;>exact hx
 ·intro c
  unfold Ui
  dsimp only
  cases hb:x.Batch with
  | nil=>show ([]:List Int).length<1000000;simp
  | cons o l=>rw [hb] at hx;show l.length<_;simp at hx;omega
 ·intro c
  unfold zaB
  dsimp only;split<;>exact hx
 ·intro c
  unfold XU
  dsimp only;split<;>exact hx
 ·intro c
  unfold zel
  exact hx
 ·intro c
  unfold ze8
  exact hx
 ·exact hx
theorem zld {p:zb} (h:zA p) (m:Int):zfP p m<1000000:=by
 unfold zfP
 rw [List.getD_eq_getElem?_getD]
 cases hq:p.Regs[(m-1).toNat]? with
 | none=>simp
 | some r=>have:=(h.reg r (List.mem_of_getElem? hq)).1;show r.length<_;omega
theorem zkP {p:zb} {nb:Nat} {s:za} (h:zA p) (E:EOk p nb s) (m:Int):EOk p nb (zu s m):=by
 unfold zu
 split
 ·exact E
 rename_i hc
 cases hx:s.Ms[(m-1).toNat]? with
 | none=>exact E
 | some x =>
  have hw1: ¬m<1:=fun e=>hc (.inr (.inl e))
  have hw2: ¬(s.Ms.length:Int)<m:=fun e=>hc (.inr (.inr e))
  have ei:(((m-1).toNat:Nat):Int)+1=m:=by omega
  have hX:=E.X _ x hx
  rw [ei] at hX
  obtain ⟨r1,r2⟩:=zzV h (zri h m) E.S hX
  have T:=zvR s m x
  have TH:=zCV h E.S.P E.H m x
  have sm:YY (zi s m x).1:=E.small.turn h T TH
  have hms:(zi s m x).1.Ms=s.Ms:=T.ms
  have hb:=h.buf
  refine ⟨r1.keep rfl rfl rfl,?_,?_,?_,fun i y hy=> ?_,fun i y hy=> ?_,TH,?_,?_⟩
  ·show ((zi s m x).1.Ws.length:Int)=_
   rw [T.ws];exact E.wl
  ·show ((s.Ms.set _ _).length:Int)=_
   rw [List.length_set];exact E.ml
  ·show (zi s m x).1.Acks.length=(s.Ms.set _ _).length
   rw [List.length_set,T.ac];exact E.al
  ·have hy:(zi s m x).1.Ws[i]? =some y:=hy
   rw [T.ws] at hy
   exact E.W i y hy
  ·rcases zxh hy with ⟨rfl,rfl⟩ | hy
   ·rw [ei];exact r2
   ·exact E.X i y hy
  ·show (0≤(zi s m x).1.D.PC∧(zi s m x).1.D.PC≤6)∧((zi s m x).1.D.PC=3→0≤(zi s m x).1.D.I∧(zi s m x).1.D.I<((s.Ms.set _ _).length:Int))
   rw [T.d,List.length_set];exact E.D
  ·have q:=E.small.mu x (List.mem_of_getElem? hx)
   have q1:=r2.regs
   have q2:=r2.buf
   have q3:=zld h m
   have:=sm.setM (i:=(m-1).toNat) (x:=(zi s m x).2) ⟨by omega,by omega,zyH E.small m q.2.2⟩
   rw [hms] at this
   exact this
end
end Go.Pe.G
namespace Go.Pe.G
open Go.Pe
noncomputable section
theorem zxz (t:zt) (o:Int):zks t o=some (yD t o,()):=by
 rw [zvi,zpg,Option.bind_some]
 show (bif zK (t.Marks&&&t.Black) o then _ else _)=_
 unfold yD
 cases h:zK (t.Marks&&&t.Black) o with
 | true=>rfl
 | false =>
  rw [cond_false,zpg,Option.bind_some]
  show (bif zK t.Marks o then _ else _)=_
  cases h2:zK t.Marks o<;>rfl
theorem zoC (t:zt) (o:Int):zar t o=some (wz t o,decide (yD t o=1),()):=by
 rw [zsM,zxz,Option.bind_some,yw]
 unfold wz
 by_cases h:yD t o=1
 ·rw [if_pos h,if_pos h,zmc,Option.bind_some,decide_eq_true h]
 ·rw [if_neg h,if_neg h,decide_eq_false h]
theorem zrz {h:zr} (hl:h.Objs.length<1000000) (o s:Int):VV h o s=some (yK h o s,()):=by
 rw [znh]
 simp only [zw]
 unfold yK
 by_cases h1:1≤o
 ·rw [if_pos h1]
  by_cases h2:o≤(h.Objs.length:Int)
  ·rw [if_pos h2]
   by_cases h3:0≤s
   ·have e:=List.getElem?_eq_getElem (show (o-1).toNat<h.Objs.length by omega)
    rw [if_pos h3,z9 (a:=o-1) (by omega) (by omega),vn (by omega),e,Option.bind_some,decide_eq_true h1,decide_eq_true h2,decide_eq_true h3]
    unfold zM
    rw [List.getD_eq_getElem?_getD,e];rfl
   ·rw [if_neg h3,decide_eq_false h3,Bool.and_false];rfl
  ·rw [if_neg h2,decide_eq_false h2,Bool.and_false];rfl
 ·rw [if_neg h1,decide_eq_false h1];rfl
theorem zp9 {h:zr} (hl:h.Objs.length<1000000) (o s:Int):zdE h o s=some (zO h o s,yK h o s,()):=by
 rw [zuq,zrz hl,Option.bind_some]
 unfold zO
 cases hs:yK h o s with
 | false=>rfl
 | true =>
  have hs':=hs
  unfold yK at hs'
  simp only [Bool.and_eq_true,decide_eq_true_eq] at hs'
  obtain ⟨⟨⟨h1,h2⟩,h3⟩,h4⟩:=hs'
  have e:=List.getElem?_eq_getElem (show (o-1).toNat<h.Objs.length by omega)
  have es:zM h o=h.Objs[(o-1).toNat]'(by omega):=by unfold zM;rw [List.getD_eq_getElem?_getD,e];rfl
  rw [es] at h4
  have e2:=List.getElem?_eq_getElem (show s.toNat<(h.Objs[(o-1).toNat]'(by omega)).length by omega)
  simp only [Bool.not_true,cond_false,if_true]
  rw [z9 (a:=o-1) (by omega) (by omega),vn (by omega),e,Option.bind_some,vn h3,e2,Option.bind_some,es,List.getD_eq_getElem?_getD,e2];rfl
theorem ziz (l:zn) (who:Int):Zv l who=some (decide (1≤who)&&decide (who≤(l.Bal.length:Int)),()):=by
 rw [zjs,zw]
 by_cases h1:1≤who
 ·rw [if_pos h1,decide_eq_true h1];rfl
 ·rw [if_neg h1,decide_eq_false h1];rfl
theorem zpT {l:zn} (hl:l.Bal.length<1000000) (who:Int):zad l who=some (zcD l who,()):=by
 rw [zqr,xu,ziz,Option.bind_some]
 unfold zcD
 by_cases h:1≤who∧who≤(l.Bal.length:Int)
 ·rw [if_pos h,decide_eq_true h.1,decide_eq_true (show who≤((({l with Scanned:=wc (l.Scanned+1)}:zn).Bal.length:Nat):Int) from h.2)]
  have hn: ¬l.Bal.isEmpty=true:=by
   intro e
   have:l.Bal=[]:=by simpa using e
   rw [this] at h
   simp at h
   omega
  have hn:l.Bal.isEmpty=false:=by simpa using hn
  have e:=List.getElem?_eq_getElem (show (who-1).toNat<l.Bal.length by omega)
  rw [Bool.true_and,Bool.not_true,cond_false,V6]
  simp only [decide_true,cond_true,ziL (n:=(l.Bal.length:Int)) (by omega) (by omega),Option.bind_some,List.length_replicate,Int.toNat_natCast,hn,cond_false,xu]
  rw [xg (a:=who-1) (by omega) (by omega),uA (l:=l.Bal) (by omega) (by omega),Option.bind_some,e,Option.bind_some,zot,Option.bind_some,Option.bind_some,Option.bind_some,xu,List.getD_eq_getElem?_getD,e]
  rfl
 ·rw [if_neg h]
  have e:(decide (1≤who)&&decide (who≤((({l with Scanned:=wc (l.Scanned+1)}:zn).Bal.length:Nat):Int)))=false:=by
   by_cases h1:1≤who
   ·rw [decide_eq_true h1,decide_eq_false (fun e=>h ⟨h1,e⟩)];rfl
   ·rw [decide_eq_false h1];rfl
  rw [e];rfl
theorem zqQ {α:Type} (o:α) (l:List α):cut (o::l) 1 (((o::l).length:Nat):Int)=some l:=by
 unfold cut
 rw [decide_eq_true (show (0:Int)≤1 by decide),decide_eq_true (show (1:Int)≤(((o::l).length:Nat):Int) by simp;omega),decide_eq_true (Int.le_refl _)]
 simp
end
end Go.Pe.G
namespace Go.Pe.G
open Go.Pe
noncomputable section
theorem zqg {p:zb} (h:zA p) {m:Int} (hm:1≤m∧m≤p.Mutators):p.Progs[(m-1).toNat]? =some (vc p m):=by
 have:=h.progs
 have e:=List.getElem?_eq_getElem (show (m-1).toNat<p.Progs.length by omega)
 unfold vc
 rw [List.getD_eq_getElem?_getD,e];rfl
theorem zl6 {p:zb} (h:zA p) {m:Int} (hm:1≤m∧m≤p.Mutators) {o:zk} (ho:o∈vc p m):(0≤o.R∧o.R<(zfP p m:Int))∧(0≤o.A∧o.A<(zfP p m:Int)):=by
 have hr:=h.regs
 have er:=List.getElem?_eq_getElem (show (m-1).toNat<p.Regs.length by omega)
 have e1:zfP p m=(p.Regs[(m-1).toNat]'(by omega)).length:=by unfold zfP;rw [List.getD_eq_getElem?_getD,er];rfl
 have hl:=(h.reg _ (List.getElem_mem (show (m-1).toNat<p.Regs.length by omega))).1
 obtain ⟨a,b⟩:=(h.prog _ _ _ er (zqg h hm)).2 o ho
 rw [e1]
 refine ⟨a,?_⟩
 rcases b with ⟨_,b,_⟩ | ⟨_,b,_⟩ | ⟨_,b,_⟩
 ·exact b
 ·exact b
 ·omega
theorem zhL {p:zb} (h:zA p) {s:za} (hP:s.P=p) {m:Int} (hm:1≤m∧m≤p.Mutators) {x:zc} (hi:0≤x.IP∧x.IP<((vc p m).length:Int)) :
  vy ⟨x,s,m⟩=some (opM p m x,())∧opM p m x∈vc p m:=by
 have hmt:=h.mt
 have e:=List.getElem?_eq_getElem (show x.IP.toNat<(vc p m).length by omega)
 have eo:opM p m x=(vc p m)[x.IP.toNat]'(by omega):=by unfold opM;rw [List.getD_eq_getElem?_getD,e];rfl
 rw [znG]
 dsimp only
 rw [hP,z9 (a:=m-1) (by omega) (by omega),vn (by omega),zqg h hm,Option.bind_some,vn hi.1,e,Option.bind_some,eo]
 exact ⟨rfl,List.getElem_mem _⟩
theorem zlR {x:zc} {r:Int} (h:0≤r∧r<(x.Regs.length:Int)):idx x.Regs r=some (vz x r):=by
 have e:=List.getElem?_eq_getElem (show r.toNat<x.Regs.length by omega)
 rw [vn h.1,e]
 unfold vz
 rw [List.getD_eq_getElem?_getD,e];rfl
theorem zfH {s:za} {m:Int} {x:zc} {r:Int} (h:0≤r∧r<(x.Regs.length:Int)) (hl:x.Regs.length<1000000) (v:Int):uE r v ⟨x,s,m⟩=some (⟨setM x r v,s,m⟩,()):=by
 rw [zjY]
 simp only [U0 (show x.Regs.length<4294967296 by omega),Option.bind_some,uA h.1 h.2,ZY,xu]
 rfl
theorem znX {p:zb} (h:zA p) {s:za} (hP:s.P=p) {m:Int} (hm:1≤m∧m≤p.Mutators) {x:zc} (hi:0≤x.IP∧x.IP<((vc p m).length:Int)) (hr:x.Regs.length=zfP p m) (ho:s.H.Objs.length<1000000) :
  Va ⟨x,s,m⟩=some (zpo s m x,()):=by
 obtain ⟨e1,e2⟩:=zhL h hP hm hi
 have o:=zl6 h hm e2
 rw [zlT]
 simp only [e1,Option.bind_some,zlR (x:=x) (r:=(opM p m x).A) (by omega),zp9 ho]
 unfold zpo
 rw [hP]
theorem zmt {p:zb} {nb:Nat} (h:zA p) {s:za} (S:SOk p nb s) {m:Int} {x:zc} (M:MOk p nb x.G) (to:Int) :
  Yb to ⟨x,s,m⟩=some (⟨if (zo s x.G).2.Out=1 then {x with PC:=to,G:=(zo s x.G).2} else {x with G:=(zo s x.G).2},(zo s x.G).1,m⟩,()):=by
 rw [zg1]
 simp only [zui (S.gok h M),Option.bind_some,zw]
 split<;>rfl
theorem zrc (s:za) (x:zc) (m:Int):UK ⟨x,s,m⟩=some (onM s x.Slot,()):=by
 rw [znD,zw]
 unfold onM
 split<;>rfl
theorem zn7 (k hd to:Int) (s:za) (x:zc) (m:Int):Y2 k hd to ⟨x,s,m⟩=some (⟨{x with PC:=to,C:=⟨k,0,hd,zI s.P,0#64,x.Bin,0,0⟩},s,m⟩,()):=by
 rw [ziF]
 simp only [zbC,Option.bind_some,Wj]
theorem zAK {m:List zc} (h:m.length<4294967296):wY m=some (m,()):=by
 rw [WP,List.nil_append,wT h,Option.bind_some]
 cases m with
 | nil=>simp [zgo]
 | cons a l=>simp
theorem zup {p:zb} (h:zA p) {nb:Nat} {s:za} (hP:s.P=p) {m:Int} (hm:1≤m∧m≤p.Mutators) (ha:(s.Acks.length:Int)=p.Mutators) {x:zc} (X:XOk p nb m x) :
  Vs ⟨x,s,m⟩=some (⟨ZW s m x,s,m⟩,()):=by
 have hmt:=h.mt
 have hip:=X.ip
 have hrs:=zld h m
 have e:=List.getElem?_eq_getElem (show (m-1).toNat<s.Acks.length by omega)
 have ed:s.Acks.getD (m-1).toNat 0=s.Acks[(m-1).toNat]'(by omega):=by rw [List.getD_eq_getElem?_getD,e];rfl
 have pg:s.P.Progs[(m-1).toNat]? =some (vc p m):=by rw [hP];exact zqg h hm
 rw [zh4]
 simp only [zw]
 rw [z9 (a:=m-1) (by omega) (by omega),vn (by omega),e,Option.bind_some]
 unfold ZW
 rw [ed,hP]
 by_cases c:(s.Acks[(m-1).toNat]'(by omega))<s.Epoch
 ·rw [if_pos c,if_pos c]
 rw [if_neg c,if_neg c,←hP,vn (by omega),pg,Option.bind_some,hP]
 by_cases c2:((vc p m).length:Int)≤x.IP
 ·rw [if_pos c2,if_pos c2]
 rw [if_neg c2,if_neg c2]
 obtain ⟨e1,e2⟩:=zhL h hP hm (x:=x) (show 0≤x.IP∧x.IP<((vc p m).length:Int) by omega)
 have o:=zl6 h hm e2
 have hreg:=X.regs
 rw [e1,Option.bind_some]
 by_cases k1:(opM p m x).Kind=1
 ·rw [if_pos k1,if_pos k1]
 rw [if_neg k1,if_neg k1]
 by_cases k2:(opM p m x).Kind=2
 ·rw [if_pos k2,if_pos k2]
 rw [if_neg k2,if_neg k2]
 by_cases k3:(opM p m x).Kind=3
 ·rw [if_pos k3,if_pos k3]
 rw [if_neg k3,if_neg k3]
 by_cases k4:(opM p m x).Kind=4
 ·rw [if_pos k4,if_pos k4,zlR (x:=x) (r:=(opM p m x).A) (by omega),Option.bind_some,zfH (x:=x) (r:=(opM p m x).R) (by omega) (by omega)];rfl
 ·rw [if_neg k4,if_neg k4,zfH (x:=x) (r:=(opM p m x).R) (by omega) (by omega)];rfl
theorem zzP {h:zr} (hl:h.Objs.length<1000000) (hs: ∀l∈h.Objs,l.length<1000000) (o i v:Int): ∃b,zmx h o i v=some (uI h o i v,b,()):=by
 rw [zum,zrz hl,Option.bind_some]
 unfold uI
 cases ht:yK h o i with
 | false=>rw [if_neg (fun e=>by cases e.1)];exact ⟨_,rfl⟩
 | true =>
  rw [Bool.not_true,cond_false,zw]
  by_cases h1:v<0
  ·rw [if_pos h1,if_neg (by omega)];exact ⟨_,rfl⟩
  rw [if_neg h1,zw]
  by_cases h2:(h.Objs.length:Int)<v
  ·rw [if_pos h2,if_neg (by omega)];exact ⟨_,rfl⟩
  have hh:=ht
  unfold yK at hh
  simp only [Bool.and_eq_true,decide_eq_true_eq] at hh
  obtain ⟨⟨⟨g1,g2⟩,g3⟩,g4⟩:=hh
  have e:=List.getElem?_eq_getElem (show (o-1).toNat<h.Objs.length by omega)
  have es:zM h o=h.Objs[(o-1).toNat]'(by omega):=by unfold zM;rw [List.getD_eq_getElem?_getD,e];rfl
  have hlen:=hs _ (List.mem_of_getElem? e)
  rw [if_neg h2,if_pos ⟨rfl,by omega,by omega⟩,zh0 (by omega),Option.bind_some,z9 (a:=o-1) (by omega) (by omega),uA (l:=h.Objs) (by omega) (by omega),Option.bind_some,e,Option.bind_some,U0 (by omega),Option.bind_some,Option.bind_some,Option.bind_some]
  rw [zw,if_pos rfl,uA g3 (by rw [←es];exact g4),Option.bind_some,es]
  exact ⟨_,rfl⟩
theorem zuu {h:zr} (h1:1≤h.Slots∧h.Slots≤4) (h2:h.Objs.length≤64) (h3: ∀o∈h.Objs,(o.length:Int)=h.Slots∧∀v∈o,0≤v∧v≤(h.Objs.length:Int)):za7 h=some (true,()):=by
 rw [zkv,zw,if_pos h1.1,zw,if_pos h1.2,zw,if_pos (by omega),ztQ (by omega) (by omega) h3]
 rfl
theorem zxQ {h:zr} (h1:1≤h.Slots∧h.Slots≤4) (h2:h.Objs.length≤64) (h3: ∀o∈h.Objs,(o.length:Int)=h.Slots∧∀v∈o,0≤v∧v≤(h.Objs.length:Int)) (hne:h.Objs≠[]) (most:Int) :
  ziA h most=some (if YU h most=true then (xT h,(h.Objs.length:Int)+1,0,()) else (h,0,4,())):=by
 have hn:h.Objs.length≠0:=fun e=>hne (List.eq_nil_of_length_eq_zero e)
 rw [zr6,zuu h1 h2 h3,Option.bind_some,Bool.not_true,cond_false]
 simp only [zw]
 have er:YU h most=true↔(h.Objs.length:Int)<most∧(h.Objs.length:Int)<64:=by unfold YU;simp
 have hx:(if 64<most then (64:Int) else most)≤(h.Objs.length:Int)↔¬(YU h most=true):=by
  rw [er]
  split<;>omega
 by_cases hr:YU h most=true
 ·rw [if_neg (fun e=>hx.1 e hr),if_pos hr]
  have ec:Wq h.Objs=some (h.Objs,()):=by
   rw [zga]
   simp [hn]
  rw [ec,Option.bind_some,if_pos trivial,zkw,decide_eq_true (show 0≤h.Slots by omega),decide_eq_true (show h.Slots<4294967296 by omega)]
  simp only [Bool.and_self,cond_true,Option.bind_some]
  rw [wT (by simp only [List.length_append,List.length_singleton];omega),Option.bind_some]
  unfold xT
  simp
 ·rw [if_pos (hx.2 hr),if_neg hr]
theorem zyf (t:zt) (o:Int): ∃b,zjn t o=some (YL t o,b,()):=by
 rw [zrF,zrk,Option.bind_some]
 unfold YL
 dsimp only
 cases hs:(vk t o).2 with
 | false=>rw [if_neg (by simp)];exact ⟨_,rfl⟩
 | true=>rw [Bool.not_true,cond_false,zoC,if_pos rfl];exact ⟨_,rfl⟩
theorem zny (l:zn) (who price limit:Int):Yy l who price limit=some (zap l who price limit,()):=by
 rw [ziq,ziz,Option.bind_some]
 unfold zap zal
 simp only [zw]
 cases ht:(decide (1≤who)&&decide (who≤(l.Bal.length:Int))) with
 | false=>rw [cond_false];simp
 | true =>
  rw [cond_true]
  by_cases h1:0≤price<;>by_cases h2:0≤limit
  ·rw [if_pos (by split<;>omega)]
   simp only [Bool.true_and,decide_eq_true h1,decide_eq_true h2,Option.some.injEq,Prod.mk.injEq,and_true]
   rw [Bool.eq_iff_iff]
   simp only [decide_eq_true_eq,Bool.and_eq_true]
   split<;>omega
  ·rw [if_neg (by split<;>omega)];simp [h2]
  ·rw [if_neg (by split<;>omega)];simp [h1]
  ·rw [if_neg (by split<;>omega)];simp [h1]
theorem zsS {l:zn} {who:Int} (hl:l.Bal.length<1000000) (h:zal l who=true):idx l.Bal (w64 (who-1))=some (zbm l who)∧xM l.Bal (w64 (who-1))=some (who-1).toNat∧l.Bal[(who-1).toNat]? =some (zbm l who):=by
 unfold zal at h
 simp only [Bool.and_eq_true,decide_eq_true_eq] at h
 have e:=List.getElem?_eq_getElem (show (who-1).toNat<l.Bal.length by omega)
 have eb:zbm l who=l.Bal[(who-1).toNat]'(by omega):=by unfold zbm;rw [List.getD_eq_getElem?_getD,e];rfl
 rw [z9 (a:=who-1) (by omega) (by omega),vn (by omega),uA (by omega) (by omega),e,eb]
 exact ⟨rfl,rfl,rfl⟩
theorem zst {l:zn} (hl:l.Bal.length<1000000) (who price limit:Int):zdN l who price limit=some (zfA l who price limit,()):=by
 rw [zrr,zny,Option.bind_some]
 unfold zfA
 cases hp:zap l who price limit with
 | false=>rfl
 | true =>
  have ht:zal l who=true:=by unfold zap at hp;simp only [Bool.and_eq_true] at hp;exact hp.1.1.1.1
  dsimp only
  rw [cond_true,(zsS hl ht).1,Option.bind_some,xu,Bool.true_and,Int.zero_sub]
theorem znv {l l':zn} (hl:l.Bal.length<1000000) {who:Int} (h:zal l who=true) (hb:l'.Bal=l.Bal) {v:Int} {Q:Option (zn×Unit)} {f:Int→Option (Int×Unit)} (hf:f (zbm l who)=some (v,()))
  (hQ:Q=bif decide (((l'.Bal.length:Int))=((l'.Bal.length:Int))) then (WD ((l'.Bal.length:Int))).bind fun n1=>bif decide (l'.Bal.length=((List.replicate n1 ((0:Int))).length)) then
   bif l'.Bal.isEmpty then (xM (List.replicate n1 ((0:Int))) (w64 (who-1))).bind fun n2=>((List.replicate n1 ((0:Int)))[n2]?).bind fun x3=>(f x3).bind fun y4=>(xM (List.replicate n1 ((0:Int))) (w64 (who-1))).bind fun n5=>some ({l' with Bal:=(List.replicate n1 ((0:Int))).set n5 y4.1},())
   else (xM l'.Bal (w64 (who-1))).bind fun n6=>(l'.Bal[n6]?).bind fun x7=>(f x7).bind fun y8=>(xM l'.Bal (w64 (who-1))).bind fun n9=>some ({l' with Bal:=l'.Bal.set n9 y8.1},()) else none else none) :
  Q=some ({l' with Bal:=l.Bal.set (who-1).toNat v},()):=by
 obtain ⟨e1,e2,e3⟩:=zsS hl h
 have hne:l.Bal.isEmpty=false:=by
  cases hl2:l.Bal with
  | nil=>rw [hl2] at e3;simp at e3
  | cons a r=>rfl
 rw [hQ,hb,zkw,decide_eq_true (show (0:Int)≤(l.Bal.length:Int) by omega),decide_eq_true (show (l.Bal.length:Int)<4294967296 by omega)]
 simp only [decide_true,cond_true,Bool.and_self,Option.bind_some,Int.toNat_natCast,List.length_replicate,hne,cond_false,e2,e3,hf]
theorem zvE {l:zn} (hl:l.Bal.length<1000000) (who price limit:Int):ze3 l who price limit=some (if zfA l who price limit=true then (zcc l who price,true,()) else (l,false,())):=by
 rw [zpw,zst hl,Option.bind_some]
 cases hm:zfA l who price limit with
 | false=>rfl
 | true =>
  have ht:zal l who=true:=by unfold zfA zap at hm;simp only [Bool.and_eq_true] at hm;exact hm.1.1.1.1.1
  dsimp only
  rw [Bool.not_true,cond_false,znv (l':={l with Spent:=w64 (l.Spent+price)}) hl ht rfl (f:=fun b=>UQ b price) (v:=wc (zbm l who-price)) (by rw [znQ,xu]) (VP _ _ _),Option.bind_some,if_pos rfl,xu]
  rfl
theorem zw4 {l:zn} (hl:l.Bal.length<1000000) (who want:Int):zgV l who want=some ((zcB l who want).1,(zcB l who want).2,()):=by
 rw [zqo,ziz,Option.bind_some]
 unfold zcB
 have em:(bif decide (l.Pool<want) then l.Pool else want)=zlv want l.Pool:=by rw [zw];rfl
 simp only [em]
 have et:(decide (1≤who)&&decide (who≤(l.Bal.length:Int)))=zal l who:=rfl
 rw [et]
 cases ht:zal l who with
 | false=>rw [if_neg (fun e=>by cases e.1)];rfl
 | true =>
  rw [Bool.not_true,cond_false,zw]
  by_cases hz:zlv want l.Pool≤0
  ·rw [if_pos hz,if_neg (by omega)]
  ·rw [if_neg hz,if_pos ⟨rfl,by omega⟩,znv (l':={l with Pool:=w64 (l.Pool-zlv want l.Pool)}) hl ht rfl (f:=fun b=>zaP b (zlv want l.Pool)) (v:=wc (zbm l who+zlv want l.Pool)) (by rw [zo3,xu]) (Uo _ _ _),Option.bind_some,xu]
theorem zvT {l:zn} (hl:l.Bal.length<1000000) (who price limit:Int):zfD l who price limit=some (zoe l who price limit,()):=by
 rw [zpH,zny,Option.bind_some]
 unfold zoe
 cases hp:zap l who price limit with
 | false=>rfl
 | true =>
  have ht:zal l who=true:=by unfold zap at hp;simp only [Bool.and_eq_true] at hp;exact hp.1.1.1.1
  dsimp only
  rw [Bool.not_true,cond_false,zst hl,Option.bind_some,if_pos rfl]
  cases hm:zfA l who price limit with
  | false=>rw [cond_false,(zsS hl ht).1,Option.bind_some,xu];rfl
  | true=>rfl
theorem zwH {p:zb} {nb:Nat} (h:zA p) {s:za} {x:zc} {m:Int} (S:SOk p nb s) (X:XOk p nb m x) (hm:1≤m∧m≤p.Mutators) (ha:(s.Acks.length:Int)=p.Mutators) (sm:YY s) (H:HOk p s.H) (hb:x.Buf.length<1000000) (hbt:x.Batch.length<1000000):Ub ⟨x,s,m⟩=some (⟨(zi s m x).2,(zi s m x).1,m⟩,()):=by
 have hmt:=h.mt
 have hpc:=X.pc
 rw [ziK]
 simp only [zw]
 unfold zi
 by_cases c0:x.PC=0
 ·rw [if_pos c0,if_pos c0,zup h S.P hm ha X];rfl
 rw [if_neg c0,if_neg c0]
 by_cases c1:x.PC=1
 ·rw [if_pos c1,if_pos c1,zhW]
  simp only [zw]
  unfold mu1
  by_cases e:x.Buf.length=0
  ·rw [if_pos e,if_pos (by rw [z9 (by omega) (by omega)];omega)];rfl
  ·have ei:=List.getElem?_eq_getElem (show x.Buf.length-1<x.Buf.length by omega)
   have en:((x.Buf.length:Int)-1).toNat=x.Buf.length-1:=by omega
   have ec:cut x.Buf 0 ((x.Buf.length:Int)-1)=some (x.Buf.take (x.Buf.length-1)):=by
    unfold cut
    rw [decide_eq_true (show (0:Int)≤0 by decide),decide_eq_true (show (0:Int)≤(x.Buf.length:Int)-1 by omega),decide_eq_true (show (x.Buf.length:Int)-1≤(x.Buf.length:Int) by omega),en]
    simp
   rw [if_neg e,z9 (a:=(x.Buf.length:Int)-1) (by omega) (by omega),if_neg (by omega),vn (by omega),en,ei,Option.bind_some,zmK,Option.bind_some,ec,List.getD_eq_getElem?_getD,ei]
   rfl
 rw [if_neg c1,if_neg c1]
 by_cases c2:x.PC=2
 ·rw [if_pos c2,if_pos c2,zjS]
  have hs:=sm.acks
  simp only [U0 (show s.Acks.length<4294967296 by omega),Option.bind_some]
  rw [z9 (a:=m-1) (by omega) (by omega),uA (l:=s.Acks) (by omega) (by omega)]
  rfl
 rw [if_neg c2,if_neg c2]
 have hbl:=sm.bal
 have hon:=sm.objs
 have hregs:=X.regs
 have hrs:=zld h m
 have hHs:=H.slots
 have hHn:=H.n
 have hpn:=h.n
 have hpm:=h.most
 have hps:=h.slots
 have op:=fun (hi:x.IP<((vc p m).length:Int))=>zhL h S.P hm (x:=x) ⟨X.ip.1,hi⟩
 by_cases c3:x.PC=3
 ·rw [if_pos c3,if_pos c3,zio,zmt h S (X.g (.inl c3)).1];rfl
 rw [if_neg c3,if_neg c3]
 by_cases c10:x.PC=10
 ·have hi:=X.op (.inl (by omega))
  obtain ⟨e1,e2⟩:=op hi
  have o:=zl6 h hm e2
  rw [if_pos c10,if_pos c10,zjz,e1,Option.bind_some,znX h S.P hm ⟨X.ip.1,hi⟩ hregs hon,Option.bind_some,zfH (x:=x) (r:=(opM p m x).R) (by omega) (by omega)]
  unfold zcS
  rw [S.P];rfl
 rw [if_neg c10,if_neg c10]
 by_cases c20:x.PC=20
 ·have hi:=X.op (.inl (by omega))
  obtain ⟨e1,e2⟩:=op hi
  have o:=zl6 h hm e2
  rw [if_pos c20,if_pos c20,zkb,e1,Option.bind_some]
  unfold Vo
  dsimp only
  rw [zlR (x:=x) (r:=(opM p m x).A) (by omega),Option.bind_some,zw,S.P]
  by_cases e:vz x (opM p m x).A=0
  ·rw [if_pos e,if_pos e,ZY,xu];rfl
  ·rw [if_neg e,if_neg e,znX h S.P hm ⟨X.ip.1,hi⟩ hregs hon];rfl
 rw [if_neg c20,if_neg c20]
 by_cases c21:x.PC=21
 ·rw [if_pos c21,if_pos c21,zhD]
  unfold WT
  dsimp only
  rw [zw]
  by_cases e:x.Old=0
  ·rw [if_pos e,if_pos (.inl e)];rfl
  ·rw [if_neg e,zxz,Option.bind_some,yw]
   by_cases e2:yD s.T x.Old=0
   ·rw [if_pos e2,if_neg (fun h=>h.elim e (fun h=>h e2))];rfl
   ·rw [if_neg e2,if_pos (.inr e2)];rfl
 rw [if_neg c21,if_neg c21]
 by_cases c22:x.PC=22
 ·rw [if_pos c22,if_pos c22,zfx]
  unfold UD
  dsimp only
  rw [zw]
  by_cases e:s.P.Buf≤(x.Buf.length:Int)
  ·rw [if_pos e,if_pos e];rfl
  ·rw [if_neg e,if_neg e,U0 (by omega),Option.bind_some,wT (by simp;omega)];rfl
 rw [if_neg c22,if_neg c22]
 by_cases c23:x.PC=23
 ·have hi:=X.op (.inl (by omega))
  obtain ⟨e1,e2⟩:=op hi
  have o:=zl6 h hm e2
  obtain ⟨b,ep⟩:=zzP hon sm.obj (vz x (opM p m x).A) (opM p m x).S (vz x (opM p m x).R)
  rw [if_pos c23,if_pos c23,zij,e1,Option.bind_some]
  dsimp only
  rw [zlR (x:=x) (r:=(opM p m x).A) (by omega),Option.bind_some,zlR (x:=x) (r:=(opM p m x).R) (by omega),Option.bind_some,ep,Option.bind_some,ZY,xu]
  unfold zb5
  rw [S.P];rfl
 rw [if_neg c23,if_neg c23]
 by_cases c30:x.PC=30
 ·have hi:=X.op (.inl (by omega))
  obtain ⟨e1,e2⟩:=op hi
  have o:=zl6 h hm e2
  have hne:s.H.Objs≠[]:=fun e=>by
   have e2:s.H.Objs.length=0:=by rw [e];rfl
   omega
  rw [if_pos c30,if_pos c30,zhQ]
  unfold YQ
  dsimp only
  rw [zvE hbl,Option.bind_some]
  cases hmay:zfA s.L m s.P.Price s.P.Limit with
  | false=>rfl
  | true =>
   rw [if_pos rfl,if_pos rfl]
   dsimp only
   rw [Bool.not_true,cond_false,zxQ (show 1≤s.H.Slots∧s.H.Slots≤4 by rw [hHs];omega) (show s.H.Objs.length≤64 by omega) H.objs hne,Option.bind_some]
   cases hr:YU s.H s.P.Most with
   | false =>
    rw [if_neg (by simp),if_neg (by simp)]
    dsimp only
    rw [yw,if_neg (by decide),ZY,xu];rfl
   | true =>
    rw [if_pos rfl,if_pos rfl]
    dsimp only
    obtain ⟨b,ef⟩:=zyf s.T ((s.H.Objs.length:Int)+1)
    rw [yw,if_pos rfl,ef,Option.bind_some]
    have e3:=(zhL h (s:={s with H:=xT s.H,T:=YL s.T ((s.H.Objs.length:Int)+1),L:=zcc s.L m s.P.Price}) S.P hm (x:=x) ⟨X.ip.1,hi⟩).1
    rw [e3,Option.bind_some,zfH (x:=x) (r:=(opM p m x).R) (by omega) (by omega),xg (by omega) (by omega)]
    rw [S.P];rfl
 rw [if_neg c30,if_neg c30]
 by_cases c31:x.PC=31
 ·rw [if_pos c31,if_pos c31,zjG]
  unfold Uc
  dsimp only
  rw [zvT hbl,Option.bind_some,zw4 hbl,Option.bind_some,zw]
  by_cases e:(zcB s.L m (zoe s.L m s.P.Price s.P.Limit)).2=0
  ·rw [if_pos e,if_pos e,zdI,Option.bind_some,zn7];rfl
  ·rw [if_neg e,if_neg e];rfl
 rw [if_neg c31,if_neg c31]
 by_cases c32:x.PC=32
 ·rw [if_pos c32,if_pos c32,zj1]
  unfold Uq
  dsimp only
  rw [zdW (by have:=S.mem;omega),Option.bind_some,zw,zw]
  by_cases e:(zm s.M x.C).2.Out=1
  ·rw [if_pos e,if_pos e];rfl
  ·rw [if_neg e,if_neg e]
   by_cases e2:(zm s.M x.C).2.Out=2
   ·rw [if_pos e2,if_pos e2];rfl
   ·rw [if_neg e2,if_neg e2];rfl
 rw [if_neg c32,if_neg c32]
 by_cases c33:x.PC=33
 ·have B:=X.b33 c33
  have hbn:=S.bins
  have hnb:=S.nbk
  have e:=List.getElem?_eq_getElem (show x.Bin.toNat<s.Bins.length by omega)
  rw [if_pos c33,if_pos c33,zhC]
  unfold zcN
  dsimp only
  rw [vn (by omega),e,Option.bind_some,zh0 (by omega),Option.bind_some,uA (l:=s.Bins) (by omega) (by omega),Option.bind_some,zb8,Option.bind_some,zn7]
  have eb:Vf s x.Bin=s.Bins[x.Bin.toNat]'(by omega):=by unfold Vf;rw [List.getD_eq_getElem?_getD,e];rfl
  rw [eb];rfl
 rw [if_neg c33,if_neg c33]
 by_cases c34:x.PC=34
 ·rw [if_pos c34,if_pos c34,zjw]
  unfold Up
  dsimp only
  rw [zdW (by have:=S.mem;omega),Option.bind_some,zw]
  by_cases e:(zm s.M x.C).2.Out=1
  ·rw [if_pos e,if_pos e];rfl
  ·rw [if_neg e,if_neg e];rfl
 rw [if_neg c34,if_neg c34]
 by_cases c35:x.PC=35
 ·rw [if_pos c35,if_pos c35,zig]
  unfold Ui
  dsimp only
  rw [zw]
  cases hbb:x.Batch with
  | nil=>rw [if_neg (by simp)];rfl
  | cons o l =>
   have:idx (o::l) 0=some o:=by rw [vn (by omega)];rfl
   rw [if_pos (by simp),this,Option.bind_some,zqQ];rfl
 rw [if_neg c35,if_neg c35]
 by_cases c36:x.PC=36
 ·rw [if_pos c36,if_pos c36,zjv]
  unfold zaB
  dsimp only
  rw [zp9 hon,Option.bind_some,zrc,Option.bind_some,yw,xu]
  by_cases e:zO s.H x.Obj x.Slot=0
  ·rw [if_pos e,if_pos e];rfl
  ·rw [if_neg e,if_neg e,zmK];rfl
 rw [if_neg c36,if_neg c36]
 by_cases c37:x.PC=37
 ·rw [if_pos c37,if_pos c37,zjZ,zrc,Option.bind_some,zmt h S (X.g (.inr c37)).1];rfl
 rw [if_neg c37,if_neg c37]
 by_cases c38:x.PC=38
 ·rw [if_pos c38,if_pos c38,zgj]
  unfold zel
  dsimp only
  rw [zoC,Option.bind_some,zpT hbl];rfl
 rw [if_neg c38,if_neg c38]
 have c39:x.PC=39:=by omega
 rw [if_pos c39,if_pos c39,zgt,xu];rfl
theorem zdO {p:zb} {nb:Nat} {s:za} (h:zA p) (E:EOk p nb s) (m:Int):XR s m=some (zu s m,()):=by
 rw [zpE]
 simp only [zw]
 unfold zu
 cases hd:s.Done with
 | true=>rw [cond_true,if_pos (.inl rfl)]
 | false =>
  rw [cond_false]
  by_cases h1:m<1
  ·rw [if_pos h1,if_pos (.inr (.inl h1))]
  rw [if_neg h1]
  by_cases h2:(s.Ms.length:Int)<m
  ·rw [if_pos h2,if_pos (.inr (.inr h2))]
  have hml:=E.ml
  have hal:=E.al
  have hmt:=h.mt
  have e:=List.getElem?_eq_getElem (show (m-1).toNat<s.Ms.length by omega)
  have ei:(((m-1).toNat:Nat):Int)+1=m:=by omega
  have hX:=E.X _ _ e
  rw [ei] at hX
  have hb:=(E.small.mu _ (List.mem_of_getElem? e)).2
  have T:=zvR s m (s.Ms[(m-1).toNat]'(by omega))
  rw [if_neg h2,if_neg (fun e=>e.elim (fun h=>by cases h) (fun e=>e.elim h1 h2)),z9 (a:=m-1) (by omega) (by omega),vn (by omega),e,Option.bind_some,zwH h E.S hX (by omega) (by omega) E.small E.H hb.1 hb.2,Option.bind_some]
  simp only [T.ms,zAK (show s.Ms.length<4294967296 by omega),Option.bind_some,uA (l:=s.Ms) (show 0≤m-1 by omega) (show m-1<(s.Ms.length:Int) by omega)]
end
end Go.Pe.G
namespace Go.Pe.G
open Go.Pe
noncomputable section
theorem zp2 {p:zb} {nb:Nat} {s:za} (h:zA p) (E:EOk p nb s):zcF s=some (zG s,()):=by
 rw [zq3,xu]
 simp only [zw,yw]
 have ag: ∀s:za,VX s=some ({s with Restarts:=wc (s.Restarts+1),D:={s.D with PC:=0}},()):=fun s=>by rw [zmX,xu]
 unfold zG
 by_cases hd:s.Done=true
 ·rw [cond_eq_ite,if_pos hd,if_pos hd]
 ·rw [cond_eq_ite,if_neg hd,if_neg hd]
  by_cases c0:s.D.PC=0
  ·rw [if_pos c0,if_pos c0]
  rw [if_neg c0,if_neg c0]
  by_cases c1:s.D.PC=1
  ·rw [if_pos c1,if_pos c1]
   by_cases w:s.Work=0
   ·rw [if_pos w,if_pos w]
   ·rw [if_neg w,if_neg w]
  rw [if_neg c1,if_neg c1]
  by_cases c2:s.D.PC=2
  ·rw [if_pos c2,if_pos c2]
   by_cases w:s.Ms.length=0
   ·rw [if_pos (show (s.Ms.length:Int)=0 by omega),if_pos w]
   ·rw [if_neg (show ¬(s.Ms.length:Int)=0 by omega),if_neg w]
  rw [if_neg c2,if_neg c2]
  by_cases c3:s.D.PC=3
  ·have hi:=E.D.2 c3
   have ha:=E.al
   have e:=List.getElem?_eq_getElem (show s.D.I.toNat<s.Acks.length by omega)
   have ed:s.Acks.getD s.D.I.toNat 0=s.Acks[s.D.I.toNat]'(by omega):=by rw [List.getD_eq_getElem?_getD,e];rfl
   rw [if_pos c3,if_pos c3,vn hi.1,e,Option.bind_some,ed]
   by_cases w:(s.Acks[s.D.I.toNat]'(by omega))<s.Epoch
   ·rw [if_pos w,if_pos w]
   ·rw [if_neg w,if_neg w]
    by_cases v:wc (s.D.I+1)=(s.Ms.length:Int)
    ·rw [if_pos v,if_pos v]
    ·rw [if_neg v,if_neg v,c3]
  rw [if_neg c3,if_neg c3]
  by_cases c4:s.D.PC=4
  ·rw [if_pos c4,if_pos c4]
   by_cases w:s.Work=0
   ·rw [if_pos w,if_pos w]
   ·rw [if_neg w,if_neg w,ag];rfl
  rw [if_neg c4,if_neg c4]
  by_cases c5:s.D.PC=5
  ·rw [if_pos c5,if_pos c5]
   by_cases hf:s.Flag=true
   ·rw [cond_eq_ite,if_pos hf,if_pos hf,ag];rfl
   ·rw [cond_eq_ite,if_neg hf,if_neg hf]
  rw [if_neg c5,if_neg c5]
  by_cases c6:s.D.PC=6
  ·rw [if_pos c6,if_pos c6]
  ·rw [if_neg c6,if_neg c6]
end
end Go.Pe.G
namespace Go.Pe.G
open Go.Pe
noncomputable section
theorem zAP {m:List ze} (h:m.length<4294967296):vl m=some (m,()):=by
 rw [Vt,List.nil_append,wT h,Option.bind_some]
 cases m with
 | nil=>simp [zgo]
 | cons a l=>simp
theorem zAn {n v:Int} (h:1≤v∧v≤n) (hn:n<1000000):w64 (v.tmod n+1)=zhZ n v:=by
 unfold zhZ
 rw [Int.tmod_eq_emod_of_nonneg (by omega)]
 by_cases hv:v<n
 ·rw [if_pos hv,Int.emod_eq_of_lt (by omega) hv,z9 (by omega) (by omega)]
 ·have:v=n:=by omega
  rw [if_neg hv,this,Int.emod_self,z9 (by omega) (by omega)]
  rfl
theorem zwQ {p:zb} (h:zA p) {s:za} (hP:s.P=p) (hl:(s.Ws.length:Int)=p.Workers) {x:ze} (hv:1≤x.Victim∧x.Victim≤p.Workers) (w:Int) :
  XK ⟨x,s,w⟩=some (⟨uS p w x,s,w⟩,()):=by
 have hw:=h.wk
 rw [zkm]
 simp only [zw,hl]
 rw [if_neg (show ¬p.Workers=0 by omega),zAn hv (by omega)]
 unfold uS
 by_cases e:zhZ p.Workers x.Victim=w
 ·rw [if_pos e,if_pos e,zdI,Option.bind_some,zdQ]
  simp only [zbC,Option.bind_some,Wj,e,hP]
  rfl
 ·rw [if_neg e,if_neg e,zgy]
  simp only [zf6,Option.bind_some,U5,hP]
theorem zon {p:zb} {s:za} (hP:s.P=p) (x:ze) (w:Int):uh ⟨x,s,w⟩=some (⟨Ul p w x,s,w⟩,()):=by
 rw [ziH,zgy]
 simp only [zf6,Option.bind_some,U5,hP]
 rfl
theorem ztV (s:za) (x:ze) (w:Int):W5 ⟨x,s,w⟩=some (onW s x.Slot,()):=by
 rw [znV,zw]
 unfold onW
 split<;>rfl
theorem zpX {s:za} (hm:s.M.length<4294967296) (x:ze) (w:Int):uG ⟨x,s,w⟩=some ((zm s.M x.C).2.Out,⟨{x with C:=(zm s.M x.C).2},{s with M:=(zm s.M x.C).1},w⟩,()):=by
 rw [zkj]
 simp only [zdW hm,Option.bind_some]
theorem zre {p:zb} (h:zA p) {s:za} (hP:s.P=p) (hm:s.M.length<4294967296) (hl:(s.Ws.length:Int)=p.Workers) {x:ze} (hv:1≤x.Victim∧x.Victim≤p.Workers) (hc:x.D.Cap<1000) {w:Int} (h01:x.PC=0∨x.PC=1) :
  WC ⟨x,s,w⟩=some (⟨(zj s w x).2,(zj s w x).1,w⟩,()):=by
 unfold zj
 rw [if_pos h01,zlG]
 simp only [zxS hm hc,Option.bind_some,zw]
 by_cases o1:(zU s.M x.D).2.Out=1
 ·rw [if_pos o1,if_pos o1,zbL];rfl
 ·rw [if_neg o1,if_neg o1]
  have hk:=fun (x':ze) (e:x'.Victim=x.Victim)=>zwQ h (s:={s with M:=(zU s.M x.D).1}) hP hl (x:=x') (by rw [e];exact hv) w
  by_cases o4:(zU s.M x.D).2.Out=4
  ·rw [if_pos o4,if_pos (.inr o4),hk {x with D:=(zU s.M x.D).2} rfl,Option.bind_some,hP]
  ·rw [if_neg o4]
   by_cases o2:(zU s.M x.D).2.Out=2
   ·rw [if_pos o2,if_pos (.inl o2),hk {x with D:=(zU s.M x.D).2} rfl,Option.bind_some,hP]
   ·rw [if_neg o2,if_neg (by omega)]
theorem zxY {p:zb} {nb:Nat} (h:zA p) {s:za} {x:ze} {w:Int} (S:SOk p nb s) (W:WOk p nb w x) (hl:(s.Ws.length:Int)=p.Workers) (sm:YY s) :
  UB ⟨x,s,w⟩=some (⟨(zj s w x).2,(zj s w x).1,w⟩,()):=by
 have hP:=S.P
 have hm:s.M.length<4294967296:=by have:=S.mem;omega
 have hc:=h.cap
 rw [zjV]
 simp only [zw]
 by_cases c0:x.PC=0
 ·rw [if_pos c0,if_pos c0,zre h hP hm hl W.vic (by have:=(W.d0 c0).2.2;omega) (.inl c0),Option.bind_some]
 rw [if_neg c0]
 by_cases c1:x.PC=1
 ·rw [if_pos c1,zre h hP hm hl W.vic (by have:=(W.d1 c1).2.2;omega) (.inr c1),Option.bind_some]
 rw [if_neg c1]
 unfold zj
 rw [if_neg (show ¬(x.PC=0∨x.PC=1) by omega)]
 by_cases c2:x.PC=2
 ·rw [if_pos c2,if_pos c2,zpX hm,Option.bind_some]
  simp only [zon (s:={s with M:=(zm s.M x.C).1}) hP]
  by_cases o1:(zm s.M x.C).2.Out=1
  ·rw [if_pos o1,if_pos o1]
  ·rw [if_neg o1,if_neg o1]
   by_cases o2:(zm s.M x.C).2.Out=2
   ·rw [if_pos o2,if_pos o2,Option.bind_some,hP]
   ·rw [if_neg o2,if_neg o2]
 rw [if_neg c2,if_neg c2]
 by_cases c3:x.PC=3
 ·have B:=W.b3 c3
  have hb:=S.bins
  have hnb:=S.nbk
  have e:=List.getElem?_eq_getElem (show x.Bin.toNat<s.Bins.length by omega)
  rw [if_pos c3,if_pos c3,zj4]
  dsimp only
  rw [vn (by omega),e,Option.bind_some,zh0 (by omega),Option.bind_some,uA (l:=s.Bins) (by omega) (by omega),Option.bind_some,zb8,Option.bind_some,zdQ]
  simp only [zbC,Option.bind_some,Wj]
  unfold Vf
  rw [List.getD_eq_getElem?_getD,e];rfl
 rw [if_neg c3,if_neg c3]
 by_cases c4:x.PC=4
 ·rw [if_pos c4,if_pos c4,zpX hm,Option.bind_some]
  dsimp only
  by_cases o1:(zm s.M x.C).2.Out=1
  ·rw [if_pos o1,if_pos o1]
  ·rw [if_neg o1,if_neg o1]
 rw [if_neg c4,if_neg c4]
 by_cases c5:x.PC=5
 ·rw [if_pos c5,if_pos c5,zke]
  simp only [zp9 sm.objs,Option.bind_some,zw,ztV,zmK,xu]
  by_cases v:zO s.H x.Obj x.Slot=0
  ·rw [if_pos v,if_pos v];rfl
  ·rw [if_neg v,if_neg v];rfl
 rw [if_neg c5,if_neg c5]
 by_cases c6:x.PC=6
 ·obtain ⟨g1,g2,g3,g4⟩:=W.g6 c6
  rw [if_pos c6,if_pos c6]
  simp only [zui (S.gok h g1),Option.bind_some,ztV]
  have eH:(zo s x.G).1.H=s.H:=(zc9 s x.G).2
  by_cases o1:(zo s x.G).2.Out=1
  ·rw [if_pos o1,if_pos o1]
   unfold onW
   rw [eH]
  ·rw [if_neg o1,if_neg o1]
 rw [if_neg c6,if_neg c6]
 by_cases c7:x.PC=7
 ·rw [if_pos c7,if_pos c7]
  cases hb:x.Batch with
  | nil=>rw [if_pos (by simp),zon hP,Option.bind_some,hP]
  | cons o l =>
   rw [if_neg (by simp;omega),vn (by omega)]
   simp only [Int.toNat_zero,List.getElem?_cons_zero,Option.bind_some,zbL,hb]
   rw [zqQ];rfl
 rw [if_neg c7,if_neg c7]
 by_cases c8:x.PC=8
 ·rw [if_pos c8,if_pos c8]
  simp only [zoC,Option.bind_some,zpT sm.bal]
 rw [if_neg c8,if_neg c8]
 by_cases c9:x.PC=9
 ·rw [if_pos c9,if_pos c9,xu]
 ·rw [if_neg c9,if_neg c9]
theorem zwG {p:zb} {nb:Nat} {s:za} (h:zA p) (E:EOk p nb s) (w:Int):zgY s w=some (zF s w,()):=by
 rw [zqE]
 simp only [zw]
 unfold zF
 cases hd:s.Done with
 | true=>rw [cond_true,if_pos (.inl rfl)]
 | false =>
  rw [cond_false]
  by_cases h1:w<1
  ·rw [if_pos h1,if_pos (.inr (.inl h1))]
  rw [if_neg h1]
  by_cases h2:(s.Ws.length:Int)<w
  ·rw [if_pos h2,if_pos (.inr (.inr h2))]
  have hwl:=E.wl
  have hwk:=h.wk
  have e:=List.getElem?_eq_getElem (show (w-1).toNat<s.Ws.length by omega)
  have ei:(((w-1).toNat:Nat):Int)+1=w:=by omega
  have hW:=E.W _ _ e
  rw [ei] at hW
  obtain ⟨T,TH⟩:=zt1 s w (s.Ws[(w-1).toNat]'(by omega))
  rw [if_neg h2,if_neg (fun e=>e.elim (fun h=>by cases h) (fun e=>e.elim h1 h2)),z9 (a:=w-1) (by omega) (by omega),vn (by omega),e,Option.bind_some,zxY h E.S hW hwl E.small,Option.bind_some]
  simp only [T.ws,zAP (show s.Ws.length<4294967296 by omega),Option.bind_some,uA (l:=s.Ws) (show 0≤w-1 by omega) (show w-1<(s.Ws.length:Int) by omega)]
end
end Go.Pe.G
namespace Go.Pe.G
open Go.Pe
noncomputable section
theorem Xw (s:za) (g:zC):(zo s g).1={s with M:=(zo s g).1.M,Bins:=(zo s g).1.Bins,T:=(zo s g).1.T,Work:=(zo s g).1.Work,Flag:=(zo s g).1.Flag}:=by
 obtain ⟨m,b,t,wk,f,e,_⟩:=zbv s g
 rw [e]
theorem zd6 {p:zb} {nb:Nat} {s:za} {w:Int} {x:ze} (W:WOk p nb w x):(zj s w x).1={s with M:=(zj s w x).1.M,Bins:=(zj s w x).1.Bins,T:=(zj s w x).1.T,Work:=(zj s w x).1.Work,L:=(zj s w x).1.L}:=by
 unfold zj
 split
 ·rfl
 split
 ·rfl
 split
 ·rfl
 split
 ·rfl
 split
 ·rfl
 split
 ·rename_i h6
  obtain ⟨g1,g2,g3,g4⟩:=W.g6 h6
  have hf:=(zxi s g3 g4).2
  obtain ⟨m,b,t,wk,f,e,_⟩:=zbv s x.G
  dsimp only
  rw [e] at hf ⊢
  have hf:f=s.Flag:=hf
  rw [hf]
 split
 ·rfl
 split
 ·rfl
 split<;>rfl
theorem zdn (s:za) (m:Int) (x:zc):(zi s m x).1={s with H:=(zi s m x).1.H,M:=(zi s m x).1.M,Bins:=(zi s m x).1.Bins,T:=(zi s m x).1.T,Work:=(zi s m x).1.Work,Flag:=(zi s m x).1.Flag,Acks:=(zi s m x).1.Acks,L:=(zi s m x).1.L}:=by
 have g: ∀g:zC,(zo s g).1={s with H:=(zo s g).1.H,M:=(zo s g).1.M,Bins:=(zo s g).1.Bins,T:=(zo s g).1.T,Work:=(zo s g).1.Work,Flag:=(zo s g).1.Flag,Acks:=(zo s g).1.Acks,L:=(zo s g).1.L}:=fun g=>by
  obtain ⟨m,b,t,wk,f,e,_⟩:=zbv s g
  rw [e]
 refine yI (motive:=fun r=>r.1={s with H:=r.1.H,M:=r.1.M,Bins:=r.1.Bins,T:=r.1.T,Work:=r.1.Work,Flag:=r.1.Flag,Acks:=r.1.Acks,L:=r.1.L}) s m x ?_ ?_ ?_ ?_ ?_ ?_ ?_ ?_ ?_ ?_ ?_ ?_ ?_ ?_ ?_ ?_ ?_ ?_ ?_ ?_
 ·exact fun _=>rfl
 ·exact fun _=>rfl
 ·exact fun _=>rfl
 ·exact fun _=>g x.G
 ·exact fun _=>rfl
 ·exact fun _=>rfl
 ·exact fun _=>rfl
 ·exact fun _=>rfl
 ·exact fun _=>rfl
 ·intro _
  unfold YQ
  split
  ·split<;>rfl
  ·rfl
 ·exact fun _=>rfl
 ·exact fun _=>rfl
 ·exact fun _=>rfl
 ·exact fun _=>rfl
 ·exact fun _=>rfl
 ·exact fun _=>rfl
 ·exact fun _=>g x.G
 ·exact fun _=>rfl
 ·exact fun _=>rfl
 ·rfl
theorem zwi (s:za) (m:Int) {x:zc} (h:x.PC≠2):(zi s m x).1.Acks=s.Acks:=by
 have g: ∀g:zC,(zo s g).1.Acks=s.Acks:=fun g=>by
  obtain ⟨m,b,t,wk,f,e,_⟩:=zbv s g
  rw [e]
 refine yI (motive:=fun r=>r.1.Acks=s.Acks) s m x ?_ ?_ ?_ ?_ ?_ ?_ ?_ ?_ ?_ ?_ ?_ ?_ ?_ ?_ ?_ ?_ ?_ ?_ ?_ ?_
 ·exact fun _=>rfl
 ·exact fun _=>rfl
 ·exact fun c=>absurd c h
 ·exact fun _=>g x.G
 ·exact fun _=>rfl
 ·exact fun _=>rfl
 ·exact fun _=>rfl
 ·exact fun _=>rfl
 ·exact fun _=>rfl
 ·intro _
  unfold YQ
  split
  ·split<;>rfl
  ·rfl
 ·exact fun _=>rfl
 ·exact fun _=>rfl
 ·exact fun _=>rfl
 ·exact fun _=>rfl
 ·exact fun _=>rfl
 ·exact fun _=>rfl
 ·exact fun _=>g x.G
 ·exact fun _=>rfl
 ·exact fun _=>rfl
 ·rfl
def uU (s:za) (k:Int):za:=if k=0 then zG s else if k≤(s.Ws.length:Int) then zF s k else zu s (k-s.Ws.length)
theorem U1 {p:zb} {nb:Nat} {s:za} (E:EOk p nb s) (w:Int):zF s w={s with M:=(zF s w).M,Bins:=(zF s w).Bins,T:=(zF s w).T,Work:=(zF s w).Work,L:=(zF s w).L,Ws:=(zF s w).Ws}:=by
 unfold zF
 split
 ·rfl
 rename_i hc
 cases hx:s.Ws[(w-1).toNat]? with
 | none=>rfl
 | some x =>
  have hW:=E.W _ _ hx
  rw [show (((w-1).toNat:Nat):Int)+1=w by omega] at hW
  dsimp only
  rw [zd6 hW]
theorem zpv (s:za) (m:Int):zu s m={s with H:=(zu s m).H,M:=(zu s m).M,Bins:=(zu s m).Bins,T:=(zu s m).T,Work:=(zu s m).Work,Flag:=(zu s m).Flag,Acks:=(zu s m).Acks,L:=(zu s m).L,Ms:=(zu s m).Ms}:=by
 unfold zu
 split
 ·rfl
 cases hx:s.Ms[(m-1).toNat]? with
 | none=>rfl
 | some x =>
  dsimp only
  rw [zdn]
structure AI (k:Int) (s:za):Prop where
 ep:0≤s.Epoch∧s.Epoch≤k
 m: ∀(i:Nat) x,s.Ms[i]? =some x→s.Acks.getD i 0≤s.Epoch∧(x.PC=2∨((x.PC=1∨x.PC=3)∧x.Ret=2)→s.Acks.getD i 0≤x.Want∧x.Want≤s.Epoch)∧(x.PC=2→x.Buf=[])
def zye (s s':za):Prop:=∀(i:Nat) x',s'.Ms[i]? =some x'→s.Acks.getD i 0≤s'.Acks.getD i 0∧s'.Acks.getD i 0≤s'.Epoch∧(s.Acks.getD i 0<s'.Acks.getD i 0→x'.Buf=[])
theorem AI.same {k:Int} {s s':za} (A:AI k s) (e1:s'.Epoch=s.Epoch) (e2:s'.Ms=s.Ms) (e3:s'.Acks=s.Acks):AI (k+1) s'∧zye s s':=by
 refine ⟨⟨by rw [e1];have:=A.ep;omega,by rw [e1,e2,e3];exact A.m⟩,fun i x hx=> ?_⟩
 rw [e2] at hx
 rw [e3,e1]
 exact ⟨Int.le_refl _,(A.m i x hx).1,fun e=>by omega⟩
theorem zi7 {α:Type} {l:List α} {i j:Nat} {v d:α} (h:i<l.length):(l.set i v).getD j d=if i=j then v else l.getD j d:=by
 rw [List.getD_eq_getElem?_getD,List.getD_eq_getElem?_getD,List.getElem?_set]
 by_cases e:i=j
 ·rw [if_pos e,if_pos e,if_pos h];rfl
 ·rw [if_neg e,if_neg e]
theorem zyM {p:zb} {nb:Nat} {k:Int} {s:za} (hp:zA p) (E:EOk p nb s) (A:AI k s) {m:Int} (hm:1≤m∧m≤(s.Ms.length:Int)) {x:zc} (hx:s.Ms[(m-1).toNat]? =some x) :
  let y:=(zi s m x).2
  let s':=(zi s m x).1
  (s.Acks.getD (m-1).toNat 0≤s'.Acks.getD (m-1).toNat 0∧s'.Acks.getD (m-1).toNat 0≤s.Epoch∧(s.Acks.getD (m-1).toNat 0<s'.Acks.getD (m-1).toNat 0→y.Buf=[]))∧(∀j,j≠(m-1).toNat→s'.Acks.getD j 0=s.Acks.getD j 0) ∧
   (y.PC=2∨((y.PC=1∨y.PC=3)∧y.Ret=2)→s'.Acks.getD (m-1).toNat 0≤y.Want∧y.Want≤s.Epoch)∧(y.PC=2→y.Buf=[]):=by
 obtain ⟨a1,a2,a3⟩:=A.m _ _ hx
 have X:=E.X _ _ hx
 rw [show (((m-1).toNat:Nat):Int)+1=m by omega] at X
 have hal:=E.al
 have same: ∀ {s':za} {y:zc},s'.Acks=s.Acks→(y.PC=2∨((y.PC=1∨y.PC=3)∧y.Ret=2)→s.Acks.getD (m-1).toNat 0≤y.Want∧y.Want≤s.Epoch)→(y.PC=2→y.Buf=[]) →
   (s.Acks.getD (m-1).toNat 0≤s'.Acks.getD (m-1).toNat 0∧s'.Acks.getD (m-1).toNat 0≤s.Epoch∧(s.Acks.getD (m-1).toNat 0<s'.Acks.getD (m-1).toNat 0→y.Buf=[]))∧(∀j,j≠(m-1).toNat→s'.Acks.getD j 0=s.Acks.getD j 0) ∧
   (y.PC=2∨((y.PC=1∨y.PC=3)∧y.Ret=2)→s'.Acks.getD (m-1).toNat 0≤y.Want∧y.Want≤s.Epoch)∧(y.PC=2→y.Buf=[]):=fun e h1 h2=>by
  rw [e];exact ⟨⟨Int.le_refl _,a1,fun e=>by omega⟩,fun _ _=>rfl,h1,h2⟩
 have far: ∀ {s':za} {y:zc},s'.Acks=s.Acks→(y.PC=0∨10≤y.PC)→_:=fun {s' y} e h=>same (s':=s') (y:=y) e (fun e=>by omega) (fun e=>by omega)
 have gacks: ∀g:zC,(zo s g).1.Acks=s.Acks:=fun g=>by
  obtain ⟨m,b,t,wk,f,e,_⟩:=zbv s g
  rw [e]
 refine yI (motive:=fun r=>(s.Acks.getD (m-1).toNat 0≤r.1.Acks.getD (m-1).toNat 0∧r.1.Acks.getD (m-1).toNat 0≤s.Epoch∧(s.Acks.getD (m-1).toNat 0<r.1.Acks.getD (m-1).toNat 0→r.2.Buf=[]))∧(∀j,j≠(m-1).toNat→r.1.Acks.getD j 0=s.Acks.getD j 0) ∧
   (r.2.PC=2∨((r.2.PC=1∨r.2.PC=3)∧r.2.Ret=2)→r.1.Acks.getD (m-1).toNat 0≤r.2.Want∧r.2.Want≤s.Epoch)∧(r.2.PC=2→r.2.Buf=[])) s m x ?_ ?_ ?_ ?_ ?_ ?_ ?_ ?_ ?_ ?_ ?_ ?_ ?_ ?_ ?_ ?_ ?_ ?_ ?_ ?_
 ·intro c
  unfold mu0 ZW
  split
  ·rename_i hlt
   exact same rfl (fun _=>⟨Int.le_of_lt hlt,Int.le_refl _⟩) (fun e=>by cases e)
  split
  ·exact far rfl (.inl c)
  split
  ·exact far rfl (.inr (by show (10:Int)≤10;decide))
  split
  ·exact far rfl (.inr (by show (10:Int)≤20;decide))
  split
  ·exact far rfl (.inr (by show (10:Int)≤30;decide))
  split<;>exact far rfl (.inl rfl)
 ·intro c
  unfold mu1
  split
  ·rename_i hb
   have hb:x.Buf=[]:=List.eq_nil_of_length_eq_zero hb
   refine same rfl (fun e=> ?_) (fun _=>hb)
   have e:x.Ret=2∨((x.Ret=1∨x.Ret=3)∧x.Ret=2):=e
   exact a2 (.inr ⟨.inl c,by omega⟩)
  ·refine same rfl (fun e=>a2 (.inr ⟨.inl c,?_⟩)) (fun e=>by cases e)
   rcases e with e | e
   ·cases e
   ·exact e.2
 ·intro c
  have hlt:(m-1).toNat<s.Acks.length:=by omega
  obtain ⟨b1,b2⟩:=a2 (.inl c)
  unfold mu2
  have e0:(s.Acks.set (m-1).toNat x.Want).getD (m-1).toNat 0=x.Want:=by rw [zi7 hlt,if_pos rfl]
  refine ⟨⟨by dsimp only;rw [e0];exact b1,by dsimp only;rw [e0];exact b2,fun _=>a3 c⟩,fun j hj=> ?_,fun (e:(0:Int)=2∨(((0:Int)=1∨(0:Int)=3)∧x.Ret=2))=>by omega,fun (e:(0:Int)=2)=>by omega⟩
  dsimp only
  rw [zi7 hlt,if_neg (fun e=>hj e.symm)]
 ·intro c
  unfold mu3
  dsimp only
  split
  ·refine same (gacks _) (fun e=>a2 (.inr ⟨.inr c,?_⟩)) (fun e=>by cases e)
   rcases e with e | e
   ·cases e
   ·exact e.2
  ·refine same (gacks _) (fun e=>a2 ?_) (fun e=>by have e:x.PC=2:=e;omega)
   rcases e with e | e
   ·exact .inl e
   ·exact .inr e
 ·exact fun c=>far rfl (.inl rfl)
 ·intro c
  unfold Vo
  split
  ·exact far rfl (.inl rfl)
  ·exact far rfl (.inr (by show (10:Int)≤21;decide))
 ·intro c
  unfold WT
  split
  ·exact far rfl (.inr (by show (10:Int)≤23;decide))
  ·exact far rfl (.inr (by show (10:Int)≤22;decide))
 ·intro c
  unfold UD
  split
  ·refine same rfl (fun e=> ?_) (fun e=>by cases e)
   rcases e with e | ⟨_,e⟩<;>cases e
  ·exact far rfl (.inr (by show (10:Int)≤23;decide))
 ·exact fun c=>far rfl (.inl rfl)
 ·intro c
  unfold YQ
  split
  ·split
   ·exact far rfl (.inl rfl)
   ·exact far rfl (.inl rfl)
  ·exact far rfl (.inr (by show (10:Int)≤31;decide))
 ·intro c
  unfold Uc
  dsimp only
  split
  ·exact far rfl (.inr (by show (10:Int)≤32;decide))
  ·exact far rfl (.inl rfl)
 ·intro c
  unfold Uq
  dsimp only
  split
  ·exact far rfl (.inr (by show (10:Int)≤33;decide))
  split
  ·exact far rfl (.inl rfl)
  ·exact far rfl (.inr (by show 10≤x.PC;omega))
 ·exact fun c=>far rfl (.inr (by show (10:Int)≤34;decide))
 ·intro c
  unfold Up
  dsimp only
  split
  ·exact far rfl (.inr (by show (10:Int)≤35;decide))
  ·exact far rfl (.inr (by show 10≤x.PC;omega))
 ·intro c
  unfold Ui
  dsimp only
  split
  ·exact far rfl (.inl rfl)
  ·exact far rfl (.inr (by show (10:Int)≤36;decide))
 ·intro c
  unfold zaB
  dsimp only
  split
  ·exact far rfl (.inr (by show 10≤onM s (wc (x.Slot+1));rcases ZX s (wc (x.Slot+1)) with e | e<;>rw [e]<;>decide))
  ·exact far rfl (.inr (by show (10:Int)≤37;decide))
 ·intro c
  unfold XU
  dsimp only
  split
  ·exact far (gacks _) (.inr (by show 10≤onM s x.Slot;rcases ZX s x.Slot with e | e<;>rw [e]<;>decide))
  ·exact far (gacks _) (.inr (by show 10≤x.PC;omega))
 ·exact fun c=>far rfl (.inr (by show (10:Int)≤39;decide))
 ·exact fun c=>far rfl (.inr (by show (10:Int)≤35;decide))
 ·exact same rfl a2 a3
theorem zBm {p:zb} {nb:Nat} {k:Int} {s:za} (hp:zA p) (E:EOk p nb s) (hk:k<1000000) (A:AI k s) (j:Int):AI (k+1) (uU s j)∧zye s (uU s j):=by
 unfold uU
 split
 ·-- the detector
  have up: ∀s':za,s'.Epoch=s.Epoch+1→s'.Ms=s.Ms→s'.Acks=s.Acks→AI (k+1) s'∧zye s s':=fun s' e1 e2 e3=>by
   have:=A.ep
   refine ⟨⟨by omega,fun i x hx=> ?_⟩,fun i x hx=> ?_⟩
   ·rw [e2] at hx
    obtain ⟨b1,b2,b3⟩:=A.m i x hx
    rw [e3,e1]
    exact ⟨by omega,fun e=>by have:=b2 e;omega,b3⟩
   ·rw [e2] at hx
    have:=(A.m i x hx).1
    rw [e3,e1]
    exact ⟨Int.le_refl _,by omega,fun e=>by omega⟩
  have he:=A.ep
  unfold zG
  split
  ·exact A.same rfl rfl rfl
  split
  ·exact A.same rfl rfl rfl
  split
  ·split<;>exact A.same rfl rfl rfl
  split
  ·exact up _ (xg (by omega) (by omega)) rfl rfl
  split
  ·split<;>exact A.same rfl rfl rfl
  split
  ·split<;>exact A.same rfl rfl rfl
  split
  ·split<;>exact A.same rfl rfl rfl
  split<;>exact A.same rfl rfl rfl
 split
 ·rw [U1 E]
  exact A.same rfl rfl rfl
 ·generalize j-(s.Ws.length:Int)=m
  unfold zu
  split
  ·exact A.same rfl rfl rfl
  rename_i hc
  cases hx:s.Ms[(m-1).toNat]? with
  | none=>exact A.same rfl rfl rfl
  | some x =>
   have hm:1≤m∧m≤(s.Ms.length:Int):=by
    constructor
    ·exact Int.not_lt.1 (fun e=>hc (.inr (.inl e)))
    ·exact Int.not_lt.1 (fun e=>hc (.inr (.inr e)))
   obtain ⟨b1,b2,b3,b4⟩:=zyM hp E A hm hx
   have hE:(zi s m x).1.Epoch=s.Epoch:=by rw [zdn]
   have he:=A.ep
   have hl:=(List.getElem?_eq_some_iff.1 hx).1
   refine ⟨⟨by show 0≤(zi s m x).1.Epoch∧_;rw [hE];omega,fun i y hy=> ?_⟩,fun i y hy=> ?_⟩
   ·show (zi s m x).1.Acks.getD i 0≤(zi s m x).1.Epoch∧(_→(zi s m x).1.Acks.getD i 0≤y.Want∧y.Want≤(zi s m x).1.Epoch)∧_
    rw [hE]
    have hy:(s.Ms.set (m-1).toNat (zi s m x).2)[i]? =some y:=hy
    by_cases hi:i=(m-1).toNat
    ·subst hi
     rw [List.getElem?_set_self hl] at hy
     injection hy with hy
     subst hy
     exact ⟨b1.2.1,b3,b4⟩
    ·rw [List.getElem?_set_ne (fun e=>hi e.symm)] at hy
     rw [b2 i hi]
     exact A.m i y hy
   ·show s.Acks.getD i 0≤(zi s m x).1.Acks.getD i 0∧(zi s m x).1.Acks.getD i 0≤(zi s m x).1.Epoch∧_
    rw [hE]
    have hy:(s.Ms.set (m-1).toNat (zi s m x).2)[i]? =some y:=hy
    by_cases hi:i=(m-1).toNat
    ·subst hi
     rw [List.getElem?_set_self hl] at hy
     injection hy with hy
     subst hy
     exact b1
    ·rw [List.getElem?_set_ne (fun e=>hi e.symm)] at hy
     show _∧_∧(s.Acks.getD i 0<(zi s m x).1.Acks.getD i 0→_)
     rw [b2 i hi]
     exact ⟨Int.le_refl _,(A.m i y hy).1,fun e=>by omega⟩
theorem zCi (p:zb):AI 0 (yM p):=by
 refine ⟨⟨Int.le_refl _,Int.le_refl _⟩,fun i x hx=> ?_⟩
 have e:(yM p).Acks.getD i 0=0:=by
  show (List.replicate p.Mutators.toNat (0:Int)).getD i 0=0
  rw [List.getD_eq_getElem?_getD,List.getElem?_replicate];split<;>rfl
 have hx:(p.Regs.map xO)[i]? =some x:=hx
 rw [List.getElem?_map] at hx
 cases hr:p.Regs[i]? with
 | none=>rw [hr] at hx;cases hx
 | some r =>
  rw [hr] at hx
  injection hx with hx
  subst hx
  rw [e]
  refine ⟨Int.le_refl _,fun e=> ?_,fun e=> ?_⟩
  ·simp [xO] at e
  ·simp [xO] at e
end
end Go.Pe.G
namespace Go.Pe.G
open Go.Pe
noncomputable section
def ZV (p:zb) (w:Int) (i:Nat):Int:=zW p w+2+((i%p.Cap.toNat:Nat):Int)
structure DQ (p:zb) (m:List (BitVec 64)) (w:Int) (t:Nat) (l:List Int) (c:Nat):Prop where
 top:ld m (zW p w)=BitVec.ofNat 64 t
 bot:ld m (zW p w+1)=BitVec.ofNat 64 (t+l.length-c)
 c1:c≤1
 t1:1≤t
 cap:l.length≤p.Cap.toNat
 small:t+l.length<4294967296
 cell: ∀(i:Nat) (hi:i<l.length),(ld m (ZV p w (t+i))).toInt=l[i]
theorem DQ.keep {p:zb} (h:zA p) {m m':List (BitVec 64)} {w:Int} {t c:Nat} {l:List Int} (D:DQ p m w t l c) (hm: ∀a,zW p w≤a→a<zW p w+p.Cap+2→ld m' a=ld m a):DQ p m' w t l c:=by
 have hc:=h.cap
 refine ⟨by rw [hm _ (by omega) (by omega)];exact D.top,by rw [hm _ (by omega) (by omega)];exact D.bot,D.c1,D.t1,D.cap,D.small,fun i hi=> ?_⟩
 have:=Nat.mod_lt (t+i) (show 0<p.Cap.toNat by omega)
 rw [hm _ (by unfold ZV;omega) (by unfold ZV;omega)]
 exact D.cell i hi
theorem ZU {n:Nat} (h:n<18446744073709551616):(BitVec.ofNat 64 n).toNat=n:=by rw [BitVec.toNat_ofNat];omega
theorem zkT {a b:Nat} (h:b≤a) (h2:a<18446744073709551616):BitVec.ofNat 64 a-BitVec.ofNat 64 b=BitVec.ofNat 64 (a-b):=by
 apply BitVec.eq_of_toNat_eq
 rw [BitVec.toNat_sub,ZU h2,ZU (by omega),ZU (by omega)]
 omega
theorem zoR {a b:Nat} (h2:a+b<18446744073709551616):BitVec.ofNat 64 a+BitVec.ofNat 64 b=BitVec.ofNat 64 (a+b):=by
 apply BitVec.eq_of_toNat_eq
 rw [BitVec.toNat_add,ZU (by omega),ZU (by omega),ZU (by omega)]
 omega
theorem zzf {a b:Nat} (h:a<18446744073709551616) (h2:b<18446744073709551616) (e:BitVec.ofNat 64 a=BitVec.ofNat 64 b):a=b:=by
 have:=congrArg BitVec.toNat e
 rwa [ZU h,ZU h2] at this
theorem zou {a b:Nat} (h:a<4294967296) (h2:b<4294967296):0<(BitVec.ofNat 64 a-BitVec.ofNat 64 b).toInt↔b<a:=by
 rw [BitVec.toInt_eq_toNat_cond,BitVec.toNat_sub,ZU (by omega),ZU (by omega)]
 omega
theorem zBE {t i n c:Nat} (hi:i<n) (hn:n<t+c) (ht:t≤i) (e:i%c=n%c):False:=by
 have h1:=Nat.div_add_mod i c
 have h2:=Nat.div_add_mod n c
 have hc:0<c:=by omega
 rw [e] at h1
 have h3:c*(n/c)=c*(i/c)+(n-i):=by omega
 rcases Nat.lt_or_ge (i/c) (n/c) with h | h
 ·have:c*(i/c)+c≤c*(n/c):=by
   have:=Nat.mul_le_mul_left c h
   rw [Nat.succ_eq_add_one,Nat.mul_add,Nat.mul_one] at this
   exact this
  omega
 ·have:=Nat.mul_le_mul_left c h
  omega
theorem zkG {p:zb} (h:zA p) {d:zh} {w:Int} (hw:1≤w∧w≤p.Workers) (hb:d.Base=zW p w) (hc:d.Cap=p.Cap) {i:Nat} (hi:i<4294967296):VY d (BitVec.ofNat 64 i)=ZV p w i:=by
 rw [(zqi h hw.1 hw.2 hb hc _).1,ZU (by omega),hb];rfl
structure DK (p:zb) (m:List (BitVec 64)) (w:Int) (t:Nat) (l:List Int) (c:Nat) (d:zh):Prop where
 kind:d.Kind=1
 base:d.Base=zW p w
 size:d.Cap=p.Cap
 out:d.Out=0
 c0:c=0
 pc:0≤d.PC∧d.PC≤3
 b:1≤d.PC→d.B=BitVec.ofNat 64 (t+l.length)
 r:2≤d.PC→l.length<p.Cap.toNat
 x:3≤d.PC→(ld m (ZV p w (t+l.length))).toInt=d.X
structure PK (p:zb) (m:List (BitVec 64)) (w:Int) (t:Nat) (l:List Int) (c:Nat) (d:zh):Prop where
 kind:d.Kind=2
 base:d.Base=zW p w
 size:d.Cap=p.Cap
 out:d.Out=0
 pc:0≤d.PC∧d.PC≤6
 c0:d.PC≤1→c=0
 c1:d.PC=2∨4≤d.PC→c=1
 b:d.PC=1∨d.PC=2∨4≤d.PC∨(d.PC=3∧d.T=d.B-1#64)→d.B=BitVec.ofNat 64 (t+l.length)
 c3:d.PC=3→d.T=d.B-1#64→c=1
 n3:d.PC=3→d.T≠d.B-1#64→c=0∧d.B=BitVec.ofNat 64 (t+l.length+1)∧t+l.length+1<4294967296∧l.length+1≤p.Cap.toNat
 t3:d.PC=3∨d.PC=4→d.T.toNat≤t
 t4:d.PC=4→d.T=d.B-1#64
 x4:d.PC=4→d.T.toNat=t→l=[d.X]
 e5:5≤d.PC→l=[]
def Wf (m:List (BitVec 64)) (d:zh):List Int :=
 if d.PC=3∧d.T≠d.B-1#64 then [(ld m (VY d (d.B-1#64))).toInt] else if d.PC=6 then [d.X] else []
structure TK (p:zb) (m:List (BitVec 64)) (w:Int) (t:Nat) (l:List Int) (d:zh):Prop where
 kind:d.Kind=3
 base:d.Base=zW p w
 size:d.Cap=p.Cap
 out:d.Out=0
 pc:0≤d.PC∧d.PC≤3
 le:1≤d.PC→d.T.toNat≤t
 ne:2≤d.PC→d.T.toNat=t→l≠[]
 hd:d.PC=3→d.T.toNat=t→l.head? =some d.X
structure Dv (t:Nat) (l:List Int) (t':Nat) (l':List Int):Prop where
 le:t≤t'
 hd:t'=t→l≠[]→l'≠[]∧l'.head? =l.head?
theorem Dv.refl (t:Nat) (l:List Int):Dv t l t l:=⟨Nat.le_refl _,fun _ h=>⟨h,rfl⟩⟩
theorem TK.dv {p:zb} {m m':List (BitVec 64)} {w:Int} {t t':Nat} {l l':List Int} {d:zh} (K:TK p m w t l d) (V:Dv t l t' l'):TK p m' w t' l' d:=by
 have h1:=V.le
 refine ⟨K.kind,K.base,K.size,K.out,K.pc,fun h=>Nat.le_trans (K.le h) h1,fun h e=> ?_,fun h e=> ?_⟩
 ·have:=K.le (by omega)
  have et:t'=t:=by omega
  exact (V.hd et (K.ne h (by omega))).1
 ·have:=K.le (by omega)
  have et:t'=t:=by omega
  rw [(V.hd et (K.ne (by omega) (by omega))).2]
  exact K.hd h (by omega)
theorem zxF {p:zb} (h:zA p) {m:List (BitVec 64)} {w:Int} {t c:Nat} {l:List Int} {d:zh} (hw:1≤w∧w≤p.Workers) (hlen:yh p≤m.length) (D:DQ p m w t l c) (K:TK p m w t l d) :
  ((zU m d).1=m∧(((zU m d).2.Out=0∧TK p m w t l (zU m d).2)∨(zU m d).2.Out=2∨(zU m d).2.Out=4)) ∨
  (∃x l',l=x::l'∧(zU m d).2.Out=1∧(zU m d).2.X=x∧DQ p (zU m d).1 w (t+1) l' c∧(∀a,a≠zW p w→ld (zU m d).1 a=ld m a)):=by
 have hc:=h.cap
 have hd:=Xb h hw.1 hw.2
 have hf:=Yp h
 have hpc:=K.pc
 have hsm:=D.small
 have ht1:=D.t1
 have hc1:=D.c1
 have eb:wc (d.Base+1)=zW p w+1:=by rw [K.base,xg (by omega) (by omega)]
 have k:=K.kind
 unfold zU
 rw [if_neg (by have:=K.out;omega),if_neg (by omega),if_neg (by omega),if_pos k]
 unfold zbq
 rw [if_neg (by omega),eb]
 by_cases c0:d.PC=0
 ·rw [if_pos c0]
  exact .inl ⟨rfl,.inl ⟨K.out,⟨k,K.base,K.size,K.out,⟨by dsimp only;omega,by dsimp only;omega⟩,fun _=>by dsimp only;rw [K.base,D.top,ZU (by omega)];exact Nat.le_refl _,fun e=>by dsimp only at e;omega,fun e=>by dsimp only at e;omega⟩⟩⟩
 rw [if_neg c0]
 have hT:=K.le (by omega)
 by_cases c1:d.PC=1
 ·rw [if_pos c1]
  left
  refine ⟨rfl,?_⟩
  by_cases hs:0<(ld m (zW p w+1)-d.T).toInt
  ·left
   dsimp only
   rw [if_pos hs]
   refine ⟨K.out,⟨k,K.base,K.size,K.out,⟨by dsimp only;omega,by dsimp only;omega⟩,fun _=>hT,fun _ e=> ?_,fun e=>by dsimp only at e;omega⟩⟩
   have e:d.T.toNat=t:=e
   have eT:d.T=BitVec.ofNat 64 t:=by apply BitVec.eq_of_toNat_eq;rw [ZU (by omega)];exact e
   rw [D.bot,eT] at hs
   have:=(zou (by omega) (by omega)).1 hs
   intro el
   rw [el] at this
   simp at this
   omega
  ·right;left
   dsimp only
   rw [if_neg hs]
 rw [if_neg c1]
 by_cases c2:d.PC=2
 ·rw [if_pos c2]
  left
  refine ⟨rfl,.inl ⟨K.out,⟨k,K.base,K.size,K.out,⟨by dsimp only;omega,by dsimp only;omega⟩,fun _=>hT,fun _ e=>K.ne (by omega) e,fun _ e=> ?_⟩⟩⟩
  have e:d.T.toNat=t:=e
  have eT:d.T=BitVec.ofNat 64 t:=by apply BitVec.eq_of_toNat_eq;rw [ZU (by omega)];exact e
  have hn:=K.ne (by omega) e
  cases l with
  | nil=>exact absurd rfl hn
  | cons x l =>
   have:=D.cell 0 (by simp)
   dsimp only
   rw [eT,zkG h hw K.base K.size (by omega)]
   rw [Nat.add_zero] at this
   rw [this];rfl
 rw [if_neg c2]
 have c3:d.PC=3:=by omega
 by_cases hs:ld m d.Base=d.T
 ·right
  have eT:d.T.toNat=t:=by rw [←hs,K.base,D.top,ZU (by omega)]
  have eT':d.T=BitVec.ofNat 64 t:=by rw [←hs,K.base,D.top]
  have hx:=K.hd c3 eT
  have hn:=K.ne (by omega) eT
  have hsw:sw m d.Base d.T (d.T+1#64)=(st m d.Base (d.T+1#64),true):=by unfold sw;rw [if_pos ⟨by rw [K.base];omega,by rw [K.base];omega,hs⟩]
  rw [hsw]
  cases l with
  | nil=>exact absurd rfl hn
  | cons x l =>
   have hx:x=d.X:=by simpa using hx
   have hmod: ∀i,zW p w+2≤ZV p w i:=fun i=>by unfold ZV;omega
   have hlc:=D.cap
   rw [List.length_cons] at hlc hsm
   refine ⟨x,l,rfl,rfl,hx.symm,⟨?_,?_,hc1,by omega,by omega,by omega,fun i hi=> ?_⟩,fun a ha=> ?_⟩
   ·dsimp only
    rw [K.base,WA,if_pos ⟨rfl,by omega,by omega⟩,eT']
    exact zoR (by omega)
   ·dsimp only
    rw [K.base,yy (by omega),D.bot,List.length_cons]
    congr 1
    omega
   ·dsimp only
    have:=hmod (t+1+i)
    rw [K.base,yy (by omega)]
    have:=D.cell (i+1) (by simp;omega)
    rw [show t+(i+1)=t+1+i by omega] at this
    simpa using this
   ·dsimp only
    rw [K.base,yy (fun e=>ha e.symm)]
 ·left
  have hsw:sw m d.Base d.T (d.T+1#64)=(m,false):=by unfold sw;rw [if_neg (fun e=>hs e.2.2)]
  rw [hsw]
  exact ⟨rfl,.inr (.inr rfl)⟩
theorem vW {m:List (BitVec 64)} {d:zh} (h:d.PC≠3∨d.T=d.B-1#64) (h2:d.PC≠6):Wf m d=[]:=by
 unfold Wf
 rw [if_neg (fun e=>h.elim (fun f=>f e.1) (fun f=>e.2 f)),if_neg h2]
theorem zws {p:zb} (h:zA p) {m:List (BitVec 64)} {w:Int} {t c:Nat} {l:List Int} {d:zh} (hw:1≤w∧w≤p.Workers) (hlen:yh p≤m.length) (D:DQ p m w t l c) (K:PK p m w t l c d) :
  ∃t' l' c',DQ p (zU m d).1 w t' l' c'∧(∀a,a≠zW p w→a≠zW p w+1→ld (zU m d).1 a=ld m a)∧Dv t l t' l'∧t'+l'.length≤t+l.length ∧
   (((zU m d).2.Out=0∧PK p (zU m d).1 w t' l' c' (zU m d).2∧List.Perm (l'++Wf (zU m d).1 (zU m d).2) (l++Wf m d)) ∨
    ((zU m d).2.Out=1∧c'=0∧List.Perm (l'++[(zU m d).2.X]) (l++Wf m d)) ∨
    ((zU m d).2.Out=2∧c'=0∧l'=[]∧l=[]∧Wf m d=[])):=by
 have hc:=h.cap
 have hd:=Xb h hw.1 hw.2
 have hf:=Yp h
 have hpc:=K.pc
 have hsm:=D.small
 have ht1:=D.t1
 have hc1:=D.c1
 have eb:wc (d.Base+1)=zW p w+1:=by rw [K.base,xg (by omega) (by omega)]
 have k:=K.kind
 have one:(1#64:BitVec 64)=BitVec.ofNat 64 1:=rfl
 have hmod: ∀i,zW p w+2≤ZV p w i∧ZV p w i<zW p w+p.Cap+2:=fun i=>by
  have:=Nat.mod_lt i (show 0<p.Cap.toNat by omega)
  unfold ZV;omega
 have stb: ∀(c':Nat) (v:BitVec 64),c'≤1→v=BitVec.ofNat 64 (t+l.length-c')→DQ p (st m (zW p w+1) v) w t l c'∧(∀a,a≠zW p w→a≠zW p w+1→ld (st m (zW p w+1) v) a=ld m a):=by
  intro c' v h1 h2
  refine ⟨⟨by rw [yy (by omega)];exact D.top,by rw [WA,if_pos ⟨rfl,by omega,by omega⟩];exact h2,h1,ht1,D.cap,hsm,fun i hi=>by rw [yy (by have:=hmod (t+i);omega)];exact D.cell i hi⟩,fun a _ h2=>yy (fun e=>h2 e.symm)⟩
 unfold zU
 rw [if_neg (by have:=K.out;omega),if_neg (by omega),if_pos k]
 unfold zh9
 rw [if_neg (by omega),eb]
 by_cases p0:d.PC=0
 ·rw [if_pos p0]
  have hc0:=K.c0 (by omega)
  refine ⟨t,l,c,D,fun _ _ _=>rfl,Dv.refl _ _,Nat.le_refl _,.inl ⟨K.out,⟨k,K.base,K.size,K.out,⟨by dsimp only;omega,by dsimp only;omega⟩,fun _=>hc0,fun e=>by dsimp only at e;omega,fun _=> ?_,fun e=>by dsimp only at e;omega,fun e=>by dsimp only at e;omega,fun e=>by dsimp only at e;omega,fun e=>by dsimp only at e;omega,fun e=>by dsimp only at e;omega,fun e=>by dsimp only at e;omega⟩,?_⟩⟩
  ·dsimp only;rw [D.bot,hc0];rfl
  ·rw [vW (.inl (by dsimp only;omega)) (by dsimp only;omega),vW (.inl (by omega)) (by omega)]
 rw [if_neg p0]
 by_cases p1:d.PC=1
 ·rw [if_pos p1]
  have hB:=K.b (.inl p1)
  have eB:d.B-1#64=BitVec.ofNat 64 (t+l.length-1):=by rw [hB,one,zkT (by omega) (by omega)]
  obtain ⟨D',hm⟩:=stb 1 (d.B-1#64) (by omega) eB
  refine ⟨t,l,1,D',hm,Dv.refl _ _,Nat.le_refl _,.inl ⟨K.out,⟨k,K.base,K.size,K.out,⟨by dsimp only;omega,by dsimp only;omega⟩,fun e=>by dsimp only at e;omega,fun _=>rfl,fun _=>hB,fun e=>by dsimp only at e;omega,fun e=>by dsimp only at e;omega,fun e=>by dsimp only at e;omega,fun e=>by dsimp only at e;omega,fun e=>by dsimp only at e;omega,fun e=>by dsimp only at e;omega⟩,?_⟩⟩
  rw [vW (.inl (by dsimp only;omega)) (by dsimp only;omega),vW (.inl (by omega)) (by omega)]
 rw [if_neg p1]
 by_cases p2:d.PC=2
 ·rw [if_pos p2]
  have hB:=K.b (.inr (.inl p2))
  have hc':=K.c1 (.inl p2)
  have eB:d.B-1#64=BitVec.ofNat 64 (t+l.length-1):=by rw [hB,one,zkT (by omega) (by omega)]
  have eT:ld m d.Base=BitVec.ofNat 64 t:=by rw [K.base];exact D.top
  rw [vW (d:=d) (.inl (by omega)) (by omega),List.append_nil]
  by_cases hs:0<(ld m d.Base-(d.B-1#64)).toInt
  ·have hs':=hs
   rw [eT,eB] at hs'
   have:=(zou (by omega) (by omega)).1 hs'
   have el:l=[]:=by cases l with | nil=>rfl | cons a l=>rw [List.length_cons] at this;omega
   rw [if_pos hs]
   refine ⟨t,l,c,D,fun _ _ _=>rfl,Dv.refl _ _,Nat.le_refl _,.inl ⟨K.out,⟨k,K.base,K.size,K.out,⟨by dsimp only;omega,by dsimp only;omega⟩,fun e=>by dsimp only at e;omega,fun _=>hc',fun _=>hB,fun e=>by dsimp only at e;omega,fun e=>by dsimp only at e;omega,fun e=>by dsimp only at e;omega,fun e=>by dsimp only at e;omega,fun e=>by dsimp only at e;omega,fun _=>el⟩,?_⟩⟩
   rw [vW (.inl (by dsimp only;omega)) (by dsimp only;omega),List.append_nil]
  ·have hs':=hs
   rw [eT,eB] at hs'
   have hle: ¬(t+l.length-1<t):=fun e=>hs' ((zou (by omega) (by omega)).2 e)
   rw [if_neg hs]
   by_cases h1:l.length=1
   ·have e3:ld m d.Base=d.B-1#64:=by rw [eT,eB];congr 1;omega
    refine ⟨t,l,c,D,fun _ _ _=>rfl,Dv.refl _ _,Nat.le_refl _,.inl ⟨K.out,⟨k,K.base,K.size,K.out,⟨by dsimp only;omega,by dsimp only;omega⟩,fun e=>by dsimp only at e;omega,fun e=>by dsimp only at e;omega,fun _=>hB,fun _ _=>hc',fun _ e=>absurd e3 e,fun _=>by dsimp only;rw [eT,ZU (by omega)];exact Nat.le_refl _,fun e=>by dsimp only at e;omega,fun e=>by dsimp only at e;omega,fun e=>by dsimp only at e;omega⟩,?_⟩⟩
    rw [vW (.inr e3) (by dsimp only;omega),List.append_nil]
   ·-- the last one is the owner's
    have h2:2≤l.length:=by omega
    have e3:ld m d.Base≠d.B-1#64:=by
     rw [eT,eB]
     intro e
     have:=zzf (by omega) (by omega) e
     omega
    have hne:l≠[]:=fun e=>by rw [e] at h2;simp at h2
    have hdl:l.dropLast.length=l.length-1:=List.length_dropLast
    refine ⟨t,l.dropLast,0,⟨D.top,?_,by omega,ht1,by have:=D.cap;omega,by omega,fun i hi=> ?_⟩,fun _ _ _=>rfl,⟨Nat.le_refl _,fun _ _=>⟨fun e=> ?_,?_⟩⟩,by omega,.inl ⟨K.out,⟨k,K.base,K.size,K.out,⟨by dsimp only;omega,by dsimp only;omega⟩,fun e=>by dsimp only at e;omega,fun e=>by dsimp only at e;omega,fun e=> ?_,fun _ e=>absurd e e3,fun _ _=>⟨rfl,?_,by omega,by have:=D.cap;omega⟩,fun _=>by dsimp only;rw [eT,ZU (by omega)];exact Nat.le_refl _,fun e=>by dsimp only at e;omega,fun e=>by dsimp only at e;omega,fun e=>by dsimp only at e;omega⟩,?_⟩⟩
    ·rw [D.bot,hc',hdl];congr 1;omega
    ·rw [D.cell i (by omega)]
     exact (List.getElem_dropLast ..).symm
    ·have:=congrArg List.length e;rw [hdl] at this;simp at this;omega
    ·cases l with
     | nil=>exact absurd rfl hne
     | cons a l=>cases l with
      | nil=>simp at h2
      | cons b l=>rfl
    ·rcases e with e | e | e | ⟨_,e⟩
     ·dsimp only at e;omega
     ·dsimp only at e;omega
     ·dsimp only at e;omega
     ·exact absurd e e3
    ·dsimp only;rw [hB,hdl];congr 1;omega
    ·unfold Wf
     rw [if_pos ⟨rfl,e3⟩]
     dsimp only
     have ep:VY {d with T:=ld m d.Base,PC:=3} (d.B-1#64)=ZV p w (t+(l.length-1)):=by
      rw [eB]
      have:=zkG h (d:={d with T:=ld m d.Base,PC:=3}) hw K.base K.size (i:=t+l.length-1) (by omega)
      rw [this];congr 1;omega
     rw [ep,D.cell (l.length-1) (by omega)]
     have:=List.dropLast_concat_getLast hne
     rw [List.getLast_eq_getElem] at this
     rw [this]
 rw [if_neg p2]
 by_cases p3:d.PC=3
 ·rw [if_pos p3]
  by_cases e3:d.T=d.B-1#64
  ·rw [if_pos e3]
   have hB:=K.b (.inr (.inr (.inr ⟨p3,e3⟩)))
   have hc':=K.c3 p3 e3
   have eB:d.B-1#64=BitVec.ofNat 64 (t+l.length-1):=by rw [hB,one,zkT (by omega) (by omega)]
   refine ⟨t,l,c,D,fun _ _ _=>rfl,Dv.refl _ _,Nat.le_refl _,.inl ⟨K.out,⟨k,K.base,K.size,K.out,⟨by dsimp only;omega,by dsimp only;omega⟩,fun e=>by dsimp only at e;omega,fun _=>hc',fun _=>hB,fun e=>by dsimp only at e;omega,fun e=>by dsimp only at e;omega,fun _=>K.t3 (.inl p3),fun _=>e3,fun _ e=> ?_,fun e=>by dsimp only at e;omega⟩,?_⟩⟩
   ·have e:d.T.toNat=t:=e
    rw [e3,eB,ZU (by omega)] at e
    have h1:l.length=1:=by omega
    have:=D.cell 0 (by omega)
    dsimp only
    rw [eB,zkG h hw K.base K.size (by omega),show t+l.length-1=t+0 by omega,this]
    match l,h1 with
    | [a],_=>rfl
   ·rw [vW (.inl (by dsimp only;omega)) (by dsimp only;omega),vW (.inr e3) (by omega)]
  ·rw [if_neg e3]
   obtain ⟨a1,a2,a3,a4⟩:=K.n3 p3 e3
   refine ⟨t,l,c,D,fun _ _ _=>rfl,Dv.refl _ _,Nat.le_refl _,.inr (.inl ⟨rfl,a1,?_⟩)⟩
   unfold Wf
   rw [if_pos ⟨p3,e3⟩]
 rw [if_neg p3]
 by_cases p4:d.PC=4
 ·rw [if_pos p4]
  have hB:=K.b (.inr (.inr (.inl (by omega))))
  have hc':=K.c1 (.inr (by omega))
  have e3:=K.t4 p4
  have ht:=K.t3 (.inr p4)
  have eB:d.B-1#64=BitVec.ofNat 64 (t+l.length-1):=by rw [hB,one,zkT (by omega) (by omega)]
  have eT:d.T.toNat=t+l.length-1:=by rw [e3,eB,ZU (by omega)]
  rw [vW (d:=d) (.inl (by omega)) (by omega),List.append_nil]
  by_cases hs:ld m d.Base=d.T
  ·have hsw:sw m d.Base d.T (d.T+1#64)=(st m d.Base (d.T+1#64),true):=by unfold sw;rw [if_pos ⟨by rw [K.base];omega,by rw [K.base];omega,hs⟩]
   have et:d.T.toNat=t:=by rw [←hs,K.base,D.top,ZU (by omega)]
   have el:=K.x4 p4 et
   rw [hsw]
   have eT':d.T=BitVec.ofNat 64 t:=by rw [←hs,K.base,D.top]
   have hl1:l.length=1:=by rw [el];rfl
   refine ⟨t+1,[],1,⟨?_,?_,by omega,by omega,by simp,by simp;omega,fun i hi=>by simp at hi⟩,fun a h1 _=> ?_,⟨by omega,fun e=>by omega⟩,by simp;omega,.inl ⟨K.out,⟨k,K.base,K.size,K.out,⟨by dsimp only;simp,by dsimp only;simp⟩,fun e=>by simp at e,fun _=>rfl,fun _=> ?_,fun e=>by simp at e,fun e=>by simp at e,fun e=>by simp at e,fun e=>by simp at e,fun e=>by simp at e,fun _=>rfl⟩,?_⟩⟩
   ·dsimp only
    rw [K.base,WA,if_pos ⟨rfl,by omega,by omega⟩,eT']
    exact zoR (by omega)
   ·dsimp only
    rw [K.base,yy (by omega),D.bot,hc',hl1];rfl
   ·dsimp only
    rw [K.base,yy (fun e=>h1 e.symm)]
   ·dsimp only;rw [hB,hl1];rfl
   ·unfold Wf
    rw [if_neg (fun e=>by simp at e),if_pos (by simp)]
    rw [el];exact List.Perm.refl _
  ·have hsw:sw m d.Base d.T (d.T+1#64)=(m,false):=by unfold sw;rw [if_neg (fun e=>hs e.2.2)]
   rw [hsw]
   have hne:d.T.toNat≠t:=fun e=>hs (by rw [K.base,D.top];apply BitVec.eq_of_toNat_eq;rw [ZU (by omega)];exact e.symm)
   have el:l=[]:=by cases l with | nil=>rfl | cons a l=>rw [List.length_cons] at eT;omega
   refine ⟨t,l,c,D,fun _ _ _=>rfl,Dv.refl _ _,Nat.le_refl _,.inl ⟨K.out,⟨k,K.base,K.size,K.out,⟨by dsimp only;simp,by dsimp only;simp⟩,fun e=>by simp at e,fun _=>hc',fun _=>hB,fun e=>by simp at e,fun e=>by simp at e,fun e=>by simp at e,fun e=>by simp at e,fun e=>by simp at e,fun _=>el⟩,?_⟩⟩
   rw [vW (.inl (by simp)) (by simp),List.append_nil]
 rw [if_neg p4]
 have hB:=K.b (.inr (.inr (.inl (by omega))))
 have el:=K.e5 (by omega)
 obtain ⟨D',hm⟩:=stb 0 d.B (by omega) (by rw [hB];rfl)
 by_cases p5:d.PC=5
 ·rw [if_pos p5]
  exact ⟨t,l,0,D',hm,Dv.refl _ _,Nat.le_refl _,.inr (.inr ⟨rfl,rfl,el,el,vW (.inl (by omega)) (by omega)⟩)⟩
 ·rw [if_neg p5]
  refine ⟨t,l,0,D',hm,Dv.refl _ _,Nat.le_refl _,.inr (.inl ⟨rfl,rfl,?_⟩)⟩
  unfold Wf
  rw [if_neg (fun e=>p3 e.1),if_pos (show d.PC=6 by omega)]
theorem PK.stolen {p:zb} {m m':List (BitVec 64)} (h:zA p) {w:Int} (hw:1≤w∧w≤p.Workers) {t c:Nat} {x:Int} {l:List Int} {d:zh} (K:PK p m w t (x::l) c d):PK p m' w (t+1) l c d:=by
 have e:t+(x::l).length=t+1+l.length:=by rw [List.length_cons];omega
 refine ⟨K.kind,K.base,K.size,K.out,K.pc,K.c0,K.c1,fun q=>by rw [←e];exact K.b q,K.c3,fun a b=> ?_,fun a=>Nat.le_succ_of_le (K.t3 a),K.t4,fun a b=> ?_,fun a=> ?_⟩
 ·have:=K.n3 a b
  rw [e] at this
  rw [List.length_cons] at this
  exact ⟨this.1,this.2.1,this.2.2.1,by omega⟩
 ·have:=K.t3 (.inr a);omega
 ·have:=K.e5 a;cases this
theorem DK.stolen {p:zb} {m m':List (BitVec 64)} {w:Int} {t c:Nat} {x:Int} {l:List Int} {d:zh} (K:DK p m w t (x::l) c d) (hm: ∀a,a≠zW p w→ld m' a=ld m a) (h:zA p):DK p m' w (t+1) l c d:=by
 have e:t+(x::l).length=t+1+l.length:=by rw [List.length_cons];omega
 refine ⟨K.kind,K.base,K.size,K.out,K.c0,K.pc,fun q=>by rw [←e];exact K.b q,fun q=>by have:=K.r q;rw [List.length_cons] at this;omega,fun q=> ?_⟩
 rw [←e,hm _ (by unfold ZV;omega)]
 exact K.x q
theorem PK.keep {p:zb} {m m':List (BitVec 64)} {w:Int} {t c:Nat} {l:List Int} {d:zh} (K:PK p m w t l c d):PK p m' w t l c d :=
 ⟨K.kind,K.base,K.size,K.out,K.pc,K.c0,K.c1,K.b,K.c3,K.n3,K.t3,K.t4,K.x4,K.e5⟩
theorem DK.keep {p:zb} (h:zA p) {m m':List (BitVec 64)} {w:Int} {t c:Nat} {l:List Int} {d:zh} (K:DK p m w t l c d) (hm: ∀a,zW p w+1<a→a<zW p w+p.Cap+2→ld m' a=ld m a):DK p m' w t l c d:=by
 have hc:=h.cap
 have:=Nat.mod_lt (t+l.length) (show 0<p.Cap.toNat by omega)
 exact ⟨K.kind,K.base,K.size,K.out,K.c0,K.pc,K.b,K.r,fun q=>by rw [hm _ (by unfold ZV;omega) (by unfold ZV;omega)];exact K.x q⟩
theorem zuz {p:zb} (h:zA p) {m:List (BitVec 64)} {w:Int} {t c:Nat} {l:List Int} {d:zh} (hw:1≤w∧w≤p.Workers) (hlen:yh p≤m.length) (D:DQ p m w t l c) (K:DK p m w t l c d) (hs:t+l.length+1<4294967296) (hX: -9223372036854775808≤d.X∧d.X<9223372036854775808) :
  (∀a,(a<zW p w∨zW p w+p.Cap+2≤a)→ld (yW m d).1 a=ld m a)∧(yW m d).2.X=d.X ∧
  (((yW m d).2.Out=0∧DQ p (yW m d).1 w t l 0∧DK p (yW m d).1 w t l 0 (yW m d).2) ∨
   ((yW m d).2.Out=3∧DQ p (yW m d).1 w t l 0) ∨
   ((yW m d).2.Out=1∧DQ p (yW m d).1 w t (l++[d.X]) 0)):=by
 have hc:=h.cap
 have hd:=Xb h hw.1 hw.2
 have hf:=Yp h
 have hmod: ∀i,zW p w+2≤ZV p w i∧ZV p w i<zW p w+p.Cap+2:=fun i=>by
  have:=Nat.mod_lt i (show 0<p.Cap.toNat by omega)
  unfold ZV;omega
 have hpc:=K.pc
 have c00:=K.c0
 subst c00
 have ht1:=D.t1
 have hsm:=D.small
 have eb:wc (d.Base+1)=zW p w+1:=by rw [K.base,xg (by omega) (by omega)]
 unfold yW
 rw [if_neg (by have:=K.out;omega),eb]
 by_cases c0:d.PC=0
 ·rw [if_pos c0]
  exact ⟨fun _ _=>rfl,rfl,.inl ⟨K.out,D,⟨K.kind,K.base,K.size,K.out,rfl,⟨by dsimp only;omega,by dsimp only;omega⟩,fun _=>D.bot,fun e=>by dsimp only at e;omega,fun e=>by dsimp only at e;omega⟩⟩⟩
 rw [if_neg c0]
 by_cases c1:d.PC=1
 ·rw [if_pos c1]
  refine ⟨fun _ _=>rfl,by dsimp only;split<;>rfl,?_⟩
  have hB:=K.b (by omega)
  have es:(VW d).toNat=p.Cap.toNat:=by
   unfold VW
   rw [K.size,if_neg (by omega),BitVec.toNat_ofInt]
   omega
  have ed:(d.B-ld m d.Base).toNat=l.length:=by
   rw [hB,K.base,D.top,BitVec.toNat_sub,ZU (by omega),ZU (by omega)]
   omega
  split
  ·right;left
   exact ⟨rfl,D⟩
  ·rename_i hlt
   left
   have hr:l.length<p.Cap.toNat:=by
    have: ¬(VW d).toNat≤(d.B-ld m d.Base).toNat:=fun e=>hlt (BitVec.le_def.2 e)
    omega
   exact ⟨K.out,D,⟨K.kind,K.base,K.size,K.out,rfl,⟨by dsimp only;omega,by dsimp only;omega⟩,fun _=>hB,fun _=>hr,fun e=>by dsimp only at e;omega⟩⟩
 rw [if_neg c1]
 have hB:=K.b (by omega)
 have hr:=K.r (by omega)
 by_cases c2:d.PC=2
 ·rw [if_pos c2]
  have ep:VY d d.B=ZV p w (t+l.length):=by rw [hB];exact zkG h hw K.base K.size (by omega)
  rw [ep]
  have hm:=hmod (t+l.length)
  refine ⟨fun a ha=>yy (by omega),rfl,.inl ⟨K.out,⟨?_,?_,D.c1,ht1,D.cap,D.small,fun i hi=> ?_⟩,⟨K.kind,K.base,K.size,K.out,rfl,⟨by dsimp only;omega,by dsimp only;omega⟩,fun _=>hB,fun _=>hr,fun _=> ?_⟩⟩⟩
  ·dsimp only;rw [yy (by omega)];exact D.top
  ·dsimp only;rw [yy (by omega)];exact D.bot
  ·dsimp only
   rw [yy (fun e=>zBE (t:=t) (i:=t+i) (n:=t+l.length) (c:=p.Cap.toNat) (by omega) (by omega) (by omega) (by unfold ZV at e;omega))]
   exact D.cell i hi
  ·dsimp only
   rw [WA,if_pos ⟨rfl,by omega,by omega⟩,BitVec.toInt_ofInt,Int.bmod_def]
   omega
 ·rw [if_neg c2]
  have hx:=K.x (by omega)
  refine ⟨fun a ha=>yy (by omega),rfl,.inr (.inr ⟨rfl,⟨?_,?_,by omega,ht1,?_,?_,fun i hi=> ?_⟩⟩)⟩
  ·dsimp only;rw [yy (by omega)];exact D.top
  ·dsimp only
   rw [WA,if_pos ⟨rfl,by omega,by omega⟩,hB,List.length_append]
   exact zoR (by omega)
  ·rw [List.length_append];show l.length+1≤_;omega
  ·rw [List.length_append];show t+(l.length+1)<_;omega
  ·dsimp only
   have hi':i<l.length+1:=by rw [List.length_append] at hi;exact hi
   have hm:=hmod (t+i)
   rw [yy (by omega)]
   rcases Nat.lt_or_ge i l.length with g | g
   ·rw [List.getElem_append_left g];exact D.cell i g
   ·have:i=l.length:=by omega
    subst this
    rw [List.getElem_append_right (by omega)]
    simp only [Nat.sub_self,List.getElem_cons_zero]
    exact hx
end
end Go.Pe.G
namespace Go.Pe.G
open Go.Pe
noncomputable section
def xm (h:BitVec 64):Nat:=h.toNat/4294967296
theorem zrA (v:BitVec 64) {n:Int} (h:0≤n) (h2:n<4294967296):(xj v n).toNat=(v.toNat%4294967296)*4294967296+n.toNat:=by
 unfold xj
 have e3:(BitVec.ofInt 64 n).toNat&&&(4294967295#64).toNat=n.toNat:=by
  have:(BitVec.ofInt 64 n).toNat=n.toNat:=by rw [BitVec.toNat_ofInt];omega
  rw [this]
  exact (Nat.and_two_pow_sub_one_eq_mod n.toNat 32).trans (Nat.mod_eq_of_lt (by omega))
 rw [BitVec.toNat_or,BitVec.toNat_and,e3,BitVec.toNat_shiftLeft]
 have h2':v.toNat <<< 32%2 ^ 64=(v.toNat%4294967296) <<< 32:=by rw [Nat.shiftLeft_eq,Nat.shiftLeft_eq];omega
 rw [h2',←Nat.shiftLeft_add_eq_or_of_lt (show n.toNat<2 ^ 32 by omega),Nat.shiftLeft_eq]
theorem zv5 (h:BitVec 64) {n:Int} (h1:0≤n) (h2:n<4294967296) (hv:xm h+1<4294967296):xm (xj ((h >>> 32)+1#64) n)=xm h+1:=by
 have e:((h >>> 32)+1#64).toNat=xm h+1:=by
  rw [BitVec.toNat_add,BitVec.toNat_ushiftRight,Nat.shiftRight_eq_div_pow]
  show (h.toNat/4294967296+1)%2 ^ 64=_
  unfold xm at hv ⊢
  omega
 unfold xm
 rw [zrA _ h1 h2,e]
 unfold xm at hv ⊢
 omega
def Chn (m:List (BitVec 64)) (N:Int) (nb:Nat):Int→List Int→Prop
 | h,[]=>h=0
 | h,x::l=>h=x∧1≤x∧x<nb∧Chn m N nb (ld m (N+x)).toInt l
theorem Chn.mem {m:List (BitVec 64)} {N:Int} {nb:Nat}: ∀ {l:List Int} {h:Int},Chn m N nb h l→∀x∈l,1≤x∧x<nb
 | y::l,h,c,x,hx=>by
  rcases List.mem_cons.1 hx with rfl | hx
  ·exact ⟨c.2.1,c.2.2.1⟩
  ·exact Chn.mem c.2.2.2 x hx
theorem Chn.st {m:List (BitVec 64)} {N:Int} {nb:Nat} {a:Int} {v:BitVec 64}: ∀ {l:List Int} {h:Int},Chn m N nb h l→(∀x∈l,a≠N+x)→Chn (st m a v) N nb h l
 | [],h,c,_=>c
 | y::l,h,c,hn=>⟨c.1,c.2.1,c.2.2.1,by
  rw [yy (hn y (by simp))]
  exact Chn.st c.2.2.2 (fun x hx=>hn x (List.mem_cons_of_mem _ hx))⟩
theorem Chn.head {m:List (BitVec 64)} {N:Int} {nb:Nat} {l:List Int} {h:Int} (c:Chn m N nb h l) (hh:h≠0): ∃t,l=h::t∧1≤h∧h<nb∧Chn m N nb (ld m (N+h)).toInt t:=by
 cases l with
 | nil=>exact absurd c hh
 | cons x t =>
  obtain ⟨rfl,h1,h2,h3⟩:=c
  exact ⟨t,rfl,h1,h2,h3⟩
theorem Chn.empty {m:List (BitVec 64)} {N:Int} {nb:Nat} {l:List Int} (c:Chn m N nb 0 l):l=[]:=by
 cases l with
 | nil=>rfl
 | cons x t=>have:=c.1;have:=c.2.1;omega
def zsk (nb:Nat):List Int:=(List.range (nb-1)).map (fun (i:Nat)=>(i:Int)+1)
theorem zpV (nb:Nat):(zsk nb).Nodup:=by
 unfold zsk
 rw [List.Nodup,List.pairwise_map]
 exact List.nodup_range.imp (fun h e=>h (by omega))
theorem zzl {nb:Nat} {x:Int}:x∈zsk nb↔1≤x∧x<nb:=by
 unfold zsk
 rw [List.mem_map]
 constructor
 ·rintro ⟨i,hi,rfl⟩
  have:=List.mem_range.1 hi
  omega
 ·rintro ⟨h1,h2⟩
  exact ⟨(x-1).toNat,List.mem_range.2 (by omega),by omega⟩
structure LI (p:zb) (nb:Nat) (m:List (BitVec 64)) (h1 h2:Int) (F E own:List Int):Prop where
 hs:(h1=yh p∧h2=zI p)∨(h1=zI p∧h2=yh p)
 cF:Chn m (zI p) nb (yx (ld m h1)) F
 cE:Chn m (zI p) nb (yx (ld m h2)) E
 all:List.Perm (F++E++own) (zsk nb)
 len:zI p+nb≤m.length
theorem LI.nodup {p:zb} {nb:Nat} {m:List (BitVec 64)} {h1 h2:Int} {F E own:List Int} (h:LI p nb m h1 h2 F E own):(F++E++own).Nodup:=h.all.nodup_iff.2 (zpV nb)
theorem LI.notF {p:zb} {nb:Nat} {m:List (BitVec 64)} {h1 h2:Int} {F E own:List Int} (h:LI p nb m h1 h2 F E own) {x:Int} (hx:x∈own):x∉F∧x∉E:=by
 have:=List.nodup_append.1 h.nodup
 exact ⟨fun e=>this.2.2 x (List.mem_append_left _ e) x hx rfl,fun e=>this.2.2 x (List.mem_append_right _ e) x hx rfl⟩
theorem LI.own_in {p:zb} {nb:Nat} {m:List (BitVec 64)} {h1 h2:Int} {F E own:List Int} (h:LI p nb m h1 h2 F E own) {x:Int} (hx:x∈own):1≤x∧x<nb:=zzl.1 (h.all.subset (List.mem_append_right _ hx))
structure CK (p:zb) (m:List (BitVec 64)) (c:zH):Prop where
 v:1≤c.PC→xm c.H≤xm (ld m c.Head)
 y:c.PC=2→c.Kind=2→ld m c.Head=c.H→c.Y=(ld m (zI p+yx c.H)).toInt
 l:c.PC=2→c.Kind=1→ld m (zI p+c.X)=BitVec.ofInt 64 (yx c.H)
structure Mv (p:zb) (nb:Nat) (X:List Int) (m m':List (BitVec 64)):Prop where
 hd: ∀h,h=yh p∨h=zI p→xm (ld m h)≤xm (ld m' h)∧(ld m' h=ld m h∨xm (ld m h)<xm (ld m' h))
 nx: ∀x:Int,1≤x→x<nb→x∉X→ld m' (zI p+x)=ld m (zI p+x)
theorem Mv.refl (p:zb) (nb:Nat) (X:List Int) (m:List (BitVec 64)):Mv p nb X m m:=⟨fun h _=>⟨Nat.le_refl _,.inl rfl⟩,fun _ _ _ _=>rfl⟩
theorem CK.mv {p:zb} {nb:Nat} {m m':List (BitVec 64)} {h1 h2:Int} {F E own X:List Int} {c:zH} (k:CK p m c) (L:LI p nb m h1 h2 F E own) (M:Mv p nb X m m') (hX: ∀x∈X,x∈own)
  (hh:c.Head=h1∨c.Head=h2) (hn:1≤c.PC→c.Kind=2→1≤yx c.H∧yx c.H<nb) (hx:c.Kind=1→1≤c.X∧c.X<nb∧c.X∉X):CK p m' c:=by
 obtain ⟨m1,m2⟩:=M.hd c.Head (by rcases L.hs with g | g<;>rcases hh with hh | hh<;>rw [hh]<;>simp [g])
 refine ⟨fun h=>Nat.le_trans (k.v h) m1,fun h2 hk e=> ?_,fun h2 hk=> ?_⟩
 ·have hv:=k.v (by omega)
  have e':ld m c.Head=c.H:=by
   rcases m2 with m2 | m2
   ·rw [←m2];exact e
   ·rw [e] at m2;omega
  obtain ⟨n1,n2⟩:=hn (by omega) hk
  rw [M.nx _ n1 n2 (fun hmem=> ?_)]
  ·exact k.y h2 hk e'
  ·obtain ⟨f1,f2⟩:=L.notF (hX _ hmem)
   rcases hh with hh | hh
   ·obtain ⟨t,ht,_⟩:=L.cF.head (by rw [←hh,e'];omega)
    rw [←hh,e'] at ht
    exact f1 (by rw [ht];simp)
   ·obtain ⟨t,ht,_⟩:=L.cE.head (by rw [←hh,e'];omega)
    rw [←hh,e'] at ht
    exact f2 (by rw [ht];simp)
 ·obtain ⟨x1,x2,x3⟩:=hx hk
  rw [M.nx _ x1 x2 x3]
  exact k.l h2 hk
theorem LI.swap {p:zb} {nb:Nat} {m:List (BitVec 64)} {h1 h2:Int} {F E own:List Int} (h:LI p nb m h1 h2 F E own):LI p nb m h2 h1 E F own :=
 ⟨h.hs.elim (fun g=>.inr ⟨g.2,g.1⟩) (fun g=>.inl ⟨g.2,g.1⟩),h.cE,h.cF,(List.perm_append_comm.append_right own).trans h.all,h.len⟩
theorem zo6 {p:zb} (hp:zA p) {m:List (BitVec 64)} {a x:Int} {v:BitVec 64} (ha:a=yh p∨a=zI p) (hx:1≤x):ld (st m a v) (zI p+x)=ld m (zI p+x):=by
 have:=wN hp
 exact yy (by omega)
theorem Chn.st_head {p:zb} (hp:zA p) {m:List (BitVec 64)} {nb:Nat} {a h:Int} {l:List Int} {v:BitVec 64} (ha:a=yh p∨a=zI p) (c:Chn m (zI p) nb h l):Chn (Go.Pe.G.st m a v) (zI p) nb h l:=by
 have:=wN hp
 exact c.st (fun x hx=>by have:=(c.mem x hx).1;omega)
theorem Mv.head {p:zb} (hp:zA p) {nb:Nat} {X:List Int} {m:List (BitVec 64)} {a:Int} {v:BitVec 64} (ha:a=yh p∨a=zI p) (hv:xm (ld m a)<xm v):Mv p nb X m (st m a v):=by
 refine ⟨fun h hh=> ?_,fun x hx _ _=>zo6 hp ha hx⟩
 by_cases e:a=h
 ·subst e
  rw [WA]
  split
  ·exact ⟨by omega,.inr hv⟩
  ·exact ⟨Nat.le_refl _,.inl rfl⟩
 ·rw [yy e];exact ⟨Nat.le_refl _,.inl rfl⟩
theorem zwa {p:zb} (hp:zA p) {nb:Nat} (hnb:nb<1000) {m:List (BitVec 64)} {h1 h2:Int} {F E own:List Int} (L:LI p nb m h1 h2 F E own) {c:zH}
  (hk:c.Kind=2) (hh:c.Head=h1) (hN:c.Next=zI p) (ho:c.Out=0) (hpc:0≤c.PC∧c.PC≤2) (K:CK p m c) (hn:1≤c.PC→1≤yx c.H∧yx c.H<nb) (hv:xm (ld m h1)+1<4294967296) :
  ((zm m c).1=m∧(zm m c).2.Out≠1∧((zm m c).2.Out=2→F=[])∧CK p m (zm m c).2) ∨
  (∃x F',F=x::F'∧(zm m c).2.Out=1∧(zm m c).2.X=x∧LI p nb (zm m c).1 h1 h2 F' E (x::own)∧Mv p nb [] m (zm m c).1∧xm (ld (zm m c).1 h1)=xm (ld m h1)+1∧ld (zm m c).1 h2=ld m h2):=by
 have hE:=wN hp
 have hF:=Yp hp
 have hd:h1=yh p∨h1=zI p:=by rcases L.hs with g | g<;>simp [g]
 unfold zm
 rw [if_neg (by omega)]
 by_cases c0:c.PC=0
 ·rw [if_pos c0]
  left
  split
  ·rename_i e
   refine ⟨rfl,(by show (2:Int)≠1;decide),fun _=> ?_,⟨fun _=>by rw [hh];exact Nat.le_refl _,fun e2=>(by cases e2),fun e2=>(by cases e2)⟩⟩
   have:=L.cF
   rw [hh] at e
   rw [e.2] at this
   exact this.empty
  ·refine ⟨rfl,by dsimp only;omega,fun e=>by dsimp only at e;omega,⟨fun _=>by rw [hh];exact Nat.le_refl _,fun e2=>(by cases e2),fun e2=>(by cases e2)⟩⟩
 ·rw [if_neg c0]
  by_cases c1:c.PC=1
  ·rw [if_pos c1,if_pos hk]
   left
   refine ⟨rfl,by dsimp only;omega,fun e=>by dsimp only at e;omega,⟨fun _=>K.v (by omega),fun _ _ _=> ?_,fun _ e=>by dsimp only at e;omega⟩⟩
   have:=hn (by omega)
   dsimp only
   rw [hN,xg (by omega) (by omega)]
  ·rw [if_neg c1]
   have c2:c.PC=2:=by omega
   simp only [if_pos hk]
   by_cases hs:0≤c.Head∧c.Head<m.length∧ld m c.Head=c.H
   ·right
    have n:=hn (by omega)
    have hsw:sw m c.Head c.H (xj (c.H >>> 32+1#64) c.Y)=(st m c.Head (xj (c.H >>> 32+1#64) c.Y),true):=by unfold sw;rw [if_pos hs]
    rw [hsw]
    have hc:=L.cF
    rw [←hh,hs.2.2] at hc
    obtain ⟨t,ht,_,_,hct⟩:=hc.head (by omega)
    have hy:=K.y c2 hk hs.2.2
    have hct':=hct
    rw [←hy] at hct'
    have y0:0≤c.Y∧c.Y<nb:=by
     cases t with
     | nil=>have e:c.Y=0:=hct';omega
     | cons z t=>have:=hct'.1;have:=hct'.2.1;have:=hct'.2.2.1;omega
    have vp:xm (xj (c.H >>> 32+1#64) c.Y)=xm c.H+1:=zv5 c.H y0.1 (by omega) (by rw [←hs.2.2,hh];exact hv)
    have hcH:xm c.H=xm (ld m h1):=by rw [←hs.2.2,hh]
    have ld1:ld (st m h1 (xj (c.H >>> 32+1#64) c.Y)) h1=xj (c.H >>> 32+1#64) c.Y:=by rw [WA,if_pos ⟨rfl,by rw [←hh];exact hs.1,by rw [←hh];exact hs.2.1⟩]
    have h12:h1≠h2:=by rcases L.hs with g | g<;>omega
    refine ⟨yx c.H,t,ht,rfl,rfl,?_,?_,?_,?_⟩
    ·rw [hh]
     refine ⟨L.hs,?_,?_,?_,by rw [ZR];exact L.len⟩
     ·rw [ld1,zdk _ y0.1 (by omega)]
      exact hct'.st_head hp hd
     ·rw [yy h12]
      exact L.cE.st_head hp hd
     ·refine List.Perm.trans ?_ L.all
      rw [ht]
      show List.Perm (t++E++yx c.H::own) (yx c.H::(t++E++own))
      exact List.perm_middle
    ·rw [hh]
     exact Mv.head hp hd (by rw [vp,hcH];omega)
    ·rw [hh,ld1,vp,hcH]
    ·rw [hh,yy h12]
   ·left
    have hsw:sw m c.Head c.H (xj (c.H >>> 32+1#64) c.Y)=(m,false):=by unfold sw;rw [if_neg hs]
    rw [hsw]
    refine ⟨rfl,by dsimp only;simp;omega,fun e=>by simp at e;omega,⟨fun e=>by simp at e,fun e=>by simp at e,fun e=>by simp at e⟩⟩
theorem zw8 {n:Int} (h:0≤n) (h2:n<4294967296):(BitVec.ofInt 64 n).toInt=n:=toInt_ofInt h h2
theorem zlZ {N a b:Int} (h:N+a=N+b):b=a:=by omega
theorem zt4 {p:zb} (hp:zA p) {nb:Nat} (hnb:nb<1000) {m:List (BitVec 64)} {h1 h2 b:Int} {F E o1 o2:List Int} (L:LI p nb m h1 h2 F E (o1++b::o2)) {c:zH}
  (hk:c.Kind=1) (hh:c.Head=h1) (hN:c.Next=zI p) (hX:c.X=b) (ho:c.Out=0) (hpc:0≤c.PC∧c.PC≤2) (K:CK p m c) (hn:1≤c.PC→yx c.H<nb) (hv:xm (ld m h1)+1<4294967296) :
  ((zm m c).2.Out=0∧LI p nb (zm m c).1 h1 h2 F E (o1++b::o2)∧Mv p nb [b] m (zm m c).1∧CK p (zm m c).1 (zm m c).2∧(∀a,a≤zI p→ld (zm m c).1 a=ld m a)) ∨
  ((zm m c).2.Out=1∧LI p nb (zm m c).1 h1 h2 (b::F) E (o1++o2)∧Mv p nb [] m (zm m c).1∧xm (ld (zm m c).1 h1)=xm (ld m h1)+1∧(∀a,a≤zI p→a≠h1→ld (zm m c).1 a=ld m a)):=by
 have hE:=wN hp
 have hF:=Yp hp
 have hd:h1=yh p∨h1=zI p:=by rcases L.hs with g | g<;>simp [g]
 have hd2:h2=yh p∨h2=zI p:=by rcases L.hs with g | g<;>simp [g]
 have hb:1≤b∧b<nb:=L.own_in (List.mem_append_right _ (by simp))
 have hbn:=L.notF (x:=b) (List.mem_append_right _ (by simp))
 have hlen:=L.len
 have hk2: ¬c.Kind=2:=by omega
 unfold zm
 rw [if_neg (by omega)]
 by_cases c0:c.PC=0
 ·rw [if_pos c0,if_neg (fun e=>hk2 e.1)]
  left
  exact ⟨ho,L,Mv.refl _ _ _ _,⟨fun _=>by rw [hh];exact Nat.le_refl _,fun e2=>(by cases e2),fun e2=>(by cases e2)⟩,fun _ _=>rfl⟩
 ·rw [if_neg c0]
  by_cases c1:c.PC=1
  ·rw [if_pos c1,if_neg hk2]
   left
   have nn:=zkN c.H
   have ea:wc (c.Next+c.X)=zI p+b:=by rw [hN,hX,xg (by omega) (by omega)]
   rw [ea]
   have hne: ∀h,h=yh p∨h=zI p→ld (st m (zI p+b) (BitVec.ofInt 64 (yx c.H))) h=ld m h:=fun h hh=>yy (by omega)
   refine ⟨ho,⟨L.hs,?_,?_,L.all,by dsimp only;rw [ZR];exact hlen⟩,⟨fun h hh=> ?_,fun x x1 x2 x3=> ?_⟩,⟨fun _=> ?_,fun _ e=>absurd e hk2,fun _ _=> ?_⟩,fun a ha=> ?_⟩
   ·dsimp only
    rw [hne _ hd]
    exact L.cF.st (fun x hx e=>hbn.1 (zlZ e▸hx))
   ·dsimp only
    rw [hne _ hd2]
    exact L.cE.st (fun x hx e=>hbn.2 (zlZ e▸hx))
   ·dsimp only
    rw [hne _ hh];exact ⟨Nat.le_refl _,.inl rfl⟩
   ·dsimp only
    exact yy (fun e=>x3 (List.mem_singleton.2 (zlZ e)))
   ·dsimp only
    rw [hh,hne _ hd,←hh];exact K.v (by omega)
   ·dsimp only
    rw [hX,WA,if_pos ⟨rfl,by omega,by omega⟩]
   ·dsimp only
    exact yy (by omega)
  ·rw [if_neg c1]
   have c2:c.PC=2:=by omega
   simp only [if_neg hk2]
   by_cases hs:0≤c.Head∧c.Head<m.length∧ld m c.Head=c.H
   ·right
    have n:=hn (by omega)
    have nn:=zkN c.H
    have hsw:sw m c.Head c.H (xj (c.H >>> 32+1#64) c.X)=(st m c.Head (xj (c.H >>> 32+1#64) c.X),true):=by unfold sw;rw [if_pos hs]
    rw [hsw]
    have hl:=K.l c2 hk
    rw [hX] at hl
    have vp:xm (xj (c.H >>> 32+1#64) c.X)=xm c.H+1:=zv5 c.H (by omega) (by omega) (by rw [←hs.2.2,hh];exact hv)
    have hcH:xm c.H=xm (ld m h1):=by rw [←hs.2.2,hh]
    have ld1:ld (st m h1 (xj (c.H >>> 32+1#64) c.X)) h1=xj (c.H >>> 32+1#64) c.X:=by rw [WA,if_pos ⟨rfl,by rw [←hh];exact hs.1,by rw [←hh];exact hs.2.1⟩]
    have h12:h1≠h2:=by rcases L.hs with g | g<;>omega
    refine ⟨rfl,?_,?_,?_,fun a ha hne=> ?_⟩
    ·rw [hh]
     refine ⟨L.hs,?_,?_,?_,by dsimp only;rw [ZR];exact hlen⟩
     ·dsimp only
      rw [ld1,zdk _ (by omega) (by omega),hX]
      refine ⟨rfl,hb.1,hb.2,?_⟩
      rw [zo6 hp hd hb.1,hl,zw8 nn.1 nn.2]
      have:=L.cF
      rw [←hh,hs.2.2] at this
      rw [←hX,←hh] at *
      exact this.st_head hp hd
     ·dsimp only
      rw [yy h12]
      exact L.cE.st_head hp hd
     ·refine List.Perm.trans ?_ L.all
      show List.Perm (b::(F++E++(o1++o2))) (F++E++(o1++b::o2))
      rw [←List.append_assoc (F++E) o1 o2,←List.append_assoc (F++E) o1 (b::o2)]
      exact List.perm_middle.symm
    ·rw [hh]
     exact Mv.head hp hd (by rw [vp,hcH];omega)
    ·rw [hh]
     dsimp only
     rw [ld1,vp,hcH]
    ·rw [hh]
     exact yy (fun e=>hne e.symm)
   ·left
    have hsw:sw m c.Head c.H (xj (c.H >>> 32+1#64) c.X)=(m,false):=by unfold sw;rw [if_neg hs]
    rw [hsw]
    exact ⟨ho,L,Mv.refl _ _ _ _,⟨fun e=>(by simp at e),fun e=>(by simp at e),fun e=>(by simp at e)⟩,fun _ _=>rfl⟩
end
end Go.Pe.G
namespace Go.Pe.G
open Go.Pe
noncomputable section
structure Gh where
 F:List Int
 E:List Int
 D:Int→List Int
 t:Int→Nat
 c:Int→Nat
def vQ (s:za) (b:Int):List Int:=(s.Bins[b.toNat]?).getD []
def yA (p:zb) (s:za) (g:Gh):List Int:=g.F.flatMap (vQ s)++(List.range p.Workers.toNat).flatMap (fun i:Nat=>g.D ((i:Int)+1))
structure SX (p:zb) (nb:Nat) (s:za) (g:Gh) (own:List Int) (k:Nat):Prop where
 S:SOk p nb s
 L:LI p nb s.M (yh p) (zI p) g.F g.E own
 D: ∀w,1≤w→w≤p.Workers→DQ p s.M w (g.t w) (g.D w) (g.c w)
 v:xm (ld s.M (yh p))≤k∧xm (ld s.M (zI p))≤k
 dk: ∀w,1≤w→w≤p.Workers→g.t w+(g.D w).length≤k+1000
inductive DFr (p:zb) (m m':List (BitVec 64)) (g g':Gh) (w:Int):Prop
 | same (e1:g'.t w=g.t w) (e2:g'.D w=g.D w) (e3:g'.c w=g.c w) (e4: ∀a,zW p w≤a→a<zW p w+p.Cap+2→ld m' a=ld m a):DFr p m m' g g' w
 | stolen (x:Int) (e1:g'.t w=g.t w+1) (e2:g.D w=x::g'.D w) (e3:g'.c w=g.c w) (e4: ∀a,zW p w<a→a<zW p w+p.Cap+2→ld m' a=ld m a):DFr p m m' g g' w
structure FX (p:zb) (nb:Nat) (X:List Int) (O:Int→Prop) (s s':za) (g g':Gh):Prop where
 mv:Mv p nb X s.M s'.M
 bn: ∀b,1≤b→b∉X→s'.Bins[b.toNat]? =s.Bins[b.toNat]?
 dq: ∀w,1≤w→w≤p.Workers→DFr p s.M s'.M g g' w∨(O w∧Dv (g.t w) (g.D w) (g'.t w) (g'.D w))
theorem DFr.dv {p:zb} {m m':List (BitVec 64)} {g g':Gh} {w:Int} (h:DFr p m m' g g' w):Dv (g.t w) (g.D w) (g'.t w) (g'.D w):=by
 cases h with
 | same t l c m=>rw [t,l];exact Dv.refl _ _
 | stolen x t l c m=>exact ⟨by omega,fun e=>by omega⟩
theorem FX.dv {p:zb} {nb:Nat} {X:List Int} {O:Int→Prop} {s s':za} {g g':Gh} (h:FX p nb X O s s' g g') {w:Int} (h1:1≤w) (h2:w≤p.Workers):Dv (g.t w) (g.D w) (g'.t w) (g'.D w):=by
 rcases h.dq w h1 h2 with h | h
 ·exact h.dv
 ·exact h.2
theorem FX.tk {p:zb} {nb:Nat} {X:List Int} {O:Int→Prop} {s s':za} {g g':Gh} (h:FX p nb X O s s' g g') {w:Int} (h1:1≤w) (h2:w≤p.Workers) {d:zh} (K:TK p s.M w (g.t w) (g.D w) d):TK p s'.M w (g'.t w) (g'.D w) d:=K.dv (h.dv h1 h2)
theorem FX.pk {p:zb} (hp:zA p) {nb:Nat} {X:List Int} {O:Int→Prop} {s s':za} {g g':Gh} (h:FX p nb X O s s' g g') {w:Int} (h1:1≤w) (h2:w≤p.Workers) (ho: ¬O w) {d:zh} (K:PK p s.M w (g.t w) (g.D w) (g.c w) d):PK p s'.M w (g'.t w) (g'.D w) (g'.c w) d:=by
 rcases h.dq w h1 h2 with h | h
 ·cases h with
  | same t l c m=>rw [t,l,c];exact K.keep
  | stolen x t l c m=>rw [l] at K;rw [t,c];exact K.stolen hp ⟨h1,h2⟩
 ·exact absurd h.1 ho
theorem FX.dk {p:zb} (hp:zA p) {nb:Nat} {X:List Int} {O:Int→Prop} {s s':za} {g g':Gh} (h:FX p nb X O s s' g g') {w:Int} (h1:1≤w) (h2:w≤p.Workers) (ho: ¬O w) {d:zh} (K:DK p s.M w (g.t w) (g.D w) (g.c w) d):DK p s'.M w (g'.t w) (g'.D w) (g'.c w) d:=by
 have hc:=hp.cap
 rcases h.dq w h1 h2 with h | h
 ·cases h with
  | same t l c m=>rw [t,l,c];exact K.keep hp (fun a h1 h2=>m a (by omega) h2)
  | stolen x t l c m =>
   rw [l] at K
   have K':DK p s'.M w (g.t w) (x::g'.D w) (g.c w) d:=K.keep hp (fun a h1 h2=>m a (by omega) h2)
   rw [t,c]
   exact K'.stolen (m':=s'.M) (fun _ _=>rfl) hp
 ·exact absurd h.1 ho
def wo (g:zC):List Int:=if g.Out=0∧(g.PC=6∨g.PC=7) then [g.Bin] else []
def yS (g:zC):List Int:=if g.Out=0∧3≤g.PC∧g.PC≤7 then [g.Obj] else []
structure GX (p:zb) (s:za) (gh:Gh) (g:zC):Prop where
 o:g.Out=0∨g.Out=1
 pc:0≤g.PC∧g.PC≤7
 md:1≤g.Mode∧g.Mode≤3
 ob:1≤g.Obj∧g.Obj≤64
 c0:g.Mode=1→g.Out=0→gh.c g.Who=0
 c5:g.PC=5→g.Out=0→g.C.Out=0∧(0≤g.C.PC∧g.C.PC≤2)∧CK p s.M g.C
 c7:g.PC=7→g.Out=0→g.C.Out=0∧(0≤g.C.PC∧g.C.PC≤2)∧g.C.X=g.Bin∧CK p s.M g.C∧s.Bins[g.Bin.toNat]? =some [g.Obj]
 d3:g.PC=3→g.Out=0→g.Mode=1∧g.D.X=g.Obj∧DK p s.M g.Who (gh.t g.Who) (gh.D g.Who) (gh.c g.Who) g.D
theorem GX.other {p:zb} (hp:zA p) {nb k:Nat} {s s':za} {gh gh':Gh} {X R:List Int} {O:Int→Prop} {o:zC} (Y:SX p nb s gh (X++R) k) (Fx:FX p nb X O s s' gh gh') (G:GX p s gh o) (M:MOk p nb o)
  (hR: ∀x∈wo o,x∈R) (apart:o.Mode=1→¬O o.Who):GX p s' gh' o:=by
 have hsub: ∀x∈X,x∈X++R:=fun x hx=>List.mem_append_left _ hx
 have hnd:=(List.nodup_append.1 Y.L.nodup).2.1
 have hnot: ∀x,x∈wo o→x∉X:=fun x hx hg=>(List.nodup_append.1 hnd).2.2 x hg x (hR x hx) rfl
 refine ⟨G.o,G.pc,G.md,G.ob,fun h1 h0=> ?_,fun h5 h0=> ?_,fun h7 h0=> ?_,fun h3 h0=> ?_⟩
 ·have hw:=M.who h1
  rcases Fx.dq o.Who hw.1 hw.2 with h | h
  ·cases h with
   | same t l c m=>rw [c];exact G.c0 h1 h0
   | stolen x t l c m=>rw [c];exact G.c0 h1 h0
  ·exact absurd h.1 (apart h1)
 ·obtain ⟨a,b,c⟩:=G.c5 h5 h0
  obtain ⟨m1,m2,m3,m4,m5⟩:=M.c5 h5
  exact ⟨a,b,c.mv Y.L Fx.mv hsub (.inr m2) (fun h _=>m4 h) (fun e=>by omega)⟩
 ·obtain ⟨a,b,c,d,e⟩:=G.c7 h7 h0
  obtain ⟨m1,m2,m3,m4,m5⟩:=M.c7 h7
  have hown:o.Bin∈wo o:=by unfold wo;rw [if_pos ⟨h0,.inr h7⟩];simp
  have hno:=hnot _ hown
  exact ⟨a,b,c,d.mv Y.L Fx.mv hsub (.inl m2) (fun _ e=>by omega) (fun _=>⟨m4.1,m4.2,by rw [c];exact hno⟩),by rw [Fx.bn o.Bin (by rw [←c];exact m4.1) hno];exact e⟩
 ·obtain ⟨a,b,c⟩:=G.d3 h3 h0
  have hw:=M.who a
  exact ⟨a,b,Fx.dk hp hw.1 hw.2 (apart a) c⟩
theorem zby (m:List (BitVec 64)) {c:zH} (h:c.Out=0) (hpc:0≤c.PC∧c.PC≤2) (hk:c.Kind=1∨c.Kind=2) :
  ((zm m c).2.Out=0∧0≤(zm m c).2.PC∧(zm m c).2.PC≤2)∨(zm m c).2.Out=1∨((zm m c).2.Out=2∧c.Kind=2):=by
 unfold zm
 rw [if_neg (by omega)]
 split
 ·dsimp only
  split
  ·rename_i e;exact .inr (.inr ⟨rfl,e.1⟩)
  ·exact .inl ⟨h,by show (0:Int)≤1;decide,by show (1:Int)≤2;decide⟩
 split
 ·split<;>exact .inl ⟨h,by show (0:Int)≤2;decide,by show (2:Int)≤2;decide⟩
 ·dsimp only
  generalize sw m c.Head c.H _=r
  split
  ·split<;>exact .inr (.inl rfl)
  ·exact .inl ⟨h,by show (0:Int)≤0;decide,by show (0:Int)≤2;decide⟩
theorem zk5 (m:List (BitVec 64)) (c:zH):(zm m c).2.Kind=c.Kind∧(zm m c).2.Head=c.Head∧(zm m c).2.Next=c.Next∧(c.Kind=1→(zm m c).2.X=c.X):=by
 unfold zm
 split
 ·exact ⟨rfl,rfl,rfl,fun _=>rfl⟩
 split
 ·dsimp only;split<;>exact ⟨rfl,rfl,rfl,fun _=>rfl⟩
 split
 ·split<;>exact ⟨rfl,rfl,rfl,fun _=>rfl⟩
 ·dsimp only
  generalize sw m c.Head c.H _=r
  split
  ·split
   ·rename_i e;exact ⟨rfl,rfl,rfl,fun e2=>by omega⟩
   ·exact ⟨rfl,rfl,rfl,fun _=>rfl⟩
  ·exact ⟨rfl,rfl,rfl,fun _=>rfl⟩
theorem SX.quiet {p:zb} {nb k:Nat} {s s':za} {g:Gh} {own:List Int} (X:SX p nb s g own k) (S':SOk p nb s') (hm:s'.M=s.M):SX p nb s' g own (k+1) :=
 ⟨S',by rw [hm];exact X.L,by rw [hm];exact X.D,by rw [hm];exact ⟨Nat.le_succ_of_le X.v.1,Nat.le_succ_of_le X.v.2⟩,fun w h1 h2=>by have:=X.dk w h1 h2;omega⟩
theorem FX.quiet {p:zb} {nb:Nat} {X:List Int} {O:Int→Prop} {s s':za} {g:Gh} (hm:s'.M=s.M) (hb: ∀b,1≤b→b∉X→s'.Bins[b.toNat]? =s.Bins[b.toNat]?):FX p nb X O s s' g g :=
 ⟨by rw [hm];exact Mv.refl _ _ _ _,hb,fun _ _ _=> .inl (.same rfl rfl rfl (fun _ _ _=>by rw [hm]))⟩
theorem uW {p:zb} {s s':za} {g:Gh} (hb:s'.Bins=s.Bins):yA p s' g=yA p s g:=by
 unfold yA vQ;rw [hb]
theorem vA {g:zC} (h:g.Out≠0∨(g.PC≠6∧g.PC≠7)):wo g=[]:=by unfold wo;rw [if_neg (by omega)]
theorem ziE {g:zC} (h:g.Out=0) (h2:g.PC=6∨g.PC=7):wo g=[g.Bin]:=by unfold wo;rw [if_pos ⟨h,h2⟩]
theorem Zo {g:zC} (h:g.Out≠0∨g.PC<3∨7<g.PC):yS g=[]:=by unfold yS;rw [if_neg (by omega)]
theorem vr {g:zC} (h:g.Out=0) (h2:3≤g.PC) (h3:g.PC≤7):yS g=[g.Obj]:=by unfold yS;rw [if_pos ⟨h,h2,h3⟩]
theorem GX.ask {p:zb} {s:za} {gh:Gh} {g:zC} (o:g.Out=0) (md:1≤g.Mode∧g.Mode≤3) (ob:1≤g.Obj∧g.Obj≤64) (c0:g.Mode=1→gh.c g.Who=0) (q:zb):GX p s gh (zdH q g) :=
 ⟨.inl o,⟨by show (0:Int)≤5;decide,by show (5:Int)≤7;decide⟩,md,ob,fun h _=>c0 h,
  fun _ _=>⟨rfl,⟨by show (0:Int)≤0;decide,by show (0:Int)≤2;decide⟩,⟨fun e=>absurd e (by show ¬(1:Int)≤0;decide),fun e=>absurd e (by show ¬(0:Int)=2;decide),fun e=>absurd e (by show ¬(0:Int)=2;decide)⟩⟩,
  fun e=>absurd e (by show ¬(5:Int)=7;decide),fun e=>absurd e (by show ¬(5:Int)=3;decide)⟩
theorem GX.plain {p:zb} {s:za} {gh:Gh} {g:zC} (o:g.Out=0∨g.Out=1) (pc:0≤g.PC∧g.PC≤7) (md:1≤g.Mode∧g.Mode≤3) (ob:1≤g.Obj∧g.Obj≤64) (c0:g.Mode=1→g.Out=0→gh.c g.Who=0) (h:g.Out≠0∨(g.PC≠3∧g.PC≠5∧g.PC≠7)):GX p s gh g :=
 ⟨o,pc,md,ob,c0,fun e e2=>by omega,fun e e2=>by omega,fun e e2=>by omega⟩
def zuS (g:zC) (w:Int):Prop:=g.Mode=1∧w=g.Who
def zpc (p:zb) (nb k:Nat) (R:List Int) (gh:Gh) (s:za) (g:zC) (s':za) (g':zC):Prop :=
 ∃gh',SX p nb s' gh' (wo g'++R) (k+1)∧GX p s' gh' g'∧FX p nb (wo g) (zuS g) s s' gh gh'∧(g.Mode=1→g.Out=0→gh'.c g.Who=0)∧(∀b∈gh'.F,b∈gh.F∨vQ s' b≠[]) ∧
  ∃N,List.Perm (yA p s' gh'++yS g') (N++(yA p s gh++yS g)) ∧
   ((N=[]∧s'.T=s.T)∨(N=[g.Obj]∧¬(s.T.Marks|||bit g.Obj=s.T.Marks)∧s'.T={s.T with Marks:=s.T.Marks|||bit g.Obj}))
theorem zpc.quiet {p:zb} {nb k:Nat} {R:List Int} {gh:Gh} {s s':za} {g g':zC} (X:SX p nb s gh (wo g++R) k) (S':SOk p nb s') (hm:s'.M=s.M) (hb:s'.Bins=s.Bins) (hT:s'.T=s.T)
  (ho:wo g'=wo g) (hh:yS g'=yS g) (c0:g.Mode=1→g.Out=0→gh.c g.Who=0) (G':GX p s' gh g'):zpc p nb k R gh s g s' g' :=
 ⟨gh,by rw [ho];exact X.quiet S' hm,G',FX.quiet hm (fun _ _ _=>by rw [hb]),c0,fun _ h=> .inl h,[],by rw [uW hb,hh];exact List.Perm.refl _,.inl ⟨rfl,hT⟩⟩
theorem zob (m:List (BitVec 64)) {c:zH} (hk:c.Kind=2) {a:Int} (ha:a≠c.Head):ld (zm m c).1 a=ld m a:=by
 unfold zm
 split
 ·rfl
 split
 ·rfl
 split
 ·rfl
 ·dsimp only
  unfold sw
  split
  ·exact yy (fun e=>ha e.symm)
  ·rfl
theorem Chn.congr {m m':List (BitVec 64)} {N:Int} {nb:Nat} (hm: ∀x:Int,1≤x→ld m' (N+x)=ld m (N+x)): ∀ {l:List Int} {h:Int},Chn m N nb h l→Chn m' N nb h l
 | [],h,c=>c
 | y::l,h,c=>⟨c.1,c.2.1,c.2.2.1,by rw [hm y c.2.1];exact Chn.congr hm c.2.2.2⟩
theorem LI.low {p:zb} (hp:zA p) {nb:Nat} {m m':List (BitVec 64)} {h1 h2:Int} {F E own:List Int} (L:LI p nb m h1 h2 F E own) (hl:m'.length=m.length) (hm: ∀a,yh p≤a→ld m' a=ld m a):LI p nb m' h1 h2 F E own:=by
 have hE:=wN hp
 have h:h1=yh p∨h1=zI p:=by rcases L.hs with g | g<;>simp [g]
 have h':h2=yh p∨h2=zI p:=by rcases L.hs with g | g<;>simp [g]
 exact ⟨L.hs,by rw [hm h1 (by omega)];exact L.cF.congr (fun x hx=>hm _ (by omega)),by rw [hm h2 (by omega)];exact L.cE.congr (fun x hx=>hm _ (by omega)),L.all,by rw [hl];exact L.len⟩
theorem Mv.low {p:zb} (hp:zA p) {nb:Nat} {X:List Int} {m m':List (BitVec 64)} (hm: ∀a,yh p≤a→ld m' a=ld m a):Mv p nb X m m':=by
 have hE:=wN hp
 exact ⟨fun h hh=>by rw [hm h (by omega)];exact ⟨Nat.le_refl _,.inl rfl⟩,fun x hx _ _=>hm _ (by omega)⟩
theorem zw3 {p:zb} (hp:zA p) {v w:Int} (hv:1≤v∧v≤p.Workers) (hw:1≤w∧w≤p.Workers) (h:v≠w):zW p v+p.Cap+2≤zW p w∨zW p w+p.Cap+2≤zW p v:=by
 have hk:=hp.wk
 have hc:=hp.cap
 have h1:=(Xb hp hv.1 hv.2).1
 have h2:=(Xb hp hw.1 hw.2).1
 have hx:v=1∨v=2∨v=3:=by omega
 have hy:w=1∨w=2∨w=3:=by omega
 rw [h1,h2]
 rcases hx with rfl | rfl | rfl<;>rcases hy with rfl | rfl | rfl<;>omega
theorem zsX {p:zb} (hp:zA p) {w:Int} (hw:1≤w∧w≤p.Workers) {m m':List (BitVec 64)} (hm: ∀a,(a<zW p w∨zW p w+p.Cap+2≤a)→ld m' a=ld m a):(∀a,yh p≤a→ld m' a=ld m a) ∧
  ∀v,1≤v→v≤p.Workers→v≠w→∀a,zW p v≤a→a<zW p v+p.Cap+2→ld m' a=ld m a:=by
 have hd:=Xb hp hw.1 hw.2
 refine ⟨fun a ha=>hm a (by omega),fun v h1 h2 hne a h3 h4=>hm a ?_⟩
 have:=zw3 hp ⟨h1,h2⟩ hw hne
 omega
def WW (g:Gh) (w:Int) (t:Nat) (l:List Int) (c:Nat):Gh:={g with D:=fun v=>if v=w then l else g.D v,t:=fun v=>if v=w then t else g.t v,c:=fun v=>if v=w then c else g.c v}
theorem YT {g:Gh} {w v:Int} {t c:Nat} {l:List Int} (h:v≠w):(WW g w t l c).D v=g.D v∧(WW g w t l c).t v=g.t v∧(WW g w t l c).c v=g.c v:=by
 unfold WW;dsimp only;rw [if_neg h,if_neg h,if_neg h];exact ⟨rfl,rfl,rfl⟩
theorem wG {g:Gh} {w:Int} {t c:Nat} {l:List Int}:(WW g w t l c).D w=l∧(WW g w t l c).t w=t∧(WW g w t l c).c w=c:=by
 unfold WW;dsimp only;rw [if_pos rfl,if_pos rfl,if_pos rfl];exact ⟨rfl,rfl,rfl⟩
theorem SX.dq {p:zb} (hp:zA p) {nb k:Nat} {s s':za} {g:Gh} {own:List Int} (X:SX p nb s g own k) (S':SOk p nb s') (hl:s'.M.length=s.M.length) {w:Int} (hw:1≤w∧w≤p.Workers)
  (hm: ∀a,(a<zW p w∨zW p w+p.Cap+2≤a)→ld s'.M a=ld s.M a) {t c:Nat} {l:List Int} (D:DQ p s'.M w t l c) (hk:t+l.length≤k+1+1000):SX p nb s' (WW g w t l c) own (k+1):=by
 obtain ⟨h1,h2⟩:=zsX hp hw hm
 have hE:=wN hp
 refine ⟨S',X.L.low hp hl h1,fun v a b=> ?_,?_,fun v a b=> ?_⟩
 ·by_cases e:v=w
  ·subst e
   rw [wG.1,wG.2.1,wG.2.2];exact D
  ·rw [(YT e).1,(YT e).2.1,(YT e).2.2]
   exact (X.D v a b).keep hp (h2 v a b e)
 ·rw [h1 _ (by omega),h1 _ (by omega)]
  exact ⟨Nat.le_succ_of_le X.v.1,Nat.le_succ_of_le X.v.2⟩
 ·by_cases e:v=w
  ·subst e
   rw [wG.1,wG.2.1];exact hk
  ·rw [(YT e).1,(YT e).2.1]
   have:=X.dk v a b;omega
theorem FX.own {p:zb} (hp:zA p) {nb:Nat} {Y:List Int} {O:Int→Prop} {s s':za} {g:Gh} {w:Int} (hw:1≤w∧w≤p.Workers)
  (hm: ∀a,(a<zW p w∨zW p w+p.Cap+2≤a)→ld s'.M a=ld s.M a) (hb:s'.Bins=s.Bins) {t c:Nat} {l:List Int} (hO:O w) (V:Dv (g.t w) (g.D w) t l):FX p nb Y O s s' g (WW g w t l c):=by
 obtain ⟨h1,h2⟩:=zsX hp hw hm
 refine ⟨Mv.low hp h1,fun b _ _=>by rw [hb],fun v a b=> ?_⟩
 by_cases e:v=w
 ·subst e
  right
  rw [wG.1,wG.2.1];exact ⟨hO,V⟩
 ·exact .inl (.same (YT e).2.1 (YT e).1 (YT e).2.2 (h2 v a b e))
theorem xL {α β:Type} {f g:α→List β}: ∀ {l:List α},(∀x∈l,f x=g x)→l.flatMap f=l.flatMap g
 | [],_=>rfl
 | a::l,h=>by rw [List.flatMap_cons,List.flatMap_cons,h a (by simp),xL (fun x hx=>h x (List.mem_cons_of_mem _ hx))]
theorem zwS {n:Nat} {i:Nat} (h:i<n): ∃a b,List.range n=a++i::b∧i∉a∧i∉b:=by
 refine ⟨List.range i,(List.range (n-i-1)).map (fun j=>i+1+j),?_,by simp,by simp;omega⟩
 have:n=i+(1+(n-i-1)):=by omega
 rw [this,List.range_add,List.range_add]
 simp [List.range_succ,Nat.add_assoc,Function.comp_def]
theorem zoK {p:zb} {s s':za} {g:Gh} (hb:s'.Bins=s.Bins) {w:Int} (hw:1≤w∧w≤p.Workers) {t c:Nat} {l:List Int}: ∃a b,yA p s g=a++g.D w++b∧yA p s' (WW g w t l c)=a++l++b:=by
 obtain ⟨a,b,e,ha,hb'⟩:=zwS (n:=p.Workers.toNat) (i:=(w-1).toNat) (by omega)
 have ew:(((w-1).toNat:Nat):Int)+1=w:=by omega
 have ne: ∀j:Nat,j≠(w-1).toNat→(j:Int)+1≠w:=fun j hj e=>hj (by omega)
 refine ⟨g.F.flatMap (vQ s)++a.flatMap (fun i:Nat=>g.D ((i:Int)+1)),b.flatMap (fun i:Nat=>g.D ((i:Int)+1)),?_,?_⟩
 ·unfold yA
  rw [e,List.flatMap_append,List.flatMap_cons,ew]
  simp [List.append_assoc]
 ·unfold yA vQ
  rw [hb,e,List.flatMap_append,List.flatMap_cons,ew,wG.1]
  have h1:a.flatMap (fun i:Nat=>(WW g w t l c).D ((i:Int)+1))=a.flatMap (fun i:Nat=>g.D ((i:Int)+1)):=by
   refine xL (fun j hj=> ?_);exact (YT (ne j (fun e=>ha (e▸hj)))).1
  have h2:b.flatMap (fun i:Nat=>(WW g w t l c).D ((i:Int)+1))=b.flatMap (fun i:Nat=>g.D ((i:Int)+1)):=by
   refine xL (fun j hj=> ?_);exact (YT (ne j (fun e=>hb' (e▸hj)))).1
  rw [h1,h2]
  have hF:(WW g w t l c).F=g.F:=rfl
  rw [hF]
  simp [List.append_assoc]
theorem Mv.weak {p:zb} {nb:Nat} {m m':List (BitVec 64)} (M:Mv p nb [] m m') (Y:List Int):Mv p nb Y m m':=⟨M.hd,fun x a b _=>M.nx x a b (by simp)⟩
theorem Mv.grow {p:zb} {nb:Nat} {X Y:List Int} {m m':List (BitVec 64)} (M:Mv p nb X m m') (h: ∀x∈X,x∈Y):Mv p nb Y m m':=⟨M.hd,fun x a b c=>M.nx x a b (fun e=>c (h x e))⟩
theorem SX.chain {p:zb} (hp:zA p) {nb k:Nat} {s s':za} {g:Gh} {own own' F E:List Int} (X:SX p nb s g own k) (S':SOk p nb s') (hlow: ∀a,a<yh p→ld s'.M a=ld s.M a) (L':LI p nb s'.M (yh p) (zI p) F E own')
  (hv:xm (ld s'.M (yh p))≤k+1∧xm (ld s'.M (zI p))≤k+1):SX p nb s' {g with F:=F,E:=E} own' (k+1) :=
 ⟨S',L',fun w h1 h2=>(X.D w h1 h2).keep hp (fun a h3 h4=>hlow a (by have:=Xb hp h1 h2;omega)),hv,fun w h1 h2=>by have:=X.dk w h1 h2;show g.t w+(g.D w).length≤_;omega⟩
theorem FX.chain {p:zb} (hp:zA p) {nb:Nat} {Y:List Int} {O:Int→Prop} {s s':za} {g:Gh} {F E:List Int} (M:Mv p nb Y s.M s'.M) (hb:s'.Bins=s.Bins) (hlow: ∀a,a<yh p→ld s'.M a=ld s.M a):FX p nb Y O s s' g {g with F:=F,E:=E} :=
 ⟨M,fun _ _ _=>by rw [hb],fun w h1 h2=> .inl (.same rfl rfl rfl (fun a h3 h4=>hlow a (by have:=Xb hp h1 h2;omega)))⟩
theorem SX.popE {p:zb} (hp:zA p) {nb k:Nat} {s:za} {g:Gh} {own:List Int} (X:SX p nb s g own k) (hk:k<4294960000) {c:zH} (kd:c.Kind=2) (hh:c.Head=zI p) (hN:c.Next=zI p) (ho:c.Out=0) (hpc:0≤c.PC∧c.PC≤2) (K:CK p s.M c)
  (hn:1≤c.PC→1≤yx c.H∧yx c.H<nb) (S':SOk p nb {s with M:=(zm s.M c).1}) :
  ((zm s.M c).1=s.M∧(zm s.M c).2.Out≠1∧CK p s.M (zm s.M c).2∧((zm s.M c).2.Out=2→g.E=[])) ∨
  (∃x l,g.E=x::l∧(zm s.M c).2.Out=1∧(zm s.M c).2.X=x∧SX p nb {s with M:=(zm s.M c).1} {g with E:=l} (x::own) (k+1)∧∀Y O,FX p nb Y O s {s with M:=(zm s.M c).1} g {g with E:=l}):=by
 have hE:=wN hp
 have hnb:=X.S.nbk
 have hv:=X.v
 have hcells:=fun a (ha:a≠c.Head)=>zob s.M kd ha
 rcases zwa hp hnb.2 (L:=X.L.swap) kd hh hN ho hpc K hn (by omega) with ⟨a,b,e,d⟩ | ⟨x,l,a,b,e,d,f,v1,v2⟩
 ·exact .inl ⟨a,b,d,e⟩
 ·refine .inr ⟨x,l,a,b,e,X.chain hp S' (fun a ha=>hcells a (by omega)) d.swap ?_,fun Y O=>FX.chain hp (f.weak Y) rfl (fun a ha=>hcells a (by omega))⟩
  rw [v2,v1];omega
theorem SX.popF {p:zb} (hp:zA p) {nb k:Nat} {s:za} {g:Gh} {own:List Int} (X:SX p nb s g own k) (hk:k<4294960000) {c:zH} (kd:c.Kind=2) (hh:c.Head=yh p) (hN:c.Next=zI p) (ho:c.Out=0) (hpc:0≤c.PC∧c.PC≤2) (K:CK p s.M c)
  (hn:1≤c.PC→1≤yx c.H∧yx c.H<nb) (S':SOk p nb {s with M:=(zm s.M c).1}) :
  ((zm s.M c).1=s.M∧(zm s.M c).2.Out≠1∧CK p s.M (zm s.M c).2∧((zm s.M c).2.Out=2→g.F=[])) ∨
  (∃x l,g.F=x::l∧(zm s.M c).2.Out=1∧(zm s.M c).2.X=x∧SX p nb {s with M:=(zm s.M c).1} {g with F:=l} (x::own) (k+1)∧∀Y O,FX p nb Y O s {s with M:=(zm s.M c).1} g {g with F:=l}):=by
 have hE:=wN hp
 have hnb:=X.S.nbk
 have hv:=X.v
 have hcells:=fun a (ha:a≠c.Head)=>zob s.M kd ha
 rcases zwa hp hnb.2 (L:=X.L) kd hh hN ho hpc K hn (by omega) with ⟨a,b,e,d⟩ | ⟨x,l,a,b,e,d,f,v1,v2⟩
 ·exact .inl ⟨a,b,d,e⟩
 ·refine .inr ⟨x,l,a,b,e,X.chain hp S' (fun a ha=>hcells a (by omega)) d ?_,fun Y O=>FX.chain hp (f.weak Y) rfl (fun a ha=>hcells a (by omega))⟩
  rw [v2,v1];omega
theorem SX.pushF {p:zb} (hp:zA p) {nb k:Nat} {s:za} {g:Gh} {o1 o2:List Int} {b:Int} (X:SX p nb s g (o1++b::o2) k) (hk:k<4294960000) {c:zH} (kd:c.Kind=1) (hh:c.Head=yh p) (hN:c.Next=zI p) (hX:c.X=b) (ho:c.Out=0) (hpc:0≤c.PC∧c.PC≤2) (K:CK p s.M c)
  (hn:1≤c.PC→yx c.H<nb) (S':SOk p nb {s with M:=(zm s.M c).1}) :
  ((zm s.M c).2.Out=0∧SX p nb {s with M:=(zm s.M c).1} g (o1++b::o2) (k+1)∧CK p (zm s.M c).1 (zm s.M c).2∧(∀Y O,b∈Y→FX p nb Y O s {s with M:=(zm s.M c).1} g g)) ∨
  ((zm s.M c).2.Out=1∧SX p nb {s with M:=(zm s.M c).1} {g with F:=b::g.F} (o1++o2) (k+1)∧(∀Y O,FX p nb Y O s {s with M:=(zm s.M c).1} g {g with F:=b::g.F})):=by
 have hE:=wN hp
 have hnb:=X.S.nbk
 have hv:=X.v
 rcases zt4 hp hnb.2 (L:=X.L) kd hh hN hX ho hpc K hn (by omega) with ⟨a,l,d,e,f⟩ | ⟨a,l,d,e,f⟩
 ·refine .inl ⟨a,X.chain hp S' (fun a ha=>f a (by omega)) l ?_,e,fun Y O hb=>FX.chain hp (d.grow (fun x hx=>by rw [List.mem_singleton.1 hx];exact hb)) rfl (fun a ha=>f a (by omega))⟩
  show xm (ld (zm s.M c).1 (yh p))≤_∧xm (ld (zm s.M c).1 (zI p))≤_
  rw [f _ (by omega),f _ (by omega)];omega
 ·refine .inr ⟨a,X.chain hp S' (fun a ha=>f a (by omega) (by omega)) l ?_,fun Y O=>FX.chain hp (d.weak Y) rfl (fun a ha=>f a (by omega) (by omega))⟩
  show xm (ld (zm s.M c).1 (yh p))≤_∧xm (ld (zm s.M c).1 (zI p))≤_
  have f':=f (zI p) (by omega) (by omega)
  rw [f'];omega
theorem SX.pushE {p:zb} (hp:zA p) {nb k:Nat} {s:za} {g:Gh} {o1 o2:List Int} {b:Int} (X:SX p nb s g (o1++b::o2) k) (hk:k<4294960000) {c:zH} (kd:c.Kind=1) (hh:c.Head=zI p) (hN:c.Next=zI p) (hX:c.X=b) (ho:c.Out=0) (hpc:0≤c.PC∧c.PC≤2) (K:CK p s.M c)
  (hn:1≤c.PC→yx c.H<nb) (S':SOk p nb {s with M:=(zm s.M c).1}) :
  ((zm s.M c).2.Out=0∧SX p nb {s with M:=(zm s.M c).1} g (o1++b::o2) (k+1)∧CK p (zm s.M c).1 (zm s.M c).2∧(∀Y O,b∈Y→FX p nb Y O s {s with M:=(zm s.M c).1} g g)) ∨
  ((zm s.M c).2.Out=1∧SX p nb {s with M:=(zm s.M c).1} {g with E:=b::g.E} (o1++o2) (k+1)∧(∀Y O,FX p nb Y O s {s with M:=(zm s.M c).1} g {g with E:=b::g.E})):=by
 have hE:=wN hp
 have hnb:=X.S.nbk
 have hv:=X.v
 rcases zt4 hp hnb.2 (L:=X.L.swap) kd hh hN hX ho hpc K hn (by omega) with ⟨a,l,d,e,f⟩ | ⟨a,l,d,e,f⟩
 ·refine .inl ⟨a,X.chain hp S' (fun a ha=>f a (by omega)) l.swap ?_,e,fun Y O hb=>FX.chain hp (d.grow (fun x hx=>by rw [List.mem_singleton.1 hx];exact hb)) rfl (fun a ha=>f a (by omega))⟩
  show xm (ld (zm s.M c).1 (yh p))≤_∧xm (ld (zm s.M c).1 (zI p))≤_
  rw [f _ (by omega),f _ (by omega)];omega
 ·refine .inr ⟨a,X.chain hp S' (fun a ha=>f a (by omega) (by omega)) l.swap ?_,fun Y O=>FX.chain hp (d.weak Y) rfl (fun a ha=>f a (by omega) (by omega))⟩
  show xm (ld (zm s.M c).1 (yh p))≤_∧xm (ld (zm s.M c).1 (zI p))≤_
  have f':=f (yh p) (by omega) (by omega)
  rw [f'];omega
end
end Go.Pe.G
namespace Go.Pe.G
open Go.Pe
noncomputable section
theorem zCR {p:zb} {s:za} {g:Gh} {b:Int}:yA p s {g with F:=b::g.F}=vQ s b++yA p s g:=by
 unfold yA;simp [List.append_assoc]
theorem zCW {p:zb} {s:za} {g:Gh} {l:List Int}:yA p s {g with E:=l}=yA p s g:=rfl
theorem zAX {l:List Int} {t:Nat} {x:Int}:Dv t l t (l++[x]):=⟨Nat.le_refl _,fun _ h=>⟨by simp,by cases l with | nil=>exact absurd rfl h | cons a l=>rfl⟩⟩
theorem zxL {p:zb} (hp:zA p) {nb k:Nat} {R:List Int} {gh:Gh} {s:za} {g:zC} (hk:k<4294960000) (X:SX p nb s gh (wo g++R) k) (M:MOk p nb g) (h5o:g.PC=5→g.C.Out≠1) (G:GX p s gh g) :
  zpc p nb k R gh s g (zo s g).1 (zo s g).2:=by
 have S':=(zpl hp X.S M h5o).1
 have hP:=X.S.P
 have hpc:=G.pc
 have hmd:=G.md
 have hob:=G.ob
 revert S'
 unfold zo
 by_cases h0:g.Out=0
 rotate_left
 ·rw [if_pos (.inl h0)]
  intro S'
  exact .quiet X S' rfl rfl rfl rfl rfl G.c0 G
 rw [if_neg (by omega)]
 have hc0:g.Mode=1→gh.c g.Who=0:=fun h=>G.c0 h h0
 by_cases p7:g.PC=7
 ·rw [if_pos p7]
  obtain ⟨c1,c2,c3,c4,c5⟩:=G.c7 p7 h0
  obtain ⟨m1,m2,m3,m4,m5⟩:=M.c7 p7
  have eo:wo g=[g.Bin]:=ziE h0 (.inr p7)
  have eh:yS g=[g.Obj]:=vr h0 (by omega) (by omega)
  rw [eo] at X
  intro S'
  have S':SOk p nb {s with M:=(zm s.M g.C).1}:=S'
  unfold za9
  dsimp only
  rcases SX.pushF hp (o1:=[]) (o2:=R) (b:=g.Bin) X hk m1 m2 m3 c3 c1 c2 c4 m5 S' with ⟨a,b,c,d⟩ | ⟨a,b,d⟩
  ·rw [a]
   rw [if_neg (by decide)]
   have hout:=zby s.M c1 c2 (.inl m1)
   have hsame:=zk5 s.M g.C
   have hpc':0≤(zm s.M g.C).2.PC∧(zm s.M g.C).2.PC≤2:=by omega
   refine ⟨gh,by rw [show wo {g with C:=(zm s.M g.C).2}=[g.Bin] from ziE h0 (.inr p7)];exact b,?_,by rw [eo];exact d _ _ (by simp),fun h _=>hc0 h,fun _ h=> .inl h,[],?_,.inl ⟨rfl,rfl⟩⟩
   ·exact ⟨.inl h0,hpc,hmd,hob,fun h _=>hc0 h,fun e=>by have e:g.PC=5:=e;omega,fun _ _=>⟨a,hpc',(hsame.2.2.2 m1).trans c3,c,c5⟩,fun e=>by have e:g.PC=3:=e;omega⟩
   ·rw [uW rfl,show yS {g with C:=(zm s.M g.C).2}=[g.Obj] from vr h0 (by show (3:Int)≤g.PC;omega) (by show g.PC≤7;omega),eh]
    exact List.Perm.refl _
  ·rw [a,if_pos rfl]
   have e1:wo {g with C:=(zm s.M g.C).2,Out:=1}=[]:=vA (.inl (by show (1:Int)≠0;decide))
   have e2:yS {g with C:=(zm s.M g.C).2,Out:=1}=[]:=Zo (.inl (by show (1:Int)≠0;decide))
   refine ⟨{gh with F:=g.Bin::gh.F},by rw [e1];exact b,?_,by rw [eo];exact d _ _,fun h _=>hc0 h,fun y hy=>(List.mem_cons.1 hy).elim (fun e=> .inr (by rw [e];unfold vQ;rw [show ({s with M:=(zm s.M g.C).1}:za).Bins=s.Bins from rfl,c5];exact List.cons_ne_nil _ _)) .inl,[],?_,.inl ⟨rfl,rfl⟩⟩
   ·exact GX.plain (.inr rfl) hpc hmd hob (fun _ e=>by cases e) (.inl (by show (1:Int)≠0;decide))
   ·rw [e2,eh,zCR,uW rfl,List.append_nil]
    have:vQ {s with M:=(zm s.M g.C).1} g.Bin=[g.Obj]:=by unfold vQ;rw [show ({s with M:=(zm s.M g.C).1}:za).Bins=s.Bins from rfl,c5];rfl
    rw [this]
    exact List.perm_append_comm
 rw [if_neg p7]
 by_cases p6:g.PC=6
 ·rw [if_pos p6]
  have eo:wo g=[g.Bin]:=ziE h0 (.inl p6)
  have eh:yS g=[g.Obj]:=vr h0 (by omega) (by omega)
  have hb:=M.b6 p6
  have hbl:=X.S.bins
  intro S'
  unfold zuK
  unfold zuK at S'
  have e1:wo {g with PC:=7,C:=⟨1,0,yh s.P,zI s.P,0#64,g.Bin,0,0⟩}=[g.Bin]:=ziE h0 (.inr rfl)
  have hget: ∀b,1≤b→b∉wo g→(s.Bins.set g.Bin.toNat [g.Obj])[b.toNat]? =s.Bins[b.toNat]? :=fun b b1 b2=>by
   rw [List.getElem?_set_ne]
   intro e
   rw [eo] at b2
   exact b2 (by rw [show b=g.Bin by omega];simp)
  refine ⟨gh,by rw [e1,←eo];exact X.quiet S' rfl,?_,FX.quiet rfl hget,fun h _=>hc0 h,fun _ h=> .inl h,[],?_,.inl ⟨rfl,rfl⟩⟩
  ·refine ⟨.inl h0,⟨by show (0:Int)≤7;decide,by show (7:Int)≤7;decide⟩,hmd,hob,fun h _=>hc0 h,fun e=>absurd e (by show ¬(7:Int)=5;decide),fun _ _=>⟨rfl,⟨by show (0:Int)≤0;decide,by show (0:Int)≤2;decide⟩,rfl,⟨fun e=>absurd e (by show ¬(1:Int)≤0;decide),fun e=>absurd e (by show ¬(0:Int)=2;decide),fun e=>absurd e (by show ¬(0:Int)=2;decide)⟩,?_⟩,fun e=>absurd e (by show ¬(7:Int)=3;decide)⟩
   show (s.Bins.set g.Bin.toNat [g.Obj])[g.Bin.toNat]? =_
   rw [List.getElem?_set_self (by omega)]
  ·rw [show yS {g with PC:=7,C:=⟨1,0,yh s.P,zI s.P,0#64,g.Bin,0,0⟩}=[g.Obj] from vr h0 (by show (3:Int)≤7;decide) (by show (7:Int)≤7;decide),eh]
   have:yA p {s with Bins:=s.Bins.set g.Bin.toNat [g.Obj]} gh=yA p s gh:=by
    unfold yA
    congr 1
    refine xL (fun b hb=> ?_)
    have hm:=X.L.cF.mem b hb
    have hno:=(X.L.notF (x:=g.Bin) (by rw [eo];simp)).1
    unfold vQ
    rw [show ({s with Bins:=s.Bins.set g.Bin.toNat [g.Obj]}:za).Bins=s.Bins.set g.Bin.toNat [g.Obj] from rfl,hget b hm.1 (by rw [eo];intro e;rw [List.mem_singleton.1 e] at hb;exact hno hb)]
   rw [this];exact List.Perm.refl _
 rw [if_neg p6]
 have eo:wo g=[]:=vA (.inr ⟨p6,p7⟩)
 by_cases p5:g.PC=5
 ·rw [if_pos p5]
  obtain ⟨c1,c2,c3⟩:=G.c5 p5 h0
  obtain ⟨m1,m2,m3,m4,m5⟩:=M.c5 p5
  have eh:yS g=[g.Obj]:=vr h0 (by omega) (by omega)
  intro S'
  have S':SOk p nb {s with M:=(zm s.M g.C).1}:=S'
  unfold zhV
  dsimp only
  rcases SX.popE hp X hk m1 m2 m3 c1 c2 c3 m4 S' with ⟨a,b,c,d⟩ | ⟨x,l,a,b,c,d,e⟩
  ·rw [if_neg b]
   have hout:=zby s.M c1 c2 (.inr m1)
   by_cases o2:(zm s.M g.C).2.Out=2
   ·rw [if_pos o2]
    refine .quiet X S' a rfl rfl ?_ ?_ G.c0 (GX.ask h0 hmd hob hc0 _)
    ·rw [eo];exact vA (.inr ⟨by show (5:Int)≠6;decide,by show (5:Int)≠7;decide⟩)
    ·rw [eh];exact vr h0 (by show (3:Int)≤5;decide) (by show (5:Int)≤7;decide)
   ·rw [if_neg o2]
    have hpc':(zm s.M g.C).2.Out=0∧0≤(zm s.M g.C).2.PC∧(zm s.M g.C).2.PC≤2:=by omega
    refine .quiet X S' a rfl rfl ?_ ?_ G.c0 ⟨.inl h0,hpc,hmd,hob,G.c0,fun _ _=>⟨hpc'.1,hpc'.2,by rw [show ({s with M:=(zm s.M g.C).1}:za).M=s.M from a];exact c⟩,fun e=>by have e:g.PC=7:=e;omega,fun e=>by have e:g.PC=3:=e;omega⟩
    ·rw [eo];exact vA (.inr ⟨p6,p7⟩)
    ·rw [eh];exact vr h0 (by show (3:Int)≤g.PC;omega) (by show g.PC≤7;omega)
  ·rw [if_pos b]
   have e1:wo {g with PC:=6,C:=(zm s.M g.C).2,Bin:=(zm s.M g.C).2.X}=[x]:=by rw [←c];exact ziE (g:={g with PC:=6,C:=(zm s.M g.C).2,Bin:=(zm s.M g.C).2.X}) h0 (.inl rfl)
   refine ⟨{gh with E:=l},by rw [e1];rw [eo] at d;exact d,?_,e _ _,fun h _=>hc0 h,fun _ h=> .inl h,[],?_,.inl ⟨rfl,rfl⟩⟩
   ·exact GX.plain (.inl h0) ⟨by show (0:Int)≤6;decide,by show (6:Int)≤7;decide⟩ hmd hob (fun h _=>hc0 h) (.inr ⟨by show (6:Int)≠3;decide,by show (6:Int)≠5;decide,by show (6:Int)≠7;decide⟩)
   ·rw [zCW,uW rfl,eh,show yS {g with PC:=6,C:=(zm s.M g.C).2,Bin:=(zm s.M g.C).2.X}=[g.Obj] from vr h0 (by show (3:Int)≤6;decide) (by show (6:Int)≤7;decide)]
    exact List.Perm.refl _
 rw [if_neg p5]
 by_cases p4:g.PC=4
 ·rw [if_pos p4]
  intro S'
  refine .quiet X S' rfl rfl rfl ?_ ?_ G.c0 (GX.ask h0 hmd hob hc0 _)
  ·rw [eo];exact vA (.inr ⟨by show (5:Int)≠6;decide,by show (5:Int)≠7;decide⟩)
  ·rw [vr h0 (by omega) (by omega)];exact vr h0 (by show (3:Int)≤5;decide) (by show (5:Int)≤7;decide)
 rw [if_neg p4]
 by_cases p3:g.PC=3
 ·rw [if_pos p3]
  obtain ⟨c1,c2,c3⟩:=G.d3 p3 h0
  have hw:=M.who c1
  have eh:yS g=[g.Obj]:=vr h0 (by omega) (by omega)
  have hdk:=X.dk g.Who hw.1 hw.2
  have hlen:=X.L.len
  have hE:=wN hp
  have hc00:=c3.c0
  have c3':=c3
  rw [hc00] at c3'
  have D0:=X.D g.Who hw.1 hw.2
  rw [hc00] at D0
  obtain ⟨a,b,r⟩:=zuz hp hw (by omega) D0 c3' (by omega) (by rw [c2];omega)
  intro S'
  have S':SOk p nb {s with M:=(yW s.M g.D).1}:=S'
  unfold zih
  dsimp only
  rcases r with ⟨r1,r2,r3⟩ | ⟨r1,r2⟩ | ⟨r1,r2⟩
  ·rw [r1,if_neg (by decide),if_neg (by decide)]
   have e1:wo {g with D:=(yW s.M g.D).2}=[]:=vA (.inr ⟨p6,p7⟩)
   refine ⟨WW gh g.Who (gh.t g.Who) (gh.D g.Who) 0,?_,?_,FX.own (O:=zuS g) (s:=s) (s':={s with M:=(yW s.M g.D).1}) (g:=gh) hp hw a rfl ⟨c1,rfl⟩ (Dv.refl _ _),fun _ _=>wG.2.2,fun _ h=> .inl h,[],?_,.inl ⟨rfl,rfl⟩⟩
   ·rw [e1];rw [eo] at X;exact X.dq hp S' (zhU _ _) hw a r2 (by omega)
   ·refine ⟨.inl h0,hpc,hmd,hob,fun _ _=>wG.2.2,fun e=>by have e:g.PC=5:=e;omega,fun e=>by have e:g.PC=7:=e;omega,fun _ _=>⟨c1,b.trans c2,?_⟩⟩
    show DK p (yW s.M g.D).1 g.Who ((WW gh g.Who (gh.t g.Who) (gh.D g.Who) 0).t g.Who) _ _ _
    rw [wG.1,wG.2.1,wG.2.2];exact r3
   ·obtain ⟨u,v,f1,f2⟩:=zoK (p:=p) (s:=s) (s':={s with M:=(yW s.M g.D).1}) (g:=gh) rfl hw (t:=gh.t g.Who) (c:=0) (l:=gh.D g.Who)
    rw [f1,f2,eh,show yS {g with D:=(yW s.M g.D).2}=[g.Obj] from vr h0 (by show (3:Int)≤g.PC;omega) (by show g.PC≤7;omega)]
    exact List.Perm.refl _
  ·rw [r1,if_neg (by decide),if_pos rfl]
   have e1:wo (zdH s.P {g with D:=(yW s.M g.D).2})=[]:=vA (.inr ⟨by show (5:Int)≠6;decide,by show (5:Int)≠7;decide⟩)
   refine ⟨WW gh g.Who (gh.t g.Who) (gh.D g.Who) 0,?_,?_,FX.own (O:=zuS g) (s:=s) (s':={s with M:=(yW s.M g.D).1}) (g:=gh) hp hw a rfl ⟨c1,rfl⟩ (Dv.refl _ _),fun _ _=>wG.2.2,fun _ h=> .inl h,[],?_,.inl ⟨rfl,rfl⟩⟩
   ·rw [e1];rw [eo] at X;exact X.dq hp S' (zhU _ _) hw a r2 (by omega)
   ·exact GX.ask (g:={g with D:=(yW s.M g.D).2}) h0 hmd hob (fun _=>wG.2.2) _
   ·obtain ⟨u,v,f1,f2⟩:=zoK (p:=p) (s:=s) (s':={s with M:=(yW s.M g.D).1}) (g:=gh) rfl hw (t:=gh.t g.Who) (c:=0) (l:=gh.D g.Who)
    rw [f1,f2,eh,show yS (zdH s.P {g with D:=(yW s.M g.D).2})=[g.Obj] from vr h0 (by show (3:Int)≤5;decide) (by show (5:Int)≤7;decide)]
    exact List.Perm.refl _
  ·rw [r1,if_pos rfl]
   have e1:wo {g with D:=(yW s.M g.D).2,Out:=1}=[]:=vA (.inl (by show (1:Int)≠0;decide))
   refine ⟨WW gh g.Who (gh.t g.Who) (gh.D g.Who++[g.D.X]) 0,?_,?_,FX.own (O:=zuS g) (s:=s) (s':={s with M:=(yW s.M g.D).1}) (g:=gh) hp hw a rfl ⟨c1,rfl⟩ zAX,fun _ _=>wG.2.2,fun _ h=> .inl h,[],?_,.inl ⟨rfl,rfl⟩⟩
   ·rw [e1];rw [eo] at X;exact X.dq hp S' (zhU _ _) hw a r2 (by rw [List.length_append,List.length_singleton];omega)
   ·exact GX.plain (.inr rfl) hpc hmd hob (fun _ e=>by cases e) (.inl (by show (1:Int)≠0;decide))
   ·obtain ⟨u,v,f1,f2⟩:=zoK (p:=p) (s:=s) (s':={s with M:=(yW s.M g.D).1}) (g:=gh) rfl hw (t:=gh.t g.Who) (c:=0) (l:=gh.D g.Who++[g.D.X])
    rw [f1,f2,eh,show yS {g with D:=(yW s.M g.D).2,Out:=1}=[] from Zo (.inl (by show (1:Int)≠0;decide)),c2,List.append_nil,List.nil_append]
    simp only [List.append_assoc]
    refine List.Perm.append_left _ (List.Perm.append_left _ ?_)
    exact List.perm_append_comm
 rw [if_neg p3]
 by_cases p2:g.PC=2
 ·rw [if_pos p2]
  intro S'
  refine .quiet X S' rfl rfl rfl ?_ ?_ G.c0 (GX.plain (.inr rfl) hpc hmd hob (fun _ e=>by cases e) (.inl (by show (1:Int)≠0;decide)))
  ·rw [eo];exact vA (.inl (by show (1:Int)≠0;decide))
  ·rw [Zo (g:=g) (.inr (.inl (by omega)))];exact Zo (.inl (by show (1:Int)≠0;decide))
 rw [if_neg p2]
 by_cases p1:g.PC=1
 ·rw [if_pos p1]
  have eh:yS g=[]:=Zo (.inr (.inl (by omega)))
  intro S'
  unfold zh1
  unfold zh1 at S'
  dsimp only at S' ⊢
  by_cases hs:(vk s.T g.Obj).2=false
  ·have eT:(vk s.T g.Obj).1=s.T:=by
    unfold vk at hs ⊢
    split at hs
    ·rename_i h1;rw [if_pos h1]
    ·rename_i h1
     split at hs
     ·cases hs
     ·rename_i h2;rw [if_neg h1,if_neg h2]
   rw [if_pos hs]
   refine .quiet X S' rfl rfl eT ?_ ?_ G.c0 (GX.plain (.inl h0) ⟨by show (0:Int)≤2;decide,by show (2:Int)≤7;decide⟩ hmd hob G.c0 (.inr ⟨by show (2:Int)≠3;decide,by show (2:Int)≠5;decide,by show (2:Int)≠7;decide⟩))
   ·rw [eo];exact vA (.inr ⟨by show (2:Int)≠6;decide,by show (2:Int)≠7;decide⟩)
   ·rw [eh];exact Zo (.inr (.inl (by show (2:Int)<3;decide)))
  ·have eT: ¬(s.T.Marks|||bit g.Obj=s.T.Marks)∧(vk s.T g.Obj).1={s.T with Marks:=s.T.Marks|||bit g.Obj}:=by
    unfold vk at hs ⊢
    split at hs
    ·exact absurd rfl hs
    ·rename_i h1
     split at hs
     ·rename_i h2;exact ⟨h1,by rw [if_neg h1,if_pos h2]⟩
     ·exact absurd rfl hs
   rw [if_neg hs]
   have fin: ∀g':zC,wo g'=[]→yS g'=[g.Obj]→GX p {s with T:=(vk s.T g.Obj).1} gh g'→zpc p nb k R gh s g {s with T:=(vk s.T g.Obj).1} g':=fun g' a b c =>
    ⟨gh,by rw [a,←eo];exact X.quiet S' rfl,c,FX.quiet rfl (fun _ _ _=>rfl),fun h _=>hc0 h,fun _ h=> .inl h,[g.Obj],by rw [uW rfl,b,eh,List.append_nil];exact List.perm_append_comm,.inr ⟨rfl,eT.1,eT.2⟩⟩
   by_cases q1:g.Mode=1
   ·rw [if_pos q1]
    have hw:=M.who q1
    refine fin _ (vA (.inr ⟨by show (3:Int)≠6;decide,by show (3:Int)≠7;decide⟩)) (vr h0 (by show (3:Int)≤3;decide) (by show (3:Int)≤7;decide))
     ⟨.inl h0,⟨by show (0:Int)≤3;decide,by show (3:Int)≤7;decide⟩,hmd,hob,G.c0,fun e=>absurd e (by show ¬(3:Int)=5;decide),fun e=>absurd e (by show ¬(3:Int)=7;decide),fun _ _=>⟨q1,rfl,⟨rfl,by rw [hP],by rw [hP],rfl,hc0 q1,⟨by show (0:Int)≤0;decide,by show (0:Int)≤3;decide⟩,fun e=>absurd e (by show ¬(1:Int)≤0;decide),fun e=>absurd e (by show ¬(2:Int)≤0;decide),fun e=>absurd e (by show ¬(3:Int)≤0;decide)⟩⟩⟩
   rw [if_neg q1]
   by_cases q2:g.Mode=2
   ·rw [if_pos q2]
    exact fin _ (vA (.inr ⟨by show (4:Int)≠6;decide,by show (4:Int)≠7;decide⟩)) (vr h0 (by show (3:Int)≤4;decide) (by show (4:Int)≤7;decide))
     (GX.plain (.inl h0) ⟨by show (0:Int)≤4;decide,by show (4:Int)≤7;decide⟩ hmd hob G.c0 (.inr ⟨by show (4:Int)≠3;decide,by show (4:Int)≠5;decide,by show (4:Int)≠7;decide⟩))
   ·rw [if_neg q2]
    exact fin _ (vA (.inr ⟨by show (5:Int)≠6;decide,by show (5:Int)≠7;decide⟩)) (vr h0 (by show (3:Int)≤5;decide) (by show (5:Int)≤7;decide)) (GX.ask h0 hmd hob hc0 _)
 ·rw [if_neg p1]
  intro S'
  refine .quiet X S' rfl rfl rfl ?_ ?_ G.c0 (GX.plain (.inl h0) ⟨by show (0:Int)≤1;decide,by show (1:Int)≤7;decide⟩ hmd hob G.c0 (.inr ⟨by show (1:Int)≠3;decide,by show (1:Int)≠5;decide,by show (1:Int)≠7;decide⟩))
  ·rw [eo];exact vA (.inr ⟨by show (1:Int)≠6;decide,by show (1:Int)≠7;decide⟩)
  ·rw [Zo (g:=g) (.inr (.inl (by omega)))];exact Zo (.inr (.inl (by show (1:Int)<3;decide)))
end
end Go.Pe.G
